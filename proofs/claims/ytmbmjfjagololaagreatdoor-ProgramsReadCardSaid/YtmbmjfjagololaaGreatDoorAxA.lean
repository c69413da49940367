/- AxCore: abstract values, abstract heap objects, and what they say of a world. No condition: definitions and their monotonicity. -/
import Derived.Orders
import Derived.Scope
import Derived.Laws.Sem
import Derived.Laws.CopyRow
import GoSem.Extern.Table
import Derived.Laws.Strings
import GoSem.Builtin.Append
import GoSem.Builtin.Len
import GoSem.Builtin.Cap
import GoSem.Builtin.Min
import GoSem.Builtin.Max
import GoSem.Builtin.Copy
import GoSem.Builtin.Clear
import GoSem.Instr.MapUpdate
import GoSem.Instr.MapEntry
import GoSem.Builtin.Delete
import GoSem.Instr.Range
import GoSem.Instr.Next
import GoSem.Instr.Entry
import GoSem.Dispatch
set_option linter.unusedSimpArgs false
set_option linter.unusedVariables false
namespace Go.Ax
theorem b41:type_of% @List.length_map:=@List.length_map
theorem b43:type_of% @List.nil_append:=@List.nil_append
theorem b46:type_of% @Bool.and_eq_true:=@Bool.and_eq_true
theorem b82:type_of% @List.cons_append:=@List.cons_append
theorem b94:type_of% @List.length_cons:=@List.length_cons
theorem c35:type_of% @List.take_succ_cons:=@List.take_succ_cons
theorem e24:type_of% @Option.isSome_iff_exists:=@Option.isSome_iff_exists
theorem e25:type_of% @List.mem_of_getElem?:=@List.mem_of_getElem?
theorem e26:type_of% @List.getElem?_eq_some_iff:=@List.getElem?_eq_some_iff
theorem e27:type_of% @List.length_nil:=@List.length_nil
theorem e28:type_of% @List.take_zero:=@List.take_zero
theorem e29:type_of% @List.getElem?_cons_zero:=@List.getElem?_cons_zero
theorem e2a:type_of% @Option.map_some:=@Option.map_some
theorem e2b:type_of% @List.map_cons:=@List.map_cons
theorem e2c:type_of% @Nat.le_refl:=@Nat.le_refl
theorem e2d:type_of% @decide_eq_true_eq:=@decide_eq_true_eq
theorem e2e:type_of% @List.getElem?_map:=@List.getElem?_map
theorem e2f:type_of% @List.length_append:=@List.length_append
theorem e2g:type_of% @List.idxOf?_cons:=@List.idxOf?_cons
theorem e2h:type_of% @List.append_nil:=@List.append_nil
theorem e2i:type_of% @if_neg:=@if_neg
theorem e3a:type_of% @List.map_nil:=@List.map_nil
theorem e3b:type_of% @List.mem_cons:=@List.mem_cons
theorem e3c:type_of% @List.take_of_length_le:=@List.take_of_length_le
theorem e3d:type_of% @decide_eq_true:=@decide_eq_true
theorem e3e:type_of% @cond_true:=@cond_true
theorem e3f:type_of% @Nat.blt_eq:=@Nat.blt_eq
theorem e3g:type_of% @if_pos:=@if_pos
theorem e3h:type_of% @Nat.zero_le:=@Nat.zero_le
theorem e3i:type_of% @Array.length_toList:=@Array.length_toList
theorem e3j:type_of% @List.map_append:=@List.map_append
theorem e3k:type_of% @List.count_le_length:=@List.count_le_length
theorem e3l:type_of% @List.getElem?_append_right:=@List.getElem?_append_right
theorem e3m:type_of% @Ne.symm:=@Ne.symm
theorem e3n:type_of% @List.all_eq_true:=@List.all_eq_true
theorem e3o:type_of% @beq_eq_false_iff_ne:=@beq_eq_false_iff_ne
theorem e3p:type_of% @cond_false:=@cond_false
theorem e3q:type_of% @List.getElem?_append_left:=@List.getElem?_append_left
theorem e3r:type_of% @List.mem_singleton:=@List.mem_singleton
theorem e3z:type_of% @List.take_length:=@List.take_length
theorem e4z:type_of% @List.length_take:=@List.length_take
theorem e50:type_of% @decide_eq_false:=@decide_eq_false
theorem e51:type_of% @List.getElem?_cons_succ:=@List.getElem?_cons_succ
theorem e52:type_of% @List.getElem?_eq_none:=@List.getElem?_eq_none
theorem e53:type_of% @Array.getD_eq_getD_getElem?:=@Array.getD_eq_getD_getElem?
theorem e54:type_of% @Array.getElem?_eq_some_iff:=@Array.getElem?_eq_some_iff
theorem e55:type_of% @Nat.zero_add:=@Nat.zero_add
theorem e56:type_of% @Array.getElem?_setIfInBounds:=@Array.getElem?_setIfInBounds
theorem e57:type_of% @Bool.and_self:=@Bool.and_self
theorem e58:type_of% @Nat.lt_of_lt_of_le:=@Nat.lt_of_lt_of_le
theorem e5a:type_of% @Nat.beq_eq:=@Nat.beq_eq
theorem e5b:type_of% @List.drop_zero:=@List.drop_zero
theorem e5c:type_of% @List.map_congr_left:=@List.map_congr_left
theorem e5d:type_of% @Bool.false_eq_true:=@Bool.false_eq_true
theorem e5e:type_of% @Nat.ble_eq:=@Nat.ble_eq
theorem e5f:type_of% @List.not_mem_nil:=@List.not_mem_nil
theorem e5g:type_of% @List.getElem?_take:=@List.getElem?_take
theorem e5h:type_of% @List.flatten_cons:=@List.flatten_cons
theorem e5i:type_of% @Bool.not_eq_true':=@Bool.not_eq_true'
theorem e5j:type_of% @List.append_assoc:=@List.append_assoc
theorem e5k:type_of% @Array.getElem?_push:=@Array.getElem?_push
theorem e5q:type_of% @Bool.not_eq_true:=@Bool.not_eq_true
theorem e5r:type_of% @List.mem_map_of_mem:=@List.mem_map_of_mem
theorem e5s:type_of% @Array.getElem?_append_left:=@Array.getElem?_append_left
theorem e5t:type_of% @Array.toList_map:=@Array.toList_map
theorem e5u:type_of% @Option.bind_some:=@Option.bind_some
theorem e5v:type_of% @List.getElem?_toArray:=@List.getElem?_toArray
theorem e5w:type_of% @Nat.le_trans:=@Nat.le_trans
theorem e5x:type_of% @Array.getElem?_modify:=@Array.getElem?_modify
theorem e5y:type_of% @Nat.add_zero:=@Nat.add_zero
theorem e5z:type_of% @Nat.mul_le_mul_right:=@Nat.mul_le_mul_right
theorem e63:type_of% @Option.join_some:=@Option.join_some
theorem e64:type_of% @Option.getD_some:=@Option.getD_some
theorem e65:type_of% @List.mem_append:=@List.mem_append
theorem e66:type_of% @List.nodup_cons:=@List.nodup_cons
theorem e67:type_of% @Array.getElem?_toList:=@Array.getElem?_toList
theorem e68:type_of% @List.length_singleton:=@List.length_singleton
theorem e6c:type_of% @Array.ext':=@Array.ext'
theorem e6d:type_of% @Bool.true_and:=@Bool.true_and
theorem e6e:type_of% @List.length_eq_zero_iff:=@List.length_eq_zero_iff
theorem e6f:type_of% @List.mem_of_mem_take:=@List.mem_of_mem_take
theorem e6g:type_of% @Option.map_eq_some_iff:=@Option.map_eq_some_iff
theorem e6h:type_of% @List.getElem?_drop:=@List.getElem?_drop
theorem e6i:type_of% @Bool.not_true:=@Bool.not_true
theorem e6j:type_of% @Nat.add_mul:=@Nat.add_mul
theorem e6k:type_of% @Nat.ble_eq_true_of_le:=@Nat.ble_eq_true_of_le
theorem e6l:type_of% @Nat.eq_of_beq_eq_true:=@Nat.eq_of_beq_eq_true
theorem e6m:type_of% @Nat.lt_or_ge:=@Nat.lt_or_ge
theorem e6n:type_of% @beq_iff_eq:=@beq_iff_eq
theorem e6o:type_of% @List.drop_eq_getElem_cons:=@List.drop_eq_getElem_cons
theorem e6p:type_of% @List.replicate_succ:=@List.replicate_succ
theorem e6q:type_of% @List.mem_map:=@List.mem_map
theorem e6r:type_of% @Array.toList_push:=@Array.toList_push
theorem e6s:type_of% @List.take_append_drop:=@List.take_append_drop
theorem e6t:type_of% @Bool.eq_false_iff:=@Bool.eq_false_iff
theorem e6u:type_of% @Bool.or_eq_true:=@Bool.or_eq_true
theorem e6v:type_of% @Nat.not_lt_zero:=@Nat.not_lt_zero
theorem e6w:type_of% @Nat.pow_le_pow_right:=@Nat.pow_le_pow_right
theorem e6x:type_of% @List.drop_eq_nil_of_le:=@List.drop_eq_nil_of_le
theorem e6y:type_of% @List.append_eq_nil_iff:=@List.append_eq_nil_iff
theorem e6z:type_of% @Array.toList_append:=@Array.toList_append
theorem e70:type_of% @List.take_add_one:=@List.take_add_one
theorem e71:type_of% @List.flatMap_cons:=@List.flatMap_cons
theorem e72:type_of% @List.length_pos_iff:=@List.length_pos_iff
theorem e73:type_of% @Array.getElem?_eq_getElem:=@Array.getElem?_eq_getElem
theorem e74:type_of% @List.length_replicate:=@List.length_replicate
theorem e75:type_of% @List.idxOf?_nil:=@List.idxOf?_nil
theorem e76:type_of% @if_false:=@if_false
theorem e77:type_of% @List.eq_of_mem_replicate:=@List.eq_of_mem_replicate
theorem e78:type_of% @if_true:=@if_true
theorem e79:type_of% @List.length_drop:=@List.length_drop
theorem e7a:type_of% @decide_true:=@decide_true
theorem e7b:type_of% @List.Perm.refl:=@List.Perm.refl
theorem e7c:type_of% @Bool.eq_iff_iff:=@Bool.eq_iff_iff
theorem e7d:type_of% @beq_self_eq_true:=@beq_self_eq_true
theorem e7e:type_of% @Nat.succ_mul:=@Nat.succ_mul
theorem e7f:type_of% @or_false:=@or_false
theorem e7g:type_of% @Bool.not_false:=@Bool.not_false
theorem e7h:type_of% @List.drop_drop:=@List.drop_drop
theorem z9e{α:Type}{l:List α}{i:Nat}(h:i<l.length):l[i]?=some l[i]:=List.getElem?_eq_getElem h
theorem z9o{α:Type}{a b:α}(h:some a=some b):a=b:=Option.some.inj h
inductive AV where
 |junk
 |bool (b:Bool)
 |int (k:IntKind)(n:Int)
 |str (s:List UInt8)
 |nilptr
 |nilslice
 |nilmap
 |nilfunc
 |nilifc
 |ptr (b i o:Nat)
 |iptr (cells:List AV)
 |slice (b off len:Nat)(cap:Option Nat)
 |islice (aa:List (List AV))(cap:Option Nat)
 |map (b:Nat)
 |imap (ks vs:List AV)(bs:List Nat)(co:Nat)
 |iset (ks:List Int)
 |yfn (b:Nat)
 |func (fn:Fn)(first iE:List AV)
 |iface (t:TypeId)(v:AV)
 |agg (cells:List AV)
 |tuple (vs:List AV)
 deriving Inhabited
structure Pl where
 blk:Nat
 off:Nat
 k:Nat
 room:Nat
abbrev PMap:=Nat→Option Pl
def noP:PMap:=λ_=>none
def USet(ks:List Int)(es:Array MapEntry)(cl:Nat):Prop:=(es.toList.map (·.key)).Perm (ks.map (Value.int .i64))∧(∀e∈es.toList,e.val = .bool true)∧ks.Nodup∧(es.toList.map (·.born)).Nodup∧∀e∈es.toList,e.born<cl
mutual
def VRel(I:Nat→Prop)(w:World):PMap→AV→Value→Prop
 |_,.junk,_=>True
 |_,.bool b,v=>v = .bool b
 |_,.int k n,v=>v = .int k n
 |_,.str s,v=>∃t:ByteArray,v = .string t∧t.data.toList=s
 |_,.nilptr,v=>v = .pointer none
 |_,.nilslice,v=>v = .slice none 0 0
 |_,.nilmap,v=>v = .map none
 |_,.nilfunc,v=>v = .nilFunc
 |_,.nilifc,v=>v = .nilIface
 |ρ,.ptr b i o,v=>∃m,ρ b=some m∧v = .pointer (some ⟨m.blk,m.off+i*m.k+o,none⟩)
 |_,.iptr cs,v=>∃c off,v = .pointer (some ⟨c,off,none⟩)∧I c∧VAt I w noP cs c off
 |ρ,.slice b off len cap,v=>∃a c,v = .slice (some a) len c∧len≤c∧(∀n,cap=some n→c=n)∧
  (c=0∨∃m,ρ b=some m∧a=⟨m.blk,m.off+off*m.k,none⟩∧m.off+(off+c)*m.k≤m.room)
 |_,.islice aa cap,v=>∃a c k,v = .slice (some a) aa.length c∧aa.length≤c∧(∀n,cap=some n→c=n)∧
  (aa=[]∨(a.spot=none∧I a.block∧VRows I w k noP aa a.block a.off))
 |ρ,.map b,v=>∃m,ρ b=some m∧v = .map (some m.blk)
 |_,.imap ks vs bs co,v=>∃c es,v = .map (some c)∧I c∧w.heap[c]?=some (.map es co)∧
  VRels I w noP ks (es.toList.map (·.key))∧VRels I w noP vs (es.toList.map (·.val))∧es.toList.map (·.born)=bs
 |_,.iset ks,v=>∃c es cl,v = .map (some c)∧I c∧w.heap[c]?=some (.map es cl)∧USet ks es cl
 |ρ,.yfn b,v=>∃m,ρ b=some m∧v = .func (.yield m.blk) #[] #[]
 |ρ,.func fn fs cs,v=>∃di aT:Array Value,v = .func fn di aT∧VRels I w ρ fs di.toList∧VRels I w ρ cs aT.toList
 |ρ,.iface t x,v=>∃x',v = .iface t x'∧VRel I w ρ x x'
 |ρ,.agg cs,v=>∃aT:Array Value,v = .agg aT∧VRels I w ρ cs aT.toList
 |ρ,.tuple cs,v=>∃aT:Array Value,v = .tuple aT∧VRels I w ρ cs aT.toList
def VRels(I:Nat→Prop)(w:World):PMap→List AV→List Value→Prop
 |_,[],l=>l=[]
 |ρ,v::vs,l=>∃c cs,l=c::cs∧VRel I w ρ v c∧VRels I w ρ vs cs
def VAt(I:Nat→Prop)(w:World):PMap→List AV→Nat→Nat→Prop
 |_,[],_,_=>True
 |ρ,v::vs,b,off=>(∃c,w.cell? ⟨b,off,none⟩=some c∧VRel I w ρ v c)∧VAt I w ρ vs b (off+1)
def VRows(I:Nat→Prop)(w:World)(k:Nat):PMap→List (List AV)→Nat→Nat→Prop
 |_,[],_,_=>True
 |ρ,r::rs,b,off=>r.length=k∧VAt I w ρ r b off∧VRows I w k ρ rs b (off+k)
end
theorem a74{w w':World}{b o:Nat}(h:w'.heap[b]?=w.heap[b]?):w'.cell? ⟨b,o,none⟩=w.cell? ⟨b,o,none⟩:=by simp[World.cell?,h]
section
variable {I I':Nat→Prop}{w w':World}
mutual
theorem VRel.mono(hI:∀c,I c→I' c)(hw:∀c,I c→w'.heap[c]?=w.heap[c]?) :
 ∀{ρ ρ':PMap} (v:AV) {c:Value},(∀b m,ρ b=some m→ρ' b=some m)→VRel I w ρ v c→VRel I' w' ρ' v c
 |ρ,ρ',v,c,hρ,h=>by
  cases v with
  |junk=>simp[VRel]
  |bool b=>simpa[VRel]using h
  |int k n=>simpa[VRel]using h
  |str s=>simpa[VRel]using h
  |nilptr=>simpa[VRel]using h
  |nilslice=>simpa[VRel]using h
  |nilmap=>simpa[VRel]using h
  |nilfunc=>simpa[VRel]using h
  |nilifc=>simpa[VRel]using h
  |ptr b i o=>simp only[VRel]at h⊢;obtain⟨m,hm,rfl⟩:=h;exact⟨m,hρ b m hm,rfl⟩
  |iptr cs=>simp only[VRel]at h⊢;obtain⟨b,off,rfl,hb,h⟩:=h;exact⟨b,off,rfl,hI _ hb,VAt.mono hI hw cs (λ_ _ h=>h) (hw _ hb) h⟩
  |slice b off len cap=>
   simp only[VRel]at h⊢;obtain⟨a,n,rfl,h1,h2,h3⟩:=h;refine⟨a,n,rfl,h1,h2,h3.imp id ?_⟩
   rintro⟨m,hm,rfl,hr⟩
   exact⟨m,hρ b m hm,rfl,hr⟩
  |islice aa cap=>
   simp only[VRel]at h⊢;obtain⟨a,n,k,rfl,h1,h2,h3⟩:=h;refine⟨a,n,k,rfl,h1,h2,h3.imp id ?_⟩
   rintro⟨hs,hb,h⟩
   exact⟨hs,hI _ hb,VRows.mono hI hw aa (λ_ _ h=>h) (hw _ hb) h⟩
  |map b=>simp only[VRel]at h⊢;obtain⟨m,hm,rfl⟩:=h;exact⟨m,hρ b m hm,rfl⟩
  |imap ks vs bs co=>simp only[VRel]at h⊢;obtain⟨b,es,rfl,hb,he,h1,h2,h3⟩:=h;exact⟨b,es,rfl,hI _ hb,by rw[hw _ hb,he],VRels.mono hI hw ks (λ_ _ h=>h) h1,VRels.mono hI hw vs (λ_ _ h=>h) h2,h3⟩
  |iset ks=>simp only[VRel]at h⊢;obtain⟨b,es,cl,rfl,hb,he,h1⟩:=h;exact⟨b,es,cl,rfl,hI _ hb,by rw[hw _ hb,he],h1⟩
  |yfn b=>simp only[VRel]at h⊢;obtain⟨m,hm,rfl⟩:=h;exact⟨m,hρ b m hm,rfl⟩
  |func fn fs cs=>simp only[VRel]at h⊢;obtain⟨di,aT,rfl,h1,h2⟩:=h;exact⟨di,aT,rfl,VRels.mono hI hw fs hρ h1,VRels.mono hI hw cs hρ h2⟩
  |iface t x=>simp only[VRel]at h⊢;obtain⟨x',rfl,h⟩:=h;exact⟨x',rfl,VRel.mono hI hw x hρ h⟩
  |agg cs=>simp only[VRel]at h⊢;obtain⟨aT,rfl,h⟩:=h;exact⟨aT,rfl,VRels.mono hI hw cs hρ h⟩
  |tuple cs=>simp only[VRel]at h⊢;obtain⟨aT,rfl,h⟩:=h;exact⟨aT,rfl,VRels.mono hI hw cs hρ h⟩
theorem VRels.mono(hI:∀c,I c→I' c)(hw:∀c,I c→w'.heap[c]?=w.heap[c]?) :
 ∀{ρ ρ':PMap} (vs:List AV) {cs:List Value},(∀b m,ρ b=some m→ρ' b=some m)→VRels I w ρ vs cs→VRels I' w' ρ' vs cs
 |ρ,ρ',[],cs,hρ,h=>by simpa[VRels]using h
 |ρ,ρ',v::vs,cs,hρ,h=>by simp only[VRels]at h⊢;obtain⟨c,aT,rfl,h1,h2⟩:=h;exact⟨c,aT,rfl,VRel.mono hI hw v hρ h1,VRels.mono hI hw vs hρ h2⟩
theorem VAt.mono(hI:∀c,I c→I' c)(hw:∀c,I c→w'.heap[c]?=w.heap[c]?) :
 ∀{ρ ρ':PMap} (vs:List AV) {b off:Nat},(∀b m,ρ b=some m→ρ' b=some m)→w'.heap[b]?=w.heap[b]?→VAt I w ρ vs b off→VAt I' w' ρ' vs b off
 |ρ,ρ',[],b,off,hρ,hb,h=>by simp[VAt]
 |ρ,ρ',v::vs,b,off,hρ,hb,h=>by simp only[VAt]at h⊢;obtain⟨⟨c,hc,h1⟩,h2⟩:=h;exact⟨⟨c,by rw[a74 hb,hc],VRel.mono hI hw v hρ h1⟩,VAt.mono hI hw vs hρ hb h2⟩
theorem VRows.mono{k:Nat}(hI:∀c,I c→I' c)(hw:∀c,I c→w'.heap[c]?=w.heap[c]?) :
 ∀{ρ ρ':PMap} (rs:List (List AV)) {b off:Nat},(∀b m,ρ b=some m→ρ' b=some m)→w'.heap[b]?=w.heap[b]?→VRows I w k ρ rs b off→VRows I' w' k ρ' rs b off
 |ρ,ρ',[],b,off,hρ,hb,h=>by simp[VRows]
 |ρ,ρ',r::rs,b,off,hρ,hb,h=>by simp only[VRows]at h⊢;obtain⟨h0,h1,h2⟩:=h;exact⟨h0,VAt.mono hI hw r hρ hb h1,VRows.mono hI hw rs hρ hb h2⟩
end
end
end Go.Ax
/- AxRel: abstract heaps against worlds; what a step may change; renaming of block numbers. -/
namespace Go.Ax
inductive YSt where
 |ready
 |busy
 |done (id:Option Nat)
 deriving Inhabited,DecidableEq
structure RInfo where
 N:Nat
 ps:List Nat
 asg:Code
 body:Code
 fid:Nat
structure GTab(α:Type) where
 glob:Nat→Option α
 rnd:Nat→Option RInfo
instance {α:Type}:CoeFun (GTab α) (λ_=>Nat→Option α):=⟨GTab.glob⟩
def b4n:Code→Bool
 |.rangeFunc _ _ _ _=>false
 |.seq a b=>b4n a&&b4n b
 |.cond _ a b=>b4n a&&b4n b
 |.block _ b=>b4n b
 |.loop b=>b4n b
 |.scope b=>b4n b
 |_=>true
def c1l:Option Nat→Code
 |none=>.ret
 |some id=>.exit id
inductive AObj where
 |row (k:Nat)(aa:List (List AV))
 |map (ks vs:List AV)(bs:List Nat)(co:Nat)
 |siter (s:List UInt8)(pos:Nat)
 |uset (ks:List Int)
 |miter (ks eh:List Int)(eK:Option (Option Int))
 |yloop (y:Nat)(F:List (Nat×AV))(st:YSt)
 |trow (t:Nat)(x:Bool)(k:Nat)(aa:List (List AV))
 deriving Inhabited
def b80:List (Nat×AV)→Nat→AV
 | [],_=>.junk
 |(s,v)::r,t=>bif Nat.beq s t then v else b80 r t
def e4x(G:GTab (List AV))(I:Nat→Prop)(w:World)(ρ:PMap)(l:Nat)(y:Nat)(F:List (Nat×AV))(st:YSt):Prop:=
 ∃(ri:RInfo) (r:Loop),G.rnd y=some ri∧w.heap[l]?=some (.loop r)∧r.tmps.size=ri.N∧r.params.toList=ri.ps∧r.assign=ri.asg∧r.body=ri.body∧(∀s,VRel I w ρ (b80 F s) (r.tmps.getD s undef))∧
  (match st with
   |.ready=>r.state = .ready∧r.pending=none
   |.busy=>r.state = .busy
   |.done j=>r.state = .done∧r.pending=some (c1l j))
def e4y(es:Array MapEntry)(seen:Array Nat)(eh:List Int):Prop:=∃em:List MapEntry,(∀e∈em,e∈es.toList)∧em.map (·.born)=seen.toList∧em.map (·.key)=eh.map (Value.int .i64)
abbrev FHeap:=Nat→Option AObj
def ORel(G:GTab (List AV))(I:Nat→Prop)(w:World)(ρ:PMap)(m:Pl):AObj→Prop
 |.row k aa=>m.k=k∧0<k∧(∃b6 e,w.heap[m.blk]?=some (.cells b6 e (0,0))∧b6.size=m.room∧m.off+aa.length*k≤m.room)∧VRows I w k ρ aa m.blk m.off
 |.map ks vs bs co=>∃es,w.heap[m.blk]?=some (.map es co)∧VRels I w ρ ks (es.toList.map (·.key))∧VRels I w ρ vs (es.toList.map (·.val))∧es.toList.map (·.born)=bs
 |.siter s pos=>m.off=0∧∃t,w.heap[m.blk]?=some (.stringIter t pos)∧t.data.toList=s
 |.uset ks=>∃es cl,w.heap[m.blk]?=some (.map es cl)∧USet ks es cl
 |.miter ks eh _=>m.off=0∧((ks=[]∧eh=[]∧w.heap[m.blk]?=some (.mapIter none 0 #[] 0))∨
  ∃c es cl seen,I c∧w.heap[c]?=some (.map es cl)∧USet ks es cl∧w.heap[m.blk]?=some (.mapIter (some c) cl seen cl)∧e4y es seen eh)
 |.yloop y F st=>e4x G I w ρ m.blk y F st
 |.trow t x k aa=>m.off=0∧m.k=k∧0<k∧(∃b6,w.heap[m.blk]?=some (.cells b6 t (0,0))∧b6.size=m.room∧aa.length*k≤m.room∧(x=true→m.room=aa.length*k))∧VRows I w k ρ aa m.blk 0
def GAt(I:Nat→Prop)(w:World)(cs:List AV)(g:Nat):Prop:=VAt I w noP cs g 0∧(cs≠[]→w.cell? ⟨g,cs.length,none⟩=none)
theorem GAt.mono{I I':Nat→Prop}{w w':World}(hI:∀c,I c→I' c)(hw:∀c,I c→w'.heap[c]?=w.heap[c]?)(cs:List AV){g:Nat}(hρ:∀(b:Nat) (m:Pl),noP b=some m→noP b=some m)(hb:w'.heap[g]?=w.heap[g]?)(h:GAt I w cs g):GAt I' w' cs g:=⟨VAt.mono hI hw cs hρ hb h.1,λhn=>by rw[a74 hb];exact h.2 hn⟩
structure HRel(G:GTab (List AV))(I K:Nat→Prop)(ρ:PMap)(h:FHeap)(w:World):Prop where
 live:∀b o,h b=some o→∃m,ρ b=some m∧¬I m.blk∧¬K m.blk∧ORel G I w ρ m o
 inj:∀b b' m m',(h b).isSome→(h b').isSome→ρ b=some m→ρ b'=some m'→m.blk=m'.blk→b=b'
 dom:∀b m,ρ b=some m→m.blk<w.heap.size
 imm:∀c,I c→c<w.heap.size
 kept:∀c,K c→c<w.heap.size
 apart:∀c,I c→¬K c
 glob:∀g cs,G g=some cs→I g∧GAt I w cs g
structure Ext(I K:Nat→Prop)(w w':World):Prop where
 os:w'.os=w.os
 tape:w'.tape=w.tape
 output:w'.output=w.output
 size:w.heap.size≤w'.heap.size
 keep:∀c,I c∨K c→w'.heap[c]?=w.heap[c]?
theorem Ext.refl(I K:Nat→Prop)(w:World):Ext I K w w:=⟨rfl,rfl,rfl,e2c _,λ_ _=>rfl⟩
theorem Ext.trans{I I' K:Nat→Prop}{w w' kK:World}(hI:∀c,I c→I' c)(h:Ext I K w w')(k:Ext I' K w' kK):Ext I K w kK:=
 ⟨k.os.trans h.os,k.tape.trans h.tape,k.output.trans h.output,e5w h.size k.size,
  λc hc=>(k.keep c (hc.imp (hI c) id)).trans (h.keep c hc)⟩
theorem ORel.mono{G:GTab (List AV)}{I I':Nat→Prop}{w w':World}{ρ ρ':PMap}{m:Pl}(o:AObj)(hI:∀c,I c→I' c)(hw:∀c,I c→w'.heap[c]?=w.heap[c]?)
 (hρ:∀b m,ρ b=some m→ρ' b=some m)(hb:w'.heap[m.blk]?=w.heap[m.blk]?)(h:ORel G I w ρ m o):ORel G I' w' ρ' m o:=by
 cases o with
 |row k aa=>obtain⟨h1,h2,⟨b6,e,h3,h4⟩,h5⟩:=h;exact⟨h1,h2,⟨b6,e,by rw[hb,h3],h4⟩,VRows.mono hI hw aa hρ hb h5⟩
 |map ks vs bs co=>obtain⟨es,h1,h2,h3,h4⟩:=h;exact⟨es,by rw[hb,h1],VRels.mono hI hw ks hρ h2,VRels.mono hI hw vs hρ h3,h4⟩
 |siter s pos=>obtain⟨h0,t,h1,h2⟩:=h;exact⟨h0,t,by rw[hb,h1],h2⟩
 |uset ks=>obtain⟨es,cl,h1,h2⟩:=h;exact⟨es,cl,by rw[hb,h1],h2⟩
 |miter ks eh eK=>
  obtain⟨h0,h⟩:=h;rcases h with ⟨h1,h2,h3⟩|⟨c,es,cl,seen,h1,h2,h3,h4,h5⟩
  ·exact⟨h0,.inl ⟨h1,h2,by rw[hb,h3]⟩⟩
  ·exact⟨h0,.inr ⟨c,es,cl,seen,hI c h1,by rw[hw c h1,h2],h3,by rw[hb,h4],h5⟩⟩
 |yloop y F st=>obtain⟨ri,r,h0,h1,h2,h3,h4,h5,h6,h7⟩:=h;exact⟨ri,r,h0,by rw[hb,h1],h2,h3,h4,h5,λs=>VRel.mono hI hw _ hρ (h6 s),h7⟩
 |trow t x k aa=>obtain⟨h0,h1,h2,⟨b6,h3,h4⟩,h5⟩:=h;exact⟨h0,h1,h2,⟨b6,by rw[hb,h3],h4⟩,VRows.mono hI hw aa hρ hb h5⟩
structure Stepped(G:GTab (List AV))(I K:Nat→Prop)(ρ:PMap)(w:World)(I':Nat→Prop)(ρ':PMap)(h':FHeap)(w':World):Prop where
 imm:∀c,I c→I' c
 map:∀b m,ρ b=some m→ρ' b=some m
 ext:Ext I K w w'
 rel:HRel G I' K ρ' h' w'
theorem Stepped.vrel{G I K ρ w I' ρ' h' w'}(s:Stepped G I K ρ w I' ρ' h' w'){v:AV}{c:Value}(h:VRel I w ρ v c):VRel I' w' ρ' v c:=VRel.mono s.imm (λc hc=>s.ext.keep c (.inl hc)) v s.map h
theorem Stepped.vrels{G I K ρ w I' ρ' h' w'}(s:Stepped G I K ρ w I' ρ' h' w'){v:List AV}{c:List Value}(h:VRels I w ρ v c):VRels I' w' ρ' v c:=VRels.mono s.imm (λc hc=>s.ext.keep c (.inl hc)) v s.map h
theorem Stepped.refl{G I K ρ h w}(r:HRel G I K ρ h w):Stepped G I K ρ w I ρ h w:=⟨λ_ h=>h,λ_ _ h=>h,Ext.refl _ _ _,r⟩
def SameMem(w w':World):Prop:=w'.heap=w.heap∧w'.tape=w.tape∧w'.os=w.os∧w'.output=w.output
section same
variable {I:Nat→Prop}{w w':World}
theorem SameMem.ext(s:SameMem w w')(I K:Nat→Prop):Ext I K w w':=⟨s.2.2.1,s.2.1,s.2.2.2,by rw[s.1];exact e2c _,λ_ _=>by rw[s.1]⟩
theorem HRel.same{G I K ρ h w w'}(r:HRel G I K ρ h w)(s:SameMem w w'):HRel G I K ρ h w':={
 live b o hb:=by obtain⟨m,h1,h2,h3,h4⟩:=r.live b o hb;exact⟨m,h1,h2,h3,ORel.mono o (λ_ h=>h) (λ_ _=>by rw[s.1]) (λ_ _ h=>h) (by rw[s.1]) h4⟩
 inj:=r.inj
 dom b m hb:=by rw[s.1];exact r.dom b m hb
 imm c hc:=by rw[s.1];exact r.imm c hc
 kept c hc:=by rw[s.1];exact r.kept c hc
 apart:=r.apart
 glob g cs hg:=⟨(r.glob g cs hg).1,GAt.mono (λ_ h=>h) (λ_ _=>by rw[s.1]) cs (λ_ _ h=>h) (by rw[s.1]) (r.glob g cs hg).2⟩}
theorem Stepped.same{G I K ρ h w w'}(r:HRel G I K ρ h w)(s:SameMem w w'):Stepped G I K ρ w I ρ h w':=⟨λ_ h=>h,λ_ _ h=>h,s.ext _ _,r.same s⟩
end same
theorem HRel.fewer{G I K ρ h h' w}(r:HRel G I K ρ h w)(hh:∀b o,h' b=some o→h b=some o):HRel G I K ρ h' w:={
 live b o hb:=r.live b o (hh b o hb)
 inj b b' m m' hb bE:=by
  refine r.inj b b' m m' ?_ ?_
  ·obtain⟨o,ho⟩:=e24.1 hb;rw[hh b o ho];rfl
  ·obtain⟨o,ho⟩:=e24.1 bE;rw[hh b' o ho];rfl
 dom:=r.dom
 imm:=r.imm
 kept:=r.kept
 apart:=r.apart
 glob:=r.glob}
/-! ### renaming -/
mutual
def ren(π:Nat→Option Nat):AV→AV
 |.ptr b i o=>match π b with|some b'=>.ptr b' i o|none=>.junk
 |.slice b off len cap=>match π b with|some b'=>.slice b' off len cap|none=>.junk
 |.map b=>match π b with|some b'=>.map b'|none=>.junk
 |.func fn fs cs=>.func fn (b87 π fs) (b87 π cs)
 |.iface t x=>.iface t (ren π x)
 |.agg cs=>.agg (b87 π cs)
 |.tuple cs=>.tuple (b87 π cs)
 |.iptr cs=>.iptr cs
 |.islice aa cap=>.islice aa cap
 |.imap ks vs bs co=>.imap ks vs bs co
 |.iset ks=>.iset ks
 |.yfn b=>match π b with|some b'=>.yfn b'|none=>.junk
 |.junk=>.junk
 |.bool b=>.bool b
 |.int k n=>.int k n
 |.str s=>.str s
 |.nilptr=>.nilptr
 |.nilslice=>.nilslice
 |.nilmap=>.nilmap
 |.nilfunc=>.nilfunc
 |.nilifc=>.nilifc
def b87(π:Nat→Option Nat):List AV→List AV
 | []=>[]
 |v::vs=>ren π v::b87 π vs
end
theorem a5w(π:Nat→Option Nat):∀l:List AV,b87 π l=l.map (ren π)
 | []=>rfl
 |v::vs=>by simp[b87,a5w π vs]
def a0t(π:Nat→Option Nat):AObj→AObj
 |.row k aa=>.row k (aa.map λr=>r.map (ren π))
 |.map ks vs bs co=>.map (ks.map (ren π)) (vs.map (ren π)) bs co
 |.siter s pos=>.siter s pos
 |.uset ks=>.uset ks
 |.miter ks eh eK=>.miter ks eh eK
 |.yloop y F st=>.yloop y (F.map λx=>(x.1,ren π x.2)) st
 |.trow t x k aa=>.trow t x k (aa.map λr=>r.map (ren π))
section
variable {I:Nat→Prop}{w:World}{π:Nat→Option Nat}{ρ ρ':PMap}
mutual
theorem VRel.ren(hπ:∀b b' m,π b=some b'→ρ b=some m→ρ' b'=some m):∀(v:AV) {c:Value},VRel I w ρ v c→VRel I w ρ' (Ax.ren π v) c
 |.ptr b i o,c,h=>by
  simp only[VRel]at h;obtain⟨m,hm,rfl⟩:=h;cases hb:π b with
  |none=>simp[Ax.ren,hb,VRel]
  |some b'=>simp only[Ax.ren,hb,VRel];exact⟨m,hπ b b' m hb hm,rfl⟩
 |.slice b off len cap,c,h=>by
  simp only[VRel]at h;obtain⟨a,n,rfl,h1,h2,h3⟩:=h;cases hb:π b with
  |none=>simp[Ax.ren,hb,VRel]
  |some b'=>
   simp only[Ax.ren,hb,VRel];refine⟨a,n,rfl,h1,h2,h3.imp id ?_⟩
   rintro⟨m,hm,rfl,hr⟩
   exact⟨m,hπ b b' m hb hm,rfl,hr⟩
 |.map b,c,h=>by
  simp only[VRel]at h;obtain⟨m,hm,rfl⟩:=h;cases hb:π b with
  |none=>simp[Ax.ren,hb,VRel]
  |some b'=>simp only[Ax.ren,hb,VRel];exact⟨m,hπ b b' m hb hm,rfl⟩
 |.func fn fs cs,c,h=>by simp only[VRel,Ax.ren]at h⊢;obtain⟨di,aT,rfl,h1,h2⟩:=h;exact⟨di,aT,rfl,VRels.ren hπ fs h1,VRels.ren hπ cs h2⟩
 |.iface t x,c,h=>by simp only[VRel,Ax.ren]at h⊢;obtain⟨x',rfl,h⟩:=h;exact⟨x',rfl,VRel.ren hπ x h⟩
 |.agg cs,c,h=>by simp only[VRel,Ax.ren]at h⊢;obtain⟨aT,rfl,h⟩:=h;exact⟨aT,rfl,VRels.ren hπ cs h⟩
 |.tuple cs,c,h=>by simp only[VRel,Ax.ren]at h⊢;obtain⟨aT,rfl,h⟩:=h;exact⟨aT,rfl,VRels.ren hπ cs h⟩
 |.iptr cs,c,h=>by simpa[VRel,Ax.ren]using h
 |.islice aa cap,c,h=>by simpa only[VRel,Ax.ren]using h
 |.imap ks vs bs co,c,h=>by simpa only[VRel,Ax.ren]using h
 |.iset ks,c,h=>by simpa only[VRel,Ax.ren]using h
 |.yfn b,c,h=>by
  simp only[VRel]at h;obtain⟨m,hm,rfl⟩:=h;cases hb:π b with
  |none=>simp[Ax.ren,hb,VRel]
  |some b'=>simp only[Ax.ren,hb,VRel];exact⟨m,hπ b b' m hb hm,rfl⟩
 |.junk,c,h=>by simp[VRel,Ax.ren]
 |.bool b,c,h=>by simpa[VRel,Ax.ren]using h
 |.int k n,c,h=>by simpa[VRel,Ax.ren]using h
 |.str s,c,h=>by simpa[VRel,Ax.ren]using h
 |.nilptr,c,h=>by simpa[VRel,Ax.ren]using h
 |.nilslice,c,h=>by simpa[VRel,Ax.ren]using h
 |.nilmap,c,h=>by simpa[VRel,Ax.ren]using h
 |.nilfunc,c,h=>by simpa[VRel,Ax.ren]using h
 |.nilifc,c,h=>by simpa[VRel,Ax.ren]using h
theorem VRels.ren(hπ:∀b b' m,π b=some b'→ρ b=some m→ρ' b'=some m):∀(vs:List AV) {cs:List Value},VRels I w ρ vs cs→VRels I w ρ' (b87 π vs) cs
 | [],cs,h=>by simpa[VRels,b87]using h
 |v::vs,cs,h=>by simp only[VRels,b87]at h⊢;obtain⟨c,aT,rfl,h1,h2⟩:=h;exact⟨c,aT,rfl,VRel.ren hπ v h1,VRels.ren hπ vs h2⟩
end
theorem VAt.ren(hπ:∀b b' m,π b=some b'→ρ b=some m→ρ' b'=some m):∀(vs:List AV) {b off:Nat},VAt I w ρ vs b off→VAt I w ρ' (vs.map (Ax.ren π)) b off
 | [],b,off,h=>by simp[VAt]
 |v::vs,b,off,h=>by simp only[VAt,e2b]at h⊢;obtain⟨⟨c,hc,h1⟩,h2⟩:=h;exact⟨⟨c,hc,VRel.ren hπ v h1⟩,VAt.ren hπ vs h2⟩
theorem VRows.ren{k:Nat}(hπ:∀b b' m,π b=some b'→ρ b=some m→ρ' b'=some m):∀(rs:List (List AV)) {b off:Nat},VRows I w k ρ rs b off→
 VRows I w k ρ' (rs.map λr=>r.map (Ax.ren π)) b off
 | [],b,off,h=>by simp[VRows]
 |r::rs,b,off,h=>by simp only[VRows,e2b]at h⊢;obtain⟨h0,h1,h2⟩:=h;exact⟨by simpa using h0,VAt.ren hπ r h1,VRows.ren hπ rs h2⟩
theorem b7z(π:Nat→Option Nat):∀(F:List (Nat×AV)) (s:Nat),b80 (F.map λx=>(x.1,Ax.ren π x.2)) s=Ax.ren π (b80 F s)
 | [],s=>by simp[b80,Ax.ren]
 |(t,v)::F,s=>by simp only[e2b,b80,b7z π F s];cases Nat.beq t s<;>rfl
theorem ORel.ren{G:GTab (List AV)}{m:Pl}(hπ:∀b b' m,π b=some b'→ρ b=some m→ρ' b'=some m)(o:AObj)(h:ORel G I w ρ m o):ORel G I w ρ' m (a0t π o):=by
 cases o with
 |row k aa=>obtain⟨h1,h2,h3,h5⟩:=h;exact⟨h1,h2,by simpa using h3,VRows.ren hπ aa h5⟩
 |map ks vs bs co=>obtain⟨es,h1,h2,h3,h4⟩:=h;exact⟨es,h1,by rw[←a5w];exact VRels.ren hπ ks h2,by rw[←a5w];exact VRels.ren hπ vs h3,h4⟩
 |siter s pos=>exact h
 |uset ks=>exact h
 |miter ks eh eK=>exact h
 |yloop y F st=>obtain⟨ri,r,h0,h1,h2,h3,h4,h5,h6,h7⟩:=h;refine⟨ri,r,h0,h1,h2,h3,h4,h5,λs=>?_,h7⟩;rw[b7z];exact VRel.ren hπ _ (h6 s)
 |trow t x k aa=>obtain⟨h0,h1,h2,h3,h5⟩:=h;exact⟨h0,h1,h2,by simpa using h3,VRows.ren hπ aa h5⟩
end
end Go.Ax
/- AxEff: what an operation may do to the abstract heap, and that the relation follows. -/
namespace Go.Ax
inductive Eff where
 |none
 |new (o:AObj)
 |set (b:Nat)(o:AObj)
 |kill (b:Nat)(o:AObj)
def PMap.set(ρ:PMap)(n:Nat)(m:Pl):PMap:=λb=>if b=n then some m else ρ b
def FHeap.set(h:FHeap)(n:Nat)(o:Option AObj):FHeap:=λb=>if b=n then o else h b
def FHeap.eff(h:FHeap)(n:Nat):Eff→FHeap
 |.none=>h
 |.new o=>h.set n (some o)
 |.set b o=>h.set b (some o)
 |.kill b o=>(h.set b Option.none).set n (some o)
def Eff.fresh:Eff→Bool
 |.new _|.kill _ _=>true
 |_=>false
def Moves(ρ ρ':PMap)(n:Nat)(e:Eff):Prop:=(∀b,b≠n→ρ' b=ρ b)∧(e.fresh=false→ρ'=ρ)
theorem Moves.same(ρ:PMap)(n:Nat)(e:Eff):Moves ρ ρ n e:=⟨λ_ _=>rfl,λ_=>rfl⟩
theorem Moves.set(ρ:PMap)(n:Nat){e:Eff}(m:Pl)(he:e.fresh=true):Moves ρ (ρ.set n m) n e:=⟨λb hb=>by simp[PMap.set,hb],λh=>by simp[he]at h⟩
theorem PMap.set_old{ρ:PMap}{n:Nat}{m:Pl}(hn:ρ n=Option.none):∀b m',ρ b=some m'→ρ.set n m b=some m':=by
 intro b m' h;unfold PMap.set;split
 ·subst b;simp[hn]at h
 ·exact h
section
variable {G:GTab (List AV)}{I K:Nat→Prop}{ρ:PMap}{h:FHeap}{w w':World}{n:Nat}
theorem a2d(r:HRel G I K ρ h w)(_:h n=none)(hρ:ρ n=none){ob:Obj}{o:AObj}{m:Pl}
 (hw:w'.heap=w.heap.push ob)(ht:w'.tape=w.tape)(gu:w'.os=w.os)(bh:w'.output=w.output)
 (hm:m.blk=w.heap.size)(ho:ORel G I w' (ρ.set n m) m o):Stepped G I K ρ w I (ρ.set n m) (h.eff n (.new o)) w':=by
 have a8:∀c,c<w.heap.size→w'.heap[c]?=w.heap[c]?:=by intro c hc;rw[hw,e5k,e2i (by omega)]
 have bt:=PMap.set_old (m:=m) hρ;refine⟨λ_ h=>h,bt,⟨gu,ht,bh,by rw[hw];simp,?_⟩,?_⟩
 ·rintro c (hc|hc)
  ·exact a8 c (r.imm c hc)
  ·exact a8 c (r.kept c hc)
 ·refine⟨?_,?_,?_,?_,?_,r.apart,?_⟩
  ·intro b o' hb;simp only[FHeap.eff,FHeap.set]at hb;split at hb
   ·subst b;cases hb;refine⟨m,by simp[PMap.set],λhc=>?_,λhc=>?_,ho⟩
    ·have:=r.imm _ hc;omega
    ·have:=r.kept _ hc;omega
   ·obtain⟨m',h1,h2,h3,h4⟩:=r.live b o' hb;exact⟨m',bt b m' h1,h2,h3,ORel.mono o' (λ_ h=>h) (λc hc=>a8 c (r.imm c hc)) bt (a8 _ (r.dom b m' h1)) h4⟩
  ·intro b b' m1 m2 hb bE h1 h2 he;simp only[FHeap.eff,FHeap.set,PMap.set]at hb bE h1 h2;split at hb<;>split at bE
   ·omega
   ·rename_i kR kD;rw[e3g kR]at h1;rw[e2i kD]at h2;cases h1;have:=r.dom b' m2 h2;omega
   ·rename_i kR kD;rw[e2i kR]at h1;rw[e3g kD]at h2;cases h2;have:=r.dom b m1 h1;omega
   ·rename_i kR kD;rw[e2i kR]at h1;rw[e2i kD]at h2;exact r.inj b b' m1 m2 hb bE h1 h2 he
  ·intro b m' hb;rw[hw];simp only[Array.size_push];simp only[PMap.set]at hb;split at hb
   ·cases hb;omega
   ·have:=r.dom b m' hb;omega
  ·intro c hc;rw[hw];simp only[Array.size_push];have:=r.imm c hc;omega
  ·intro c hc;rw[hw];simp only[Array.size_push];have:=r.kept c hc;omega
  ·intro g cs hg;obtain⟨h1,h2⟩:=r.glob g cs hg;exact⟨h1,GAt.mono (λ_ h=>h) (λc hc=>a8 c (r.imm c hc)) cs (λ_ _ h=>h) (a8 g (r.imm g h1)) h2⟩
theorem a2c(r:HRel G I K ρ h w){b:Nat}{o0 o:AObj}{m:Pl}(hb:h b=some o0)(hρ:ρ b=some m)
 (be:w'.heap.size=w.heap.size)(hw:∀c,c≠m.blk→w'.heap[c]?=w.heap[c]?)(ht:w'.tape=w.tape)(gu:w'.os=w.os)(bh:w'.output=w.output)
 (ho:ORel G I w' ρ m o):Stepped G I K ρ w I ρ (h.eff n (.set b o)) w':=by
 obtain⟨m',bz,eu,gT,_⟩:=r.live b o0 hb;obtain rfl:m=m':=z9o (hρ.symm.trans bz);have dm:∀c,I c→w'.heap[c]?=w.heap[c]?:=λc hc=>hw c (λe=>eu (e▸hc));refine⟨λ_ h=>h,λ_ _ h=>h,⟨gu,ht,bh,by omega,?_⟩,?_⟩
 ·rintro c (hc|hc)
  ·exact dm c hc
  ·exact hw c (λe=>gT (e▸hc))
 ·refine⟨?_,?_,?_,?_,?_,r.apart,?_⟩
  ·intro b' o' bE;simp only[FHeap.eff,FHeap.set]at bE;split at bE
   ·rename_i he;cases bE;subst he;exact⟨m,hρ,eu,gT,ho⟩
   ·rename_i aK;obtain⟨m',h1,h2,h3,h4⟩:=r.live b' o' bE;refine⟨m',h1,h2,h3,ORel.mono o' (λ_ h=>h) dm (λ_ _ h=>h) (hw _ ?_) h4⟩;intro e;exact aK (r.inj b' b m' m (by simp[bE]) (by simp[hb]) h1 hρ e)
  ·intro b1 b2 m1 m2 h1 h2;refine r.inj b1 b2 m1 m2 ?_ ?_
   ·simp only[FHeap.eff,FHeap.set]at h1;split at h1
    ·subst b1;simp[hb]
    ·exact h1
   ·simp only[FHeap.eff,FHeap.set]at h2;split at h2
    ·subst b2;simp[hb]
    ·exact h2
  ·intro b' m' bE;rw[be];exact r.dom b' m' bE
  ·intro c hc;rw[be];exact r.imm c hc
  ·intro c hc;rw[be];exact r.kept c hc
  ·intro g cs hg;obtain⟨h1,h2⟩:=r.glob g cs hg;exact⟨h1,GAt.mono (λ_ h=>h) dm cs (λ_ _ h=>h) (dm g h1) h2⟩
theorem b1w(r:HRel G I K ρ h w)(hh:h n=none)(hρ:ρ n=none)(b:Nat){ob:Obj}{o:AObj}{m:Pl}
 (hw:w'.heap=w.heap.push ob)(ht:w'.tape=w.tape)(gu:w'.os=w.os)(bh:w'.output=w.output)
 (hm:m.blk=w.heap.size)(ho:ORel G I w' (ρ.set n m) m o):Stepped G I K ρ w I (ρ.set n m) (h.eff n (.kill b o)) w':=by
 have r':HRel G I K ρ (h.set b none) w:=r.fewer (by
  intro b' o' bE;simp only[FHeap.set]at bE;split at bE
  ·cases bE
  ·exact bE)
 have:=a2d (h:=h.set b none) (n:=n) (o:=o) r' (by simp only[FHeap.set];split<;>simp_all) hρ hw ht gu bh hm ho;exact this
theorem a68(r:HRel G I K ρ h w)(hh:h n=none)(hρ:ρ n=none){b:Nat}{o0 o:AObj}{mb m:Pl}(hb:h b=some o0)(hρb:ρ b=some mb)
 (hm:m.blk=mb.blk)(be:w'.heap.size=w.heap.size)(hw:∀c,c≠mb.blk→w'.heap[c]?=w.heap[c]?)(ht:w'.tape=w.tape)(gu:w'.os=w.os)(bh:w'.output=w.output)
 (ho:ORel G I w' (ρ.set n m) m o):Stepped G I K ρ w I (ρ.set n m) (h.eff n (.kill b o)) w':=by
 obtain⟨m',bz,eu,gT,_⟩:=r.live b o0 hb;obtain rfl:mb=m':=z9o (hρb.symm.trans bz);have bt:=PMap.set_old (m:=m) hρ;have dm:∀c,I c→w'.heap[c]?=w.heap[c]?:=λc hc=>hw c (λe=>eu (e▸hc));have kR:b≠n:=λe=>by subst e;simp[hh]at hb
 have aq:=r.dom b mb hρb;refine⟨λ_ h=>h,bt,⟨gu,ht,bh,by omega,?_⟩,?_⟩
 ·rintro c (hc|hc)
  ·exact dm c hc
  ·exact hw c (λe=>gT (e▸hc))
 ·refine⟨?_,?_,?_,?_,?_,r.apart,?_⟩
  ·intro b' o' bE;simp only[FHeap.eff,FHeap.set]at bE;split at bE
   ·rename_i he;cases bE;subst he;exact⟨m,by simp[PMap.set],by rw[hm];exact eu,by rw[hm];exact gT,ho⟩
   ·rename_i aK;split at bE
    ·cases bE
    ·rename_i mI;obtain⟨m',h1,h2,h3,h4⟩:=r.live b' o' bE;refine⟨m',bt b' m' h1,h2,h3,ORel.mono o' (λ_ h=>h) dm bt (hw _ ?_) h4⟩;intro e;exact mI (r.inj b' b m' mb (by simp[bE]) (by simp[hb]) h1 hρb e)
  ·intro b1 b2 m1 m2 du d7 h1 h2 he;simp only[FHeap.eff,FHeap.set,PMap.set]at du d7 h1 h2;by_cases e1:b1=n<;>by_cases e2:b2=n
   ·omega
   ·rw[e3g e1]at h1;rw[e2i e2]at h2;rw[e2i e2]at d7;cases h1;split at d7
    ·cases d7
    ·rename_i aK;exact absurd (r.inj b2 b m2 mb d7 (by simp[hb]) h2 hρb (by omega)) aK
   ·rw[e2i e1]at h1;rw[e3g e2]at h2;rw[e2i e1]at du;cases h2;split at du
    ·cases du
    ·rename_i aK;exact absurd (r.inj b1 b m1 mb du (by simp[hb]) h1 hρb (by omega)) aK
   ·rw[e2i e1]at h1;rw[e2i e2]at h2;rw[e2i e1]at du;rw[e2i e2]at d7;split at du
    ·cases du
    ·split at d7
     ·cases d7
     ·exact r.inj b1 b2 m1 m2 du d7 h1 h2 he
  ·intro b' m' bE;rw[be];simp only[PMap.set]at bE;split at bE
   ·cases bE;omega
   ·exact r.dom b' m' bE
  ·intro c hc;rw[be];exact r.imm c hc
  ·intro c hc;rw[be];exact r.kept c hc
  ·intro g cs hg;obtain⟨h1,h2⟩:=r.glob g cs hg;exact⟨h1,GAt.mono (λ_ h=>h) dm cs (λ_ _ h=>h) (dm g h1) h2⟩
end
end Go.Ax
/- AxVal: lists of cells: splitting, reading, replacing. -/
namespace Go.Ax
section
variable {I I':Nat→Prop}{w w':World}{ρ ρ':PMap}
theorem VRels.length:∀{vs:List AV} {cs:List Value},VRels I w ρ vs cs→vs.length=cs.length
 | [],cs,h=>by simp[VRels]at h;simp[h]
 |v::vs,cs,h=>by simp only[VRels]at h;obtain⟨c,aT,rfl,_,h⟩:=h;simp[VRels.length h]
theorem VRels.append:∀{as bs:List AV} {xs ys:List Value},VRels I w ρ as xs→VRels I w ρ bs ys→VRels I w ρ (as++bs) (xs++ys)
 | [],bs,xs,ys,h,k=>by simp[VRels]at h;simpa[h]using k
 |v::as,bs,xs,ys,h,k=>by simp only[VRels,b82]at h⊢;obtain⟨c,aT,rfl,h1,h2⟩:=h;exact⟨c,aT++ys,rfl,h1,VRels.append h2 k⟩
theorem VRels.get:∀{vs:List AV} {cs:List Value} (i:Nat) {v:AV},VRels I w ρ vs cs→vs[i]?=some v→∃c,cs[i]?=some c∧VRel I w ρ v c
 | [],cs,i,v,h,hv=>by simp at hv
 |x::vs,cs,i,v,h,hv=>by
  simp only[VRels]at h;obtain⟨c,aT,rfl,h1,h2⟩:=h;cases i with
  |zero=>simp at hv;subst hv;exact⟨c,by simp,h1⟩
  |succ i=>simp at hv;simpa using VRels.get i h2 hv
theorem VRels.drop:∀{vs:List AV} {cs:List Value} (i:Nat),VRels I w ρ vs cs→VRels I w ρ (vs.drop i) (cs.drop i)
 |vs,cs,0,h=>by simpa using h
 | [],cs,i+1,h=>by simp[VRels]at h⊢;simp[h]
 |x::vs,cs,i+1,h=>by simp only[VRels]at h;obtain⟨c,aT,rfl,h1,h2⟩:=h;simpa using VRels.drop i h2
theorem VRels.take:∀{vs:List AV} {cs:List Value} (i:Nat),VRels I w ρ vs cs→VRels I w ρ (vs.take i) (cs.take i)
 |vs,cs,0,h=>by simp[VRels]
 | [],cs,i+1,h=>by simp[VRels]at h⊢;simp[h]
 |x::vs,cs,i+1,h=>by simp only[VRels]at h;obtain⟨c,aT,rfl,h1,h2⟩:=h;simp only[c35,VRels];exact⟨c,aT.take i,rfl,h1,VRels.take i h2⟩
theorem VRels.set:∀{vs:List AV} {cs:List Value} (i:Nat) {v:AV} {c:Value},VRels I w ρ vs cs→VRel I w ρ v c→VRels I w ρ (vs.set i v) (cs.set i c)
 | [],cs,i,v,c,h,hv=>by simp[VRels]at h⊢;simp[h]
 |x::vs,cs,i,v,c,h,hv=>by
  simp only[VRels]at h;obtain⟨c',aT,rfl,h1,h2⟩:=h;cases i with
  |zero=>simp only[List.set_cons_zero,VRels];exact⟨c,aT,rfl,hv,h2⟩
  |succ i=>simp only[List.set_cons_succ,VRels];exact⟨c',aT.set i c,rfl,h1,VRels.set i h2 hv⟩
def CellsAt(w:World)(cs:List Value)(b off:Nat):Prop:=∀j v,cs[j]?=some v→w.cell? ⟨b,off+j,none⟩=some v
theorem VAt.of_cells:∀{vs:List AV} {cs:List Value} {b off:Nat},CellsAt w cs b off→VRels I w ρ vs cs→VAt I w ρ vs b off
 | [],cs,b,off,_,_=>by simp[VAt]
 |v::vs,cs,b,off,hc,h=>by simp only[VRels,VAt]at h⊢;obtain⟨c,aT,rfl,h1,h2⟩:=h;refine⟨⟨c,by simpa using hc 0 c (by simp),h1⟩,VAt.of_cells (λj v hv=>?_) h2⟩;have:=hc (j+1) v (by simpa using hv);rw[show off+1+j=off+(j+1) by omega];exact this
theorem VAt.cells:∀{vs:List AV} {b off:Nat},VAt I w ρ vs b off→∃cs,CellsAt w cs b off∧VRels I w ρ vs cs
 | [],b,off,_=>⟨[],λj v hv=>by simp at hv,by simp[VRels]⟩
 |v::vs,b,off,h=>by
  simp only[VAt]at h;obtain⟨⟨c,hc,h1⟩,h2⟩:=h;obtain⟨cs,k1,k2⟩:=VAt.cells h2;refine⟨c::cs,λj v hv=>?_,by simp only[VRels];exact⟨c,cs,rfl,h1,k2⟩⟩;cases j with
  |zero=>simp at hv;subst hv;simpa using hc
  |succ j=>have:=k1 j v (by simpa using hv);rw[show off+(j+1)=off+1+j by omega];exact this
theorem VAt.append:∀{as bs:List AV} {b off:Nat},VAt I w ρ (as++bs) b off↔VAt I w ρ as b off∧VAt I w ρ bs b (off+as.length)
 | [],bs,b,off=>by simp[VAt]
 |v::as,bs,b,off=>by simp only[b82,VAt,b94];rw[VAt.append,and_assoc,show off+1+as.length=off+(as.length+1) by omega]
theorem VAt.drop{vs:List AV}{b off:Nat}(i:Nat)(hi:i≤vs.length)(h:VAt I w ρ vs b off):VAt I w ρ (vs.drop i) b (off+i):=by rw[←e6s i vs,VAt.append]at h;simpa[Nat.min_eq_left hi]using h.2
theorem VAt.take{vs:List AV}{b off:Nat}(i:Nat)(h:VAt I w ρ vs b off):VAt I w ρ (vs.take i) b off:=by rw[←e6s i vs,VAt.append]at h;exact h.1
theorem VRows.iff{k:Nat}:∀{rs:List (List AV)} {b off:Nat},VRows I w k ρ rs b off↔(∀r∈rs,r.length=k)∧VAt I w ρ rs.flatten b off
 | [],b,off=>by simp[VRows,VAt]
 |r::rs,b,off=>by
  simp only[VRows,e5h,VAt.append,e3b,forall_eq_or_imp];rw[VRows.iff];constructor
  ·rintro⟨h0,h1,h2,h3⟩;exact⟨⟨h0,h2⟩,h1,by rw[h0];exact h3⟩
  ·rintro⟨⟨h0,h2⟩,h1,h3⟩;exact⟨h0,h1,h2,by rw[h0]at h3;exact h3⟩
theorem a19{k:Nat}:∀{rs:List (List AV)},(∀r∈rs,r.length=k)→rs.flatten.length=rs.length*k
 | [],_=>by simp
 |r::rs,h=>by simp only[e5h,e2f,b94];rw[a19 (λr hr=>h r (by simp[hr])),h r (by simp),e7e,Nat.add_comm]
theorem VRows.get{k:Nat}:∀{rs:List (List AV)} {b off:Nat} (i:Nat) {r:List AV},VRows I w k ρ rs b off→rs[i]?=some r→r.length=k∧VAt I w ρ r b (off+i*k)
 | [],b,off,i,r,h,hr=>by simp at hr
 |x::rs,b,off,i,r,h,hr=>by
  simp only[VRows]at h;obtain⟨h0,h1,h2⟩:=h;cases i with
  |zero=>simp at hr;subst hr;exact⟨h0,by simpa using h1⟩
  |succ i=>have:=VRows.get i h2 (by simpa using hr);rw[show off+(i+1)*k=off+k+i*k by rw[e7e];omega];exact this
theorem VRows.append{k:Nat}:∀{as bs:List (List AV)} {b off:Nat},VRows I w k ρ (as++bs) b off↔VRows I w k ρ as b off∧VRows I w k ρ bs b (off+as.length*k)
 | [],bs,b,off=>by simp[VRows]
 |v::as,bs,b,off=>by simp only[b82,VRows,b94];rw[VRows.append,show off+k+as.length*k=off+(as.length+1)*k by rw[e7e];omega];simp only[and_assoc]
theorem VRows.drop{k:Nat}{rs:List (List AV)}{b off:Nat}(i:Nat)(hi:i≤rs.length)(h:VRows I w k ρ rs b off):VRows I w k ρ (rs.drop i) b (off+i*k):=by rw[←e6s i rs,VRows.append]at h;simpa[Nat.min_eq_left hi]using h.2
theorem VRows.take{k:Nat}{rs:List (List AV)}{b off:Nat}(i:Nat)(h:VRows I w k ρ rs b off):VRows I w k ρ (rs.take i) b off:=by rw[←e6s i rs,VRows.append]at h;exact h.1
theorem VAt.mono_cells(hI:∀c,I c→I' c)(hw:∀c,I c→w'.heap[c]?=w.heap[c]?)(hρ:∀b m,ρ b=some m→ρ' b=some m) :
 ∀{vs:List AV} {b off:Nat},(∀j,j<vs.length→w'.cell? ⟨b,off+j,none⟩=w.cell? ⟨b,off+j,none⟩)→VAt I w ρ vs b off→VAt I' w' ρ' vs b off
 | [],b,off,_,_=>by simp[VAt]
 |v::vs,b,off,hc,h=>by simp only[VAt]at h⊢;obtain⟨⟨c,fi,h1⟩,h2⟩:=h;refine⟨⟨c,by rw[←fi];simpa using hc 0 (by simp),VRel.mono hI hw v hρ h1⟩,VAt.mono_cells hI hw hρ (λj hj=>?_) h2⟩;rw[show off+1+j=off+(j+1) by omega];exact hc (j+1) (by simp;omega)
theorem VRows.mono_cells{k:Nat}(hI:∀c,I c→I' c)(hw:∀c,I c→w'.heap[c]?=w.heap[c]?)(hρ:∀b m,ρ b=some m→ρ' b=some m)
 {rs:List (List AV)}{b off:Nat}(hc:∀j,j<rs.length*k→w'.cell? ⟨b,off+j,none⟩=w.cell? ⟨b,off+j,none⟩)(h:VRows I w k ρ rs b off):VRows I' w' k ρ' rs b off:=by
 rw[VRows.iff]at h⊢;exact⟨h.1,VAt.mono_cells hI hw hρ (by rw[a19 h.1];exact hc) h.2⟩
theorem a1k{b o:Nat}{b6:Array Value}{e:TypeId}{fz:Nat×Nat}(h:w.heap[b]?=some (.cells b6 e fz)):w.cell? ⟨b,o,none⟩=b6[o]?:=by simp[World.cell?,h]
theorem CellsAt.of_heap{b off:Nat}{b6:Array Value}{e:TypeId}{fz:Nat×Nat}{cs:List Value}(h:w.heap[b]?=some (.cells b6 e fz))
 (hc:∀j v,cs[j]?=some v→b6[off+j]?=some v):CellsAt w cs b off:=by
 intro j v hv;rw[a1k h];exact hc j v hv
theorem VRels.noRef_any{vs:List AV}{cs:List Value}(h:VRels I w noP vs cs):VRels I w ρ vs cs:=VRels.mono (λ_ h=>h) (λ_ _=>rfl) vs (λ_ _ h=>by simp[noP]at h) h
theorem VRel.noRef_any{v:AV}{c:Value}(h:VRel I w noP v c):VRel I w ρ v c:=VRel.mono (λ_ h=>h) (λ_ _=>rfl) v (λ_ _ h=>by simp[noP]at h) h
theorem VAt.noRef_any{vs:List AV}{b off:Nat}(h:VAt I w noP vs b off):VAt I w ρ vs b off:=VAt.mono (λ_ h=>h) (λ_ _=>rfl) vs (λ_ _ h=>by simp[noP]at h) rfl h
end
end Go.Ax
/- AxEnv: the tables of a program that the evaluator d1r; frames; operands. -/
namespace Go.Ax
structure FInfo where
 code:Code
 ntmps:Nat
 results:List ResultVar
abbrev a08:=List (Option AObj)
structure Env where
 P:Program
 und:TypeId→Option TypeDesc
 sz:TypeId→Nat
 bytes:TypeId→Nat
 zero:TypeId→Option (List AV)
 eqok:TypeId→Bool
 G:GTab (List AV)
 fn:FuncId→Option FInfo
 keep:FuncId→Nat→List Nat
 thaw:FuncId→Bool
 ro:FuncId→Bool
 ext:FuncId→Bool
 prim:FuncId→List AV→Option (AV×a08):=λ_ _=>none
 zf:FuncId→Bool:=λ_=>false
 zn:FuncId→Nat:=λ_=>0
 zj:FuncId→Nat:=λ_=>0
 raw:FuncId→Bool:=λ_=>false
 primH:FuncId→List AV→a08→Option (AV×a08):=λ_ _ _=>none
 bT:TypeId:=999999999
def primH(E:Env)(f:FuncId)(args:List AV)(H:a08):Option (AV×a08):=match E.prim f args with
 |none=>none
 |some (_,[none])=>E.primH f args H
 |some r=>match H with
  | []=>some r
  |_=>none
theorem b5h{E:Env}{f:FuncId}{args:List AV}{H:a08}(h:E.prim f args=none):primH E f args H=none:=by unfold primH;rw[h]
abbrev yId:FuncId:=999999999
def a2l:TypeDesc→Bool
 |.struct _|.array _ _=>true
 |_=>false
structure EnvOk(E:Env):Prop where
 und:∀t d,E.und t=some d→E.P.underlying t=some d∧∃i,E.P.info? t=some i∧i.size=E.sz t∧i.bytes=E.bytes t
 zero:∀t cs,E.zero t=some cs→(∃d,E.und t=some d)∧∃i z,E.P.info? t=some i∧i.zero=some z∧cs.length=E.sz t∧
  ∀I w,VRels I w noP cs z.cells.toList
 zshape:∀t d i z,E.und t=some d→E.P.info? t=some i→i.zero=some z→(a2l d=true→∃a,z = .agg a)∧(a2l d=false→z.cells = #[z])
 eqok:∀t,E.eqok t=true→E.P.eqGuardType E.P.depth t=false∧E.P.stoodInHeld t=false∧(∃i,E.P.info? t=some i∧i.comparable=true)∧
  ∀fs,E.und t=some (.struct fs)→∀f∈fs.toList,f.name≠ "_"
 fn:∀f i,E.fn f=some i→∃fn,E.P.funcs[f]?=some fn∧fn.body=some i.code∧fn.ntmps=i.ntmps∧fn.results.toList=i.results∧(fn.name == "runtime.NumGoroutine")=false
 ext:∀f,E.ext f=true→(E.fn f).isSome=false→∃fn,E.P.funcs[f]?=some fn∧fn.body=none∧(fn.name == "runtime.NumGoroutine")=false∧Extern.findNext fn=none∧Extern.find fn=some Extern.BytealgIndexByte.indexByte
 mixed:E.P.follows .mixedOrders=true
 yid:E.fn yId=none
section
variable {E:Env}(ok:EnvOk E){t:TypeId}{d:TypeDesc}(w:World)
include ok
theorem a0k(h:E.und t=some d):(underlying t).run E.P w = .ok d w:=run_underlying (ok.und t d h).1 w
theorem b29(h:E.und t=some d):∃i,(typeInfo t).run E.P w = .ok i w∧i.size=E.sz t∧i.bytes=E.bytes t:=by obtain⟨_,i,hi,h1,h2⟩:=ok.und t d h;exact⟨i,by simp[typeInfo,hi],h1,h2⟩
theorem a2z(h:E.und t=some d):(sizeOf t).run E.P w = .ok (E.sz t) w:=by obtain⟨i,hi,h1,_⟩:=b29 ok w h;simp[sizeOf,hi,h1]
theorem b2y(h:E.und t=some d):(isAgg t).run E.P w = .ok (a2l d) w:=by unfold isAgg;simp only[Sem.run_bind,a0k ok w h,Result.andThen_ok];cases d<;>rfl
theorem a6p{cs:List AV}(h:E.zero t=some cs):∃z,(zeroValue t).run E.P w = .ok z w∧cs.length=E.sz t∧∀I w',VRels I w' noP cs z.cells.toList:=by obtain⟨_,i,z,hi,hz,h1,h2⟩:=ok.zero t cs h;exact⟨z,by simp[zeroValue,typeInfo,hi,hz],h1,h2⟩
end
/-! ### frames -/
abbrev Frm:=List (Nat×AV)
def a2h:Frm→Nat→AV
 | [],_=>.junk
 |(s,v)::r,t=>bif Nat.beq s t then v else a2h r t
theorem c3l(s t:Nat):Nat.beq s t=(s==t):=by
 by_cases h:s=t
 ·subst h;simp
 ·rw[e3o.2 h];cases hb:Nat.beq s t with
  |false=>rfl
  |true=>exact absurd (e6l hb) h
def a3f(F:Frm)(d:Option Nat)(v:AV):Frm:=
 match d with
 |some s=>(s,v)::F
 |none=>F
def FRel(I:Nat→Prop)(w:World)(ρ:PMap)(N:Nat)(F:Frm)(tmps:Array Value):Prop:=tmps.size=N∧∀s,VRel I w ρ (a2h F s) (tmps.getD s undef)
def a3a:Value→AV
 |.bool b=>.bool b
 |.int k n=>.int k n
 |.string s=>.str s.data.toList
 |.pointer a=>match a with|none=>.nilptr|some _=>.junk
 |.slice a l c=>match a,l,c with|none,0,0=>.nilslice|_,_,_=>.junk
 |.map r=>match r with|none=>.nilmap|some _=>.junk
 |.nilFunc=>.nilfunc
 |.nilIface=>.nilifc
 |.tuple vs=>match vs.toList with|[]=>.tuple []|_=>.junk
 |_=>.junk
def c20:Value→AV
 |.agg cs=>.agg (cs.toList.map a3a)
 |v=>a3a v
def opv(E:Env)(F:Frm):Operand→AV
 |.tmp t=>a2h F t
 |.const v=>c20 v
 |.global g=>match E.G g with|some cs=>.iptr cs|none=>.junk
 |.func f=>.func (.func f) [] []
section
variable {I:Nat→Prop}{w:World}{ρ:PMap}
theorem b1t(v:Value):VRel I w ρ (a3a v) v:=by
 cases v with
 |pointer a=>cases a<;>simp[a3a,VRel]
 |slice a l c=>cases a<;>cases l<;>cases c<;>simp[a3a,VRel]
 |map a=>cases a<;>simp[a3a,VRel]
 |tuple vs=>
  simp only[a3a];split
  ·rename_i h;simp only[VRel];exact⟨vs,rfl,by simp[VRels,h]⟩
  ·simp[VRel]
 |_=>simp[a3a,VRel]
theorem a71:∀l:List Value,VRels I w ρ (l.map a3a) l
 | []=>by simp[VRels]
 |v::l=>by simp only[e2b,VRels];exact⟨v,l,rfl,b1t v,a71 l⟩
theorem b9e(v:Value):VRel I w ρ (c20 v) v:=by
 unfold c20;split
 ·rename_i cs;simp only[VRel];exact⟨cs,rfl,a71 _⟩
 ·exact b1t v
theorem a6h{E:Env}{K:Nat→Prop}{h:FHeap}{N:Nat}{F:Frm}{a:Act}(r:HRel E.G I K ρ h w)(hF:FRel I w ρ N F a.tmps)(x:Operand) :
 VRel I w ρ (opv E F x) (a.eval x):=by
 cases x with
 |tmp t=>exact hF.2 t
 |const v=>exact b9e v
 |global g=>
  simp only[opv,Act.eval];cases hg:E.G g with
  |none=>simp[VRel]
  |some cs=>obtain⟨h1,h2⟩:=r.glob g cs hg;simp only[VRel];exact⟨g,0,rfl,h1,h2.1⟩
 |func f=>simp only[opv,Act.eval,VRel];exact⟨#[],#[],rfl,by simp[VRels],by simp[VRels]⟩
theorem a7y(F:Frm)(d s:Nat)(v:AV):a2h (a3f F (some d) v) s=if d=s then v else a2h F s:=by
 simp only[a3f,a2h,c3l];by_cases h:d=s
 ·simp[h]
 ·simp[h,e3o.2 h]
theorem FRel.set{N:Nat}{F:Frm}{a:Act}{d:Option Nat}{v:AV}{c:Value}(hF:FRel I w ρ N F a.tmps)(hd:∀s,d=some s→s<N)(hv:VRel I w ρ v c) :
 FRel I w ρ N (a3f F d v) (a.put d c).tmps:=by
 cases d with
 |none=>exact hF
 |some d=>
  have aq:=hd d rfl;refine⟨by simp[Act.put,hF.1],λs=>?_⟩;rw[a7y];simp only[Act.put,e53,e56,hF.1];split
  ·subst s;simpa[aq]using hv
  ·have:=hF.2 s;simpa[e53]using this
theorem FRel.mono{I':Nat→Prop}{w':World}{ρ':PMap}{N:Nat}{F:Frm}{t:Array Value}(hF:FRel I w ρ N F t)
 (hv:∀(v:AV) (c:Value),VRel I w ρ v c→VRel I' w' ρ' v c):FRel I' w' ρ' N F t:=⟨hF.1,λs=>hv _ _ (hF.2 s)⟩
end
def AV.cells:AV→List AV
 |.agg cs=>cs
 |v=>[v]
def AV.storable:AV→Bool
 |.junk|.agg _|.tuple _=>false
 |_=>true
section
variable {I:Nat→Prop}{w:World}{ρ:PMap}
theorem VRel.storable{v:AV}{c:Value}(h:VRel I w ρ v c)(hs:v.storable=true):c.oneCell'=true:=by
 cases v<;>simp[AV.storable]at hs<;>simp only[VRel]at h
 all_goals first
  |(subst h;rfl)
  |(obtain⟨_,rfl,_⟩:=h;rfl)
  |(obtain⟨_,_,rfl⟩:=h;rfl)
  |(obtain⟨_,_,rfl,_⟩:=h;rfl)
  |(obtain⟨_,_,_,rfl,_⟩:=h;rfl)
theorem VRel.cells{v:AV}{c:Value}(h:VRel I w ρ v c)(hj:v≠ .junk):VRels I w ρ v.cells c.cells.toList:=by
 cases v
 case junk=>exact absurd rfl hj
 case agg cs=>simp only[VRel]at h;obtain⟨aT,rfl,h⟩:=h;exact h
 all_goals
  have hc:c.cells = #[c]:=by
   simp only[VRel]at h
   first
    |(subst h;rfl)
    |(obtain⟨_,rfl,_⟩:=h;rfl)
    |(obtain⟨_,_,rfl⟩:=h;rfl)
    |(obtain⟨_,_,rfl,_⟩:=h;rfl)
    |(obtain⟨_,_,_,rfl,_⟩:=h;rfl)
  rw[hc];simp only[AV.cells,VRels];exact⟨c,[],rfl,h,rfl⟩
theorem VRels.storable:∀{vs:List AV} {cs:List Value},VRels I w ρ vs cs→vs.all AV.storable=true→∀c∈cs,c.oneCell'=true
 | [],cs,h,_=>by simp[VRels]at h;simp[h]
 |v::vs,cs,h,hs=>by
  simp only[VRels]at h;obtain⟨c,aT,rfl,h1,h2⟩:=h;simp only[List.all_cons,b46]at hs;intro x hx;simp only[e3b]at hx;rcases hx with rfl|hx
  ·exact VRel.storable h1 hs.1
  ·exact VRels.storable h2 hs.2 x hx
end
end Go.Ax
/- AxMem: loads, stores, new variables, rows and maps, addresses: what they do to abstract values, and that the model's operations do just that. -/
namespace Go.Ax
def Val(E:Env)(I K:Nat→Prop)(ρ:PMap)(h:FHeap)(n:Nat)(w:World)(s:Sem Value)(v:AV)(e:Eff):Prop:=∃c w' ρ',s.run E.P w = .ok c w'∧Stepped E.G I K ρ w I ρ' (h.eff n e) w'∧VRel I w' ρ' v c∧Moves ρ ρ' n e
def d8c(E:Env)(I K:Nat→Prop)(ρ:PMap)(h:FHeap)(n:Nat)(w:World)(s:Sem Unit)(e:Eff):Prop:=∃w' ρ',s.run E.P w = .ok () w'∧Stepped E.G I K ρ w I ρ' (h.eff n e) w'∧Moves ρ ρ' n e
section
variable {E:Env}{I K:Nat→Prop}{ρ:PMap}{h:FHeap}{n:Nat}{w:World}
theorem Val.quiet(r:HRel E.G I K ρ h w){s:Sem Value}{v:AV}{c:Value}{w':World}(hs:s.run E.P w = .ok c w')(hw:SameMem w w')(hv:VRel I w ρ v c) :
 Val E I K ρ h n w s v .none:=
 ⟨c,w',ρ,hs,Stepped.same r hw,VRel.mono (λ_ h=>h) (λ_ _=>by rw[hw.1]) v (λ_ _ h=>h) hv,Moves.same _ _ _⟩
theorem Val.here(r:HRel E.G I K ρ h w){s:Sem Value}{v:AV}{c:Value}(hs:s.run E.P w = .ok c w)(hv:VRel I w ρ v c):Val E I K ρ h n w s v .none:=Val.quiet r hs ⟨rfl,rfl,rfl,rfl⟩ hv
/-! ### loads -/
def a2q(E:Env)(t:TypeId)(cs:List AV):Option AV:=
 bif cs.length==E.sz t then
  match E.und t with
  |some d=>bif a2l d then some (.agg cs)else cs.head?
  |none=>none
 else none
def a7a(E:Env)(h:FHeap)(t:TypeId):AV→Option AV
 |.ptr b i o=>match h b with
  |some (.row _ aa)=>match aa[i]? with
   |some r=>a2q E t ((r.drop o).take (E.sz t))
   |none=>none
  |_=>none
 |.iptr cs=>a2q E t (cs.take (E.sz t))
 |_=>none
theorem a6q(ok:EnvOk E){t:TypeId}{cs:List AV}{v:AV}{b off:Nat}{ρ:PMap}(hv:a2q E t cs=some v)(hc:VAt I w ρ cs b off) :
 ∃c,(loadVar t ⟨b,off,none⟩).run E.P w = .ok c w∧VRel I w ρ v c:=by
 unfold a2q at hv;rw[cond_eq_ite]at hv;split at hv
 case isFalse=>cases hv
 rename_i hl;have hl:cs.length=E.sz t:=by simpa using hl
 cases hd:E.und t with
 |none=>simp[hd]at hv
 |some d=>
  simp only[hd]at hv;obtain⟨cv,h1,h2⟩:=VAt.cells hc;have ak:cv.length=E.sz t:=by rw[←hl];exact(VRels.length h2).symm
  have qK:∀j:Nat,(⟨b,off,none⟩:Addr).add j=⟨b,off+j,none⟩:=by intro j;unfold Addr.add;split<;>simp_all
  unfold loadVar;simp only[Sem.run_bind,b2y ok w hd,Result.andThen_ok,Sem.run_ite];cases eU:a2l d with
  |true=>simp only[eU,e3e,Option.some.injEq]at hv;subst hv;have:=run_loadCells_list (P:=E.P) w ⟨b,off,none⟩ cv (λj v hj=>by rw[qK];exact h1 j v hj);rw[ak]at this;refine⟨.agg cv.toArray,?_,by simp only[VRel];exact⟨cv.toArray,rfl,by simpa using h2⟩⟩;simp[a2z ok w hd,this]
  |false=>
   simp only[eU,e3p]at hv;cases cs with
   |nil=>simp at hv
   |cons x cs=>simp at hv;subst hv;simp only[VRels]at h2;obtain⟨c,aT,rfl,h3,_⟩:=h2;have:=h1 0 c (by simp);refine⟨c,?_,h3⟩;simp at this;simp[this]
theorem c96(ok:EnvOk E)(r:HRel E.G I K ρ h w){t:TypeId}{p v:AV}{c:Value}(hl:a7a E h t p=some v)(hp:VRel I w ρ p c) :
 Val E I K ρ h n w (Instr.loadAt t c) v .none:=by
 cases p with
 |ptr b i o=>
  simp only[a7a]at hl;cases hb:h b with
  |none=>simp[hb]at hl
  |some ob=>
   cases ob with
   |row k aa=>
    simp only[hb]at hl;cases hr:aa[i]? with
    |none=>simp[hr]at hl
    |some rw'=>
     simp only[hr]at hl;obtain⟨m,hm,_,_,ho⟩:=r.live b _ hb;obtain⟨hk,eR,_,aD⟩:=ho;obtain⟨ak,ey⟩:=VRows.get i aD hr;simp only[VRel]at hp;obtain⟨m',bz,rfl⟩:=hp;obtain rfl:m=m':=z9o (hm.symm.trans bz);by_cases bA:o≤rw'.length
     ·have kE:VAt I w ρ ((rw'.drop o).take (E.sz t)) m.blk (m.off+i*m.k+o):=by
       rw[hk];exact VAt.take _ (VAt.drop o bA ey)
      obtain⟨c,hc,hv⟩:=a6q ok hl kE;exact Val.here r (by simp[Instr.loadAt,Instr.sureAddr,hc]) hv
     ·have:rw'.drop o=[]:=e6x (by omega);rw[this]at hl;unfold a2q at hl;have hd:∀d,E.und t=some d→True:=λ_ _=>trivial;simp only[List.take_nil,e27]at hl;rw[cond_eq_ite]at hl;split at hl
      ·rename_i h0;cases hd:E.und t with
       |none=>simp[hd]at hl
       |some d=>
        simp only[hd]at hl;have h0:E.sz t=0:=(show 0=E.sz t by simpa using h0).symm;cases eU:a2l d with
        |true=>simp[eU]at hl;subst hl;refine Val.here (c:=.agg #[]) r ?_ (by simp only[VRel];exact⟨#[],rfl,by simp[VRels]⟩);simp[Instr.loadAt,Instr.sureAddr,loadVar,b2y ok w hd,eU,a2z ok w hd,h0,loadCells,loadCellsFrom]
        |false=>simp[eU]at hl
      ·cases hl
   |map ks vs bs cl=>simp[hb]at hl
   |siter s pos=>simp[hb]at hl
   |uset ks=>simp[hb]at hl
   |miter ks eh eK=>simp[hb]at hl
   |yloop y Fy st=>simp[hb]at hl
   |trow t x k aa=>simp[hb]at hl
 |iptr cs=>simp only[a7a]at hl;simp only[VRel]at hp;obtain⟨b,off,rfl,hI,ey⟩:=hp;obtain⟨c,hc,hv⟩:=a6q ok hl (VAt.take _ ey);exact Val.here r (by simp[Instr.loadAt,Instr.sureAddr,hc]) (VRel.noRef_any hv)
 |_=>simp[a7a]at hl
/-! ### stores -/
def splice(r:List AV)(o:Nat)(cs:List AV):List AV:=r.take o++cs++r.drop (o+cs.length)
def a7f(E:Env)(h:FHeap)(t:TypeId)(p x:AV):Option Eff:=
 match p with
 |.ptr b i o=>match h b with
  |some (.row k aa)=>match aa[i]? with
   |some r=>bif x.cells.length==E.sz t&&(E.und t).isSome&&Nat.ble (o+x.cells.length) r.length&&x.cells.all AV.storable
    then some (.set b (.row k (aa.set i (splice r o x.cells))))else none
   |none=>none
  |_=>none
 |_=>none
theorem VRows.splice{k:Nat}{aa:List (List AV)}{blk off i o:Nat}{r cs:List AV}{w':World}(dm:∀c,I c→w'.heap[c]?=w.heap[c]?)
 (aD:VRows I w k ρ aa blk off)(hr:aa[i]?=some r)(ho:o+cs.length≤k)
 (hX:∀x,(x<off+i*k+o∨off+i*k+o+cs.length≤x)→w'.cell? ⟨blk,x,none⟩=w.cell? ⟨blk,x,none⟩)
 (bu:VAt I w' ρ cs blk (off+i*k+o)):VRows I w' k ρ (aa.set i (Ax.splice r o cs)) blk off:=by
 have hi:i<aa.length:=(e26.1 hr).1;have mu:aa=aa.take i++r::aa.drop (i+1):=by
  conv=>lhs;rw[←e6s i aa]
  congr 1
  rw[e6o hi]
  congr 1
  exact(e26.1 hr).2
 have bt:aa.set i (Ax.splice r o cs)=aa.take i++Ax.splice r o cs::aa.drop (i+1):=by rw[List.set_eq_take_append_cons_drop,e3g hi]
 rw[bt];rw[mu]at aD;rw[VRows.append]at aD⊢;obtain⟨h1,h2⟩:=aD;have rc:(aa.take i).length=i:=by simp;omega
 simp only[VRows,rc]at h2⊢;obtain⟨h3,h4,h5⟩:=h2;have mono:=λ(vs:List AV) (b off:Nat) hc (hh:VAt I w ρ vs b off)=>VAt.mono_cells (I':=I) (w':=w') (ρ':=ρ) (λ_ h=>h) dm (λ_ _ h=>h) hc hh;refine⟨?_,?_,?_,?_⟩
 ·refine VRows.mono_cells (λ_ h=>h) dm (λ_ _ h=>h) (λj hj=>hX _ (.inl ?_)) h1;rw[rc]at hj;omega
 ·unfold Ax.splice;simp;omega
 ·unfold Ax.splice;rw[VAt.append,VAt.append];have jt:(r.take o).length=o:=by simp;omega
  refine⟨⟨?_,by rw[jt];exact bu⟩,?_⟩
  ·exact mono _ _ _ (λj hj=>hX _ (.inl (by rw[jt]at hj;omega))) (VAt.take o h4)
  ·have:=VAt.drop (o+cs.length) (by omega) h4;rw[e2f,jt,show off+i*k+(o+cs.length)=off+i*k+o+cs.length by omega];rw[show off+i*k+(o+cs.length)=off+i*k+o+cs.length by omega]at this;exact mono _ _ _ (λj hj=>hX _ (.inr (by omega))) this
 ·refine VRows.mono_cells (λ_ h=>h) dm (λ_ _ h=>h) (λj hj=>hX _ (.inr (by omega))) h5
theorem b0i{w:World}{blk o:Nat}{b6:Array Value}{e:TypeId}(cv:List Value)(hb:w.heap[blk]?=some (.cells b6 e (0,0)))(cG:o+cv.length≤b6.size)
 (kc:∀c∈cv,c.oneCell'=true)(P:Program) :
 ∃w',(storeCells ⟨blk,o,none⟩ cv).run P w = .ok () w'∧(∃ef,w'.heap[blk]?=some (.cells ef e (0,0))∧ef.size=b6.size)∧
  (∀c,c≠blk→w'.heap[c]?=w.heap[c]?)∧w'.heap.size=w.heap.size∧w'.tape=w.tape∧w'.os=w.os∧w'.output=w.output∧
  CellsAt w' cv blk o∧(∀x,(x<o∨o+cv.length≤x)→w'.cell? ⟨blk,x,none⟩=w.cell? ⟨blk,x,none⟩):=by
 refine⟨_,run_storeCells_at (P:=P) blk o e cv 0 b6 w hb (by omega) kc,?_⟩;simp only[e5y];generalize bu:(b6.toList.take o++cv++b6.toList.drop (o+cv.length)).toArray=ef;have bA:ef.size=b6.size:=by subst bu;simp;omega
 have hh:=setRow_heap w blk b6 ef e (0,0) hb;have cW:∀x,ef[x]?=if x<o then b6[x]? else if x<o+cv.length then cv[x-o]? else b6[x]?:=by
  intro x;subst bu;have jt:(b6.toList.take o).length=o:=by simp;omega
  have jY:(b6.toList.take o++cv).length=o+cv.length:=by simp;omega
  rw[e5v];by_cases h1:x<o
  ·rw[e5j,e3q (by rw[jt];omega)];simp[h1]
  ·by_cases h2:x<o+cv.length
   ·rw[e3q (by rw[jY];omega),e3l (by rw[jt];omega),jt];simp[h1,h2]
   ·rw[e3l (by rw[jY];omega),jY];simp only[e6h,e2i h1,e2i h2];rw[show o+cv.length+(x-(o+cv.length))=x by omega];simp
 refine⟨⟨ef,hh,bA⟩,λc hc=>setRow_other w blk c ef hc,setRow_size w blk ef,rfl,rfl,rfl,?_,?_⟩
 ·refine CellsAt.of_heap hh (λj v hj=>?_);have dq:j<cv.length:=(e26.1 hj).1;rw[cW,e2i (by omega),e3g (by omega),show o+j-o=j by omega];exact hj
 ·intro x hx;rw[a1k hh,a1k hb,cW];rcases hx with hx|hx
  ·rw[e3g hx]
  ·rw[e2i (by omega),e2i (by omega)]
theorem c6g(ok:EnvOk E)(r:HRel E.G I K ρ h w){t:TypeId}{p x:AV}{e:Eff}{c cx:Value}(hl:a7f E h t p x=some e)(hp:VRel I w ρ p c)(hx:VRel I w ρ x cx) :
 d8c E I K ρ h n w (Instr.storeAt t c cx) e:=by
 cases p with
 |ptr b i o=>
  simp only[a7f]at hl;cases hb:h b with
  |none=>simp[hb]at hl
  |some ob=>
   cases ob with
   |row k aa=>
    simp only[hb]at hl;cases hr:aa[i]? with
    |none=>simp[hr]at hl
    |some rr=>
     simp only[hr]at hl;rw[cond_eq_ite]at hl;split at hl
     case isFalse=>cases hl
     rename_i hc;simp only[b46,e6n,e5e]at hc;obtain⟨⟨⟨mW,gD⟩,rL⟩,rK⟩:=hc;cases hl;obtain⟨d,hd⟩:=e24.1 gD;obtain⟨m,hm,eu,_,ho⟩:=r.live b _ hb;obtain⟨hk,eR,⟨b6,el,ek,aJ,cG⟩,aD⟩:=ho;obtain⟨ak,ey⟩:=VRows.get i aD hr;simp only[VRel]at hp;obtain⟨m',bz,rfl⟩:=hp;obtain rfl:m=m':=z9o (hm.symm.trans bz);have hj:x≠ .junk:=by rintro rfl;simp[AV.cells,AV.storable]at rK
     have dp:=VRel.cells hx hj;have eE:=VRels.length dp;have hi:i<aa.length:=(e26.1 hr).1;have kP:i*k+k≤aa.length*k:=by rw[←e7e];exact e5z k hi
     obtain⟨w',ac,⟨ef,bE,iM⟩,bX,bA,ht,gu,bh,bu,cJ⟩:=b0i (w:=w) (blk:=m.blk) (o:=m.off+i*k+o) cx.cells.toList ek
      (by rw[←eE];omega) (VRels.storable dp rK) E.P
     have dm:∀c,I c→w'.heap[c]?=w.heap[c]?:=λc hc=>bX c (λe=>eu (e▸hc));refine⟨w',ρ,?_,?_,Moves.same _ _ _⟩
     ·simp only[Instr.storeAt,Instr.sureAddr,storeVar,Sem.run_bind,Sem.run_pure,Result.andThen_ok,a2z ok w hd];have pO:cx.cells.size=E.sz t:=by rw[←mW,eE];simp
      simp only[pO,ne_eq,not_true_eq_false,e76,hk];simpa using ac
     ·refine a2c r hb hm bA bX ht gu bh ?_;refine⟨hk,eR,⟨ef,el,bE,by omega,by simp only[List.length_set];omega⟩,?_⟩;refine VRows.splice dm aD hr (by rw[ak]at rL;exact rL) (λx hx=>cJ x (by rw[←eE];exact hx)) ?_;exact VAt.of_cells bu (VRels.mono (λ_ h=>h) dm _ (λ_ _ h=>h) dp)
   |map ks vs bs cl=>simp[hb]at hl
   |siter s pos=>simp[hb]at hl
   |uset ks=>simp[hb]at hl
   |miter ks eh eK=>simp[hb]at hl
   |yloop y Fy st=>simp[hb]at hl
   |trow t x k aa=>simp[hb]at hl
 |_=>simp[a7f]at hl
/-! ### new blocks -/
theorem a9v(r:HRel E.G I K ρ h w)(hn:h n=none)(hρ:ρ n=none){el:TypeId}{k:Nat}(hk:0<k){aa:List (List AV)}{cells:Array Value}
 (ak:∀x∈aa,x.length=k)(hv:VRels I w ρ aa.flatten cells.toList){s:Sem Value}{v:AV}{mk:Addr→Value}{w0:World}(fl:SameMem w w0)
 (hs:s.run E.P w = .ok (mk ⟨w.heap.size,0,none⟩) { w0 with heap:=w0.heap.push (.cells cells el) })
 (lQ:∀w' ρ',ρ' n=some ⟨w.heap.size,0,k,cells.size⟩→VRel I w' ρ' v (mk ⟨w.heap.size,0,none⟩)) :
 Val E I K ρ h n w s v (.new (.row k aa)):=by
 have bt:=PMap.set_old (m:=⟨w.heap.size,0,k,cells.size⟩) hρ;have a8:∀c,I c→({ w0 with heap:=w0.heap.push (.cells cells el) }:World).heap[c]?=w.heap[c]?:=by intro c hc;have:=r.imm c hc;show(w0.heap.push _)[c]?=_;rw[fl.1,e5k,e2i (by omega)]
 have bu:({ w0 with heap:=w0.heap.push (.cells cells el) }:World).heap[w.heap.size]?=some (.cells cells el (0,0)):=by show(w0.heap.push _)[_]?=_;rw[fl.1];simp
 refine⟨_,_,ρ.set n ⟨w.heap.size,0,k,cells.size⟩,hs,?_,lQ _ _ (by simp[PMap.set]),Moves.set _ _ _ rfl⟩;refine a2d (ob:=.cells cells el) r hn hρ (by show w0.heap.push _=_;rw[fl.1]) fl.2.1 fl.2.2.1 fl.2.2.2 rfl ?_;refine⟨rfl,hk,⟨cells,el,bu,rfl,?_⟩,?_⟩
 ·have:=VRels.length hv;rw[a19 ak]at this;simp at this;simp;omega
 ·rw[VRows.iff];refine⟨ak,VAt.of_cells (cs:=cells.toList) (CellsAt.of_heap bu (λj v hj=>by simpa using hj)) ?_⟩;exact VRels.mono (λ_ h=>h) a8 _ bt hv
theorem a3g(el:TypeId)(cells:Array Value)(w:World):(newRow el cells).run E.P w = .ok ⟨w.heap.size,0,none⟩ { w with heap:=w.heap.push (.cells cells el) }:=by simp[newRow]
def d3b(E:Env)(n:Nat)(t:TypeId):Option (AV×Eff):=
 match E.zero t with
 |some z=>bif Nat.blt 0 z.length then some (.ptr n 0 0,.new (bif Nat.beq t E.bT then .trow t true z.length [z]else .row z.length [z]))else none
 |none=>none
theorem d3a(ok:EnvOk E)(r:HRel E.G I K ρ h w)(hn:h n=none)(hρ:ρ n=none){t:TypeId}{v:AV}{e:Eff}(ha:d3b E n t=some (v,e))(eW:Value) :
 Val E I K ρ h n w (Instr.alloc t true eW) v e:=by
 unfold d3b at ha;cases hz:E.zero t with
 |none=>simp[hz]at ha
 |some z=>
  simp only[hz]at ha;rw[cond_eq_ite]at ha;split at ha
  case isFalse=>cases ha
  rename_i dX;cases ha;obtain⟨zv,gA,hl,cO⟩:=a6p ok w hz;have j6:Val E I K ρ h n w (Instr.alloc t true eW) (.ptr n 0 0) (.new (.row z.length [z])):=by
   refine a9v (el:=t) (cells:=zv.cells) (mk:=λa=>.pointer (some a)) r hn hρ (by simpa[e3f]using dX) (by simp) (by simpa using VRels.noRef_any (cO I w)) ⟨rfl,rfl,rfl,rfl⟩ ?_ ?_
   ·simp[Instr.alloc,gA,newVar,a3g]
   ·intro w' ρ' h';simp only[VRel];exact⟨_,h',by simp⟩
  rw[cond_eq_ite];split
  case isFalse=>exact j6
  rename_i pb;clear j6;obtain⟨r1,eo⟩:∃r1,r1=VRels.noRef_any (cO I w) (ρ:=ρ):=⟨_,rfl⟩
  have bt:=PMap.set_old (m:=⟨w.heap.size,0,z.length,zv.cells.size⟩) hρ;have a8:∀c,I c→({ w with heap:=w.heap.push (.cells zv.cells t) }:World).heap[c]?=w.heap[c]?:=by intro c hc;have:=r.imm c hc;show(w.heap.push _)[c]?=_;rw[e5k,e2i (by omega)]
  have bu:({ w with heap:=w.heap.push (.cells zv.cells t) }:World).heap[w.heap.size]?=some (.cells zv.cells t (0,0)):=by show(w.heap.push _)[_]?=_;simp
  refine⟨.pointer (some ⟨w.heap.size,0,none⟩),{ w with heap:=w.heap.push (.cells zv.cells t) },ρ.set n ⟨w.heap.size,0,z.length,zv.cells.size⟩,?_,?_,by simp only[VRel];exact⟨_,by simp[PMap.set];rfl,by simp⟩,Moves.set _ _ _ rfl⟩
  ·simp[Instr.alloc,gA,newVar,a3g]
  ·refine a2d (ob:=.cells zv.cells t) r hn hρ rfl rfl rfl rfl rfl ?_;have jg:=VRels.length r1;simp only[e3i]at jg;refine⟨rfl,rfl,by simpa[e3f]using dX,⟨zv.cells,bu,rfl,by simp;omega,λ_=>by simp;omega⟩,?_⟩;rw[VRows.iff];refine⟨by simp,VAt.of_cells (cs:=zv.cells.toList) (CellsAt.of_heap bu (λj v hj=>by simpa using hj)) ?_⟩;have:=VRels.mono (λ_ h=>h) a8 _ bt r1;simpa using this
def d3k(n:Nat)(x:AV):Option (AV×Eff):=
 match x with
 |.junk=>none
 |x=>bif Nat.blt 0 x.cells.length then some (.ptr n 0 0,.new (.row x.cells.length [x.cells]))else none
theorem d3j(r:HRel E.G I K ρ h w)(hn:h n=none)(hρ:ρ n=none){t:TypeId}{x v:AV}{c:Value}{e:Eff}(ha:d3k n x=some (v,e))(hx:VRel I w ρ x c) :
 Val E I K ρ h n w (Instr.box t c) v e:=by
 have hj:x≠ .junk:=by rintro rfl;simp[d3k]at ha
 have me:(bif Nat.blt 0 x.cells.length then some (AV.ptr n 0 0,Eff.new (.row x.cells.length [x.cells]))else none)=some (v,e):=by cases x<;>first|exact absurd rfl hj|exact ha
 rw[cond_eq_ite]at me;split at me
 case isFalse=>cases me
 rename_i dX;cases me;refine a9v (el:=t) (cells:=c.cells) (mk:=λa=>.pointer (some a)) r hn hρ (by simpa[e3f]using dX) (by simp) (by simpa using VRel.cells hx hj) ⟨rfl,rfl,rfl,rfl⟩ ?_ ?_
 ·simp[Instr.box,newVar,a3g]
 ·intro w' ρ' h';simp only[VRel];exact⟨_,h',by simp⟩
theorem d3c(r:HRel E.G I K ρ h w)(hn:h n=none)(hρ:ρ n=none){s:Sem Value}
 (hs:s.run E.P w = .ok (.map (some w.heap.size)) { w with heap:=w.heap.push (.map #[] 0) }):Val E I K ρ h n w s (.map n) (.new (.map [] [] [] 0)):=by
 refine⟨_,_,ρ.set n ⟨w.heap.size,0,0,0⟩,hs,?_,by simp only[VRel];exact⟨_,by simp[PMap.set];rfl,rfl⟩,Moves.set _ _ _ rfl⟩;refine a2d (ob:=.map #[] 0) r hn hρ rfl rfl rfl rfl rfl ?_;exact⟨#[],by simp,by simp[VRels],by simp[VRels],rfl⟩
end
end Go.Ax
/- AxAdr: addresses of fields and elements, parts of values, slices of slices and strings. -/
namespace Go.Ax
section
variable {E:Env}{I K:Nat→Prop}{ρ:PMap}{h:FHeap}{n:Nat}{w:World}
theorem VAt.drop'{vs:List AV}{b off:Nat}(i:Nat)(h:VAt I w ρ vs b off):VAt I w ρ (vs.drop i) b (off+i):=by
 by_cases hi:i≤vs.length
 ·exact VAt.drop i hi h
 ·rw[e6x (by omega)];simp[VAt]
theorem a2y(b o j:Nat):(⟨b,o,none⟩:Addr).add j=⟨b,o+j,none⟩:=by unfold Addr.add;split<;>simp_all
def a5a(E:Env)(s:TypeId)(p:AV)(f:Nat):Option AV:=
 match E.und s with
 |some (.struct fs)=>match fs[f]? with
  |some fd=>bif !(E.sz fd.type==0)&&(E.und fd.type).isSome then
   match p with
   |.ptr b i o=>some (.ptr b i (o+fd.offset))
   |.iptr cs=>some (.iptr (cs.drop fd.offset))
   |_=>none
   else none
  |none=>none
 |_=>none
theorem b7m(ok:EnvOk E)(r:HRel E.G I K ρ h w){s:TypeId}{p v:AV}{f:Nat}{c:Value}(hl:a5a E s p f=some v)(hp:VRel I w ρ p c) :
 Val E I K ρ h n w (Instr.fieldAt s c f) v .none:=by
 unfold a5a at hl;cases hu:E.und s with
 |none=>simp[hu]at hl
 |some d=>
  cases d
  case struct fs=>
   simp only[hu]at hl;cases hf:fs[f]? with
   |none=>simp[hf]at hl
   |some fd=>
    simp only[hf]at hl;rw[cond_eq_ite]at hl;split at hl
    case isFalse=>cases hl
    rename_i hc;simp only[b46,e5i,e3o]at hc;obtain⟨hz,hs⟩:=hc;obtain⟨uJ,cr⟩:=e24.1 hs;have hE:∀b o:Nat,(fieldPlace ⟨b,o,none⟩ fd).run E.P w = .ok ⟨b,o+fd.offset,none⟩ w:=by intro b o;simp[fieldPlace,a2z ok w cr,hz,a2y]
    cases p with
    |ptr b i o=>simp only[Option.some.injEq]at hl;subst hl;simp only[VRel]at hp;obtain⟨m,hm,rfl⟩:=hp;refine Val.here (c:=.pointer (some ⟨m.blk,m.off+i*m.k+o+fd.offset,none⟩)) r ?_ (by simp only[VRel];exact⟨m,hm,by rw[Nat.add_assoc _ o]⟩);simp[Instr.fieldAt,a0k ok w hu,hf,Instr.sureAddr,hE]
    |iptr cs=>simp only[Option.some.injEq]at hl;subst hl;simp only[VRel]at hp;obtain⟨b,off,rfl,hI,ey⟩:=hp;refine Val.here (c:=.pointer (some ⟨b,off+fd.offset,none⟩)) r ?_ (by simp only[VRel];exact⟨b,_,rfl,hI,VAt.drop' _ ey⟩);simp[Instr.fieldAt,a0k ok w hu,hf,Instr.sureAddr,hE]
    |_=>simp at hl
  all_goals simp[hu]at hl
theorem a8i(ok:EnvOk E){t:TypeId}{cs:List AV}{cv:Array Value}{off:Nat}{v:AV}(hv:a2q E t ((cs.drop off).take (E.sz t))=some v)
 (hc:VRels I w ρ cs cv.toList):∃c,(part t cv off).run E.P w = .ok c w∧VRel I w ρ v c:=by
 unfold a2q at hv;rw[cond_eq_ite]at hv;split at hv
 case isFalse=>cases hv
 rename_i hl;have hl:((cs.drop off).take (E.sz t)).length=E.sz t:=by simpa using hl
 cases hd:E.und t with
 |none=>simp[hd]at hv
 |some d=>
  simp only[hd]at hv;unfold part;cases eU:a2l d with
  |true=>simp only[eU,e3e,Option.some.injEq]at hv;subst hv;refine⟨.agg (cv.extract off (off+E.sz t)),by simp[b2y ok w hd,eU,a2z ok w hd],?_⟩;simp only[VRel];refine⟨_,rfl,?_⟩;have:=VRels.take (E.sz t) (VRels.drop off hc);simpa[Array.toList_extract,List.extract_eq_take_drop,List.extract]using this
  |false=>
   simp only[eU,e3p]at hv;have hk:=VRels.take (E.sz t) (VRels.drop off hc);have h0:((cs.drop off).take (E.sz t))[0]?=some v:=by rw[←List.head?_eq_getElem?];exact hv
   obtain⟨c,fi,pL⟩:=VRels.get 0 hk h0;have:cv[off]?=some c:=by
    rw[e5g]at fi;split at fi
    ·simpa[e6h]using fi
    ·cases fi
   exact⟨c,by simp[b2y ok w hd,eU,this],pL⟩
theorem c4v(ok:EnvOk E)(r:HRel E.G I K ρ h w){t:TypeId}{cs:List AV}{cv:Array Value}{off:Nat}{v:AV}(hv:a2q E t ((cs.drop off).take (E.sz t))=some v)
 (hc:VRels I w ρ cs cv.toList):Val E I K ρ h n w (part t cv off) v .none:=by
 obtain⟨c,h1,h2⟩:=a8i ok hv hc;exact Val.here r h1 h2
def c6u(E:Env)(t:TypeId)(x:AV)(f:Nat):Option AV:=
 match E.und t,x with
 |some (.struct fs),.agg cs=>match fs[f]? with
  |some fd=>a2q E fd.type ((cs.drop fd.offset).take (E.sz fd.type))
  |none=>none
 |_,_=>none
theorem c6t(ok:EnvOk E)(r:HRel E.G I K ρ h w){t:TypeId}{x v:AV}{f:Nat}{c:Value}(hl:c6u E t x f=some v)(hx:VRel I w ρ x c) :
 Val E I K ρ h n w (Instr.field t c f) v .none:=by
 unfold c6u at hl;split at hl
 ·rename_i fs cs hu;cases hf:fs[f]? with
  |none=>simp[hf]at hl
  |some fd=>
   simp only[hf]at hl;simp only[VRel]at hx;obtain⟨cv,rfl,hc⟩:=hx;have ac:(Instr.field t (.agg cv) f).run E.P w=(part fd.type cv fd.offset).run E.P w:=by simp[Instr.field,a0k ok w hu,hf,asAgg]
   obtain⟨c,w',ρ',h1,h2⟩:=c4v ok (n:=n) r hl hc;exact⟨c,w',ρ',by rw[ac,h1],h2⟩
 ·cases hl
def c3d(x:AV)(len:Nat):Option Nat:=
 match x with
 |.int _ i=>bif decide (0≤i)&&decide (i<(len:Int))then some i.toNat else none
 |_=>none
theorem b4k{x:AV}{len j:Nat}{c:Value}(hi:c3d x len=some j)(hx:VRel I w ρ x c):∃k i,c = .int k i∧x = .int k i∧0≤i∧i<len∧i.toNat=j∧j<len:=by
 unfold c3d at hi;split at hi
 ·rename_i k i;rw[cond_eq_ite]at hi;split at hi
  ·rename_i hc;simp only[b46,e2d]at hc;simp only[VRel]at hx;cases hi;exact⟨k,i,hx,rfl,hc.1,hc.2,rfl,by omega⟩
  ·cases hi
 ·cases hi
def a1x(E:Env)(h:FHeap)(t:TypeId)(p ix:AV):Option AV:=
 match E.und t with
 |some (.array len af)=>match c3d ix len with
  |some j=>bif (E.und af).isSome then match p with
   |.ptr b i o=>some (.ptr b i (o+j*E.sz af))
   |.iptr cs=>some (.iptr (cs.drop (j*E.sz af)))
   |_=>none
   else none
  |none=>none
 |some (.slice af)=>bif (E.und af).isSome then match p with
  |.slice b off len _=>match c3d ix len with
   |some j=>match h b with
    |some (.row k _)=>bif k==E.sz af then some (.ptr b (off+j) 0)else none
    |_=>none
   |none=>none
  |.islice aa _=>match c3d ix aa.length with
   |some j=>match aa[j]? with
    |some r=>bif r.length==E.sz af then some (.iptr r)else none
    |none=>none
   |none=>none
  |_=>none
  else none
 |_=>none
theorem b7k(ok:EnvOk E)(r:HRel E.G I K ρ h w){t:TypeId}{p ix v:AV}{c ci:Value}(hl:a1x E h t p ix=some v)(hp:VRel I w ρ p c)(hx:VRel I w ρ ix ci) :
 Val E I K ρ h n w (Instr.indexAt t c ci) v .none:=by
 unfold a1x at hl;split at hl
 ·rename_i len af hu;cases hi:c3d ix len with
  |none=>simp[hi]at hl
  |some j=>
   simp only[hi]at hl;obtain⟨k,i,rfl,_,h0,h1,hj,dq⟩:=b4k hi hx;rw[cond_eq_ite]at hl;split at hl
   case isFalse=>cases hl
   rename_i he;obtain⟨de,cq⟩:=e24.1 he;cases p with
   |ptr b i' o=>simp only[Option.some.injEq]at hl;subst hl;simp only[VRel]at hp;obtain⟨m,hm,rfl⟩:=hp;refine Val.here (c:=.pointer (some ⟨m.blk,m.off+i'*m.k+o+j*E.sz af,none⟩)) r ?_ (by simp only[VRel];exact⟨m,hm,by rw[Nat.add_assoc _ o]⟩);simp[Instr.indexAt,asIntOf,a0k ok w hu,Instr.sureAddr,h0,h1,a2z ok w cq,hj,a2y]
   |iptr cs=>simp only[Option.some.injEq]at hl;subst hl;simp only[VRel]at hp;obtain⟨b,off,rfl,hI,ey⟩:=hp;refine Val.here (c:=.pointer (some ⟨b,off+j*E.sz af,none⟩)) r ?_ (by simp only[VRel];exact⟨b,_,rfl,hI,VAt.drop' _ ey⟩);simp[Instr.indexAt,asIntOf,a0k ok w hu,Instr.sureAddr,h0,h1,a2z ok w cq,hj,a2y]
   |_=>simp at hl
 ·rename_i af hu;rw[cond_eq_ite]at hl;split at hl
  case isFalse=>cases hl
  rename_i he;obtain⟨de,cq⟩:=e24.1 he;cases p with
  |slice b off len cap=>
   simp only at hl;cases hi:c3d ix len with
   |none=>simp[hi]at hl
   |some j=>
    simp only[hi]at hl;obtain⟨k,i,rfl,_,h0,h1,hj,dq⟩:=b4k hi hx;cases hb:h b with
    |none=>simp[hb]at hl
    |some o=>
     cases o with
     |row kk aa=>
      simp only[hb]at hl;rw[cond_eq_ite]at hl;split at hl
      case isFalse=>cases hl
      rename_i hk;have hk:kk=E.sz af:=by simpa using hk
      cases hl;obtain⟨m,hm,_,_,ho⟩:=r.live b _ hb;simp only[VRel]at hp;obtain⟨a,cc,rfl,aN,_,dU⟩:=hp;rcases dU with hz|⟨m',bz,rfl,_⟩
      ·omega
      obtain rfl:m=m':=z9o (hm.symm.trans bz);have lQ:m.k=E.sz af:=by rw[ho.1,hk]
      refine Val.here (c:=.pointer (some ⟨m.blk,m.off+off*m.k+j*m.k,none⟩)) r ?_ (by simp only[VRel];exact⟨m,hm,by rw[e6j];simp;omega⟩);simp[Instr.indexAt,asIntOf,a0k ok w hu,h0,h1,a2z ok w cq,hj,a2y,lQ]
     |map ks vs bs cl=>simp[hb]at hl
     |siter s pos=>simp[hb]at hl
     |uset ks=>simp[hb]at hl
     |miter ks eh eK=>simp[hb]at hl
     |yloop y Fy st=>simp[hb]at hl
     |trow t x k aa=>simp[hb]at hl
  |islice aa cap=>
   simp only at hl;cases hi:c3d ix aa.length with
   |none=>simp[hi]at hl
   |some j=>
    simp only[hi]at hl;obtain⟨k,i,rfl,_,h0,h1,hj,dq⟩:=b4k hi hx;cases hr:aa[j]? with
    |none=>simp[hr]at hl
    |some rr=>
     simp only[hr]at hl;rw[cond_eq_ite]at hl;split at hl
     case isFalse=>cases hl
     rename_i hk;have hk:rr.length=E.sz af:=by simpa using hk
     cases hl;simp only[VRel]at hp;obtain⟨a,cc,kk,rfl,aN,_,dU⟩:=hp;rcases dU with hz|⟨hs,hI,aD⟩
     ·subst hz;simp at dq
     obtain⟨ak,ey⟩:=VRows.get j aD hr;have ha:a=⟨a.block,a.off,none⟩:=by cases a;simp_all
     refine Val.here (c:=.pointer (some ⟨a.block,a.off+j*kk,none⟩)) r ?_ (by simp only[VRel];exact⟨_,_,rfl,hI,ey⟩);rw[ha];simp[Instr.indexAt,asIntOf,a0k ok w hu,h0,h1,a2z ok w cq,hj,a2y,←hk,ak]
  |_=>simp at hl
 ·cases hl
def b65(E:Env)(t:TypeId)(x ix:AV):Option AV:=
 match E.und t,x with
 |some (.array len af),.agg cs=>match c3d ix len with
  |some j=>bif (E.und af).isSome then a2q E af ((cs.drop (j*E.sz af)).take (E.sz af))else none
  |none=>none
 |some .string,.str s=>match c3d ix s.length with
  |some j=>match s[j]? with
   |some b=>some (.int .u8 b.toNat)
   |none=>none
  |none=>none
 |_,_=>none
theorem c6b(t:ByteArray)(i:Nat):t[i]?=t.data.toList[i]?:=by
 simp only[e67];by_cases hi:i<t.size
 ·have h2:i<t.data.size:=hi;rw[getElem?_pos t i hi,getElem?_pos t.data i h2];rfl
 ·have h2:¬i<t.data.size:=hi;rw[getElem?_neg t i hi,getElem?_neg t.data i h2]
theorem c6s(ok:EnvOk E)(r:HRel E.G I K ρ h w){t:TypeId}{x ix v:AV}{c ci:Value}(hl:b65 E t x ix=some v)(hp:VRel I w ρ x c)(hx:VRel I w ρ ix ci) :
 Val E I K ρ h n w (Instr.index t c ci) v .none:=by
 unfold b65 at hl;split at hl
 ·rename_i len af cs hu;cases hi:c3d ix len with
  |none=>simp[hi]at hl
  |some j=>
   simp only[hi]at hl;obtain⟨k,i,rfl,_,h0,h1,hj,dq⟩:=b4k hi hx;rw[cond_eq_ite]at hl;split at hl
   case isFalse=>cases hl
   rename_i he;obtain⟨de,cq⟩:=e24.1 he;simp only[VRel]at hp;obtain⟨cv,rfl,hc⟩:=hp;have ac:(Instr.index t (.agg cv) (.int k i)).run E.P w=(part af cv (j*E.sz af)).run E.P w:=by simp[Instr.index,asIntOf,a0k ok w hu,h0,h1,a2z ok w cq,hj]
   obtain⟨c,w',ρ',h1,h2⟩:=c4v ok (n:=n) r hl hc;exact⟨c,w',ρ',by rw[ac,h1],h2⟩
 ·rename_i s hu;cases hi:c3d ix s.length with
  |none=>simp[hi]at hl
  |some j=>
   simp only[hi]at hl;obtain⟨k,i,rfl,_,h0,h1,hj,dq⟩:=b4k hi hx;simp only[VRel]at hp;obtain⟨tb,rfl,hs⟩:=hp;cases hb:s[j]? with
   |none=>simp[hb]at hl
   |some b=>
    simp only[hb,Option.some.injEq]at hl;subst hl;have:tb[i.toNat]?=some b:=by rw[c6b,hs,hj,hb]
    refine Val.here (c:=.int .u8 b.toNat) r ?_ (by simp[VRel]);simp[Instr.index,asIntOf,a0k ok w hu,h0,this]
 ·cases hl
/-! ### slicing -/
def a1n(x:Option AV)(y:Nat)(d:Nat):Option Nat:=
 match x with
 |none=>some d
 |some (.int _ i)=>bif decide (0≤i)&&decide (i≤(y:Int))then some i.toNat else none
 |some _=>none
def a2x(I:Nat→Prop)(w:World)(ρ:PMap):Option AV→Option Value→Prop
 |none,c=>c=none
 |some v,c=>∃x,c=some x∧VRel I w ρ v x
theorem a4g{x:Option AV}{c:Option Value}{y d j:Nat}(hb:a1n x y d=some j)(hx:a2x I w ρ x c)(y':Nat)(hy:y≤y')(code:BoundsCode) :
 (match c with|some v=>Instr.sliceBound v y' code|none=>pure d:Sem Nat).run E.P w = .ok j w∧(c.isSome=true→j≤y):=by
 unfold a1n at hb;split at hb
 ·simp only[a2x]at hx;subst hx;cases hb;simp
 ·rename_i k i;simp only[a2x,VRel]at hx;obtain⟨_,rfl,rfl⟩:=hx;rw[cond_eq_ite]at hb;split at hb
  ·rename_i hc;simp only[b46,e2d]at hc;cases hb;have:0≤i∧i≤(y':Int):=⟨hc.1,by omega⟩
   exact⟨by simp[Instr.sliceBound,asIntOf,this],λ_=>by omega⟩
  ·cases hb
 ·cases hb
end
end Go.Ax
/- AxSli: slices of slices and strings; composite values; rows that are c0h. -/
namespace Go.Ax
section
variable {E:Env}{I K:Nat→Prop}{ρ:PMap}{h:FHeap}{n:Nat}{w:World}
def a27(len:Nat)(cap:Option Nat):Nat:=match cap with|some c=>c|none=>len
def b1u(k:Nat):Nat→List AV→List (List AV)
 |0,_=>[]
 |n+1,cs=>cs.take k::b1u k n (cs.drop k)
def a3q(E:Env)(h:FHeap)(t:TypeId)(x:AV)(lo hi mx:Option AV):Option AV:=
 match E.und t,x with
 |some .string,.str s=>
  match mx,a1n hi s.length s.length with
  |none,some j=>match a1n lo j 0 with
   |some l=>some (.str ((s.take j).drop l))
   |none=>none
  |_,_=>none
 |some (.slice af),.slice b off len cap=>
  bif (E.und af).isSome then
  match h b with
  |some (.row k _)=>bif k==E.sz af then
   match mx with
   |none=>match a1n hi (a27 len cap) len with
    |some j=>match a1n lo j 0 with
     |some l=>some (.slice b (off+l) (j-l) (cap.map (·- l)))
     |none=>none
    |none=>none
   |some m=>match a1n (some m) (a27 len cap) 0 with
    |some mm=>match hi with
     |none=>none
     |some _=>match a1n hi mm 0 with
      |some j=>match a1n lo j 0 with
       |some l=>some (.slice b (off+l) (j-l) (some (mm-l)))
       |none=>none
      |none=>none
    |none=>none
   else none
  |_=>none
  else none
 |some (.slice af),.islice aa cap=>
  bif (E.und af).isSome&&aa.all (λr=>r.length==E.sz af)then
   match mx with
   |none=>match a1n hi aa.length aa.length with
    |some j=>match a1n lo j 0 with
     |some l=>some (.islice ((aa.take j).drop l) (cap.map (·- l)))
     |none=>none
    |none=>none
   |some m=>match a1n (some m) aa.length 0 with
    |some mm=>match hi with
     |none=>none
     |some _=>match a1n hi mm 0 with
      |some j=>match a1n lo j 0 with
       |some l=>some (.islice ((aa.take j).drop l) (some (mm-l)))
       |none=>none
      |none=>none
    |none=>none
  else none
 |some (.slice af),.nilslice=>
  bif (E.und af).isSome then
  match mx with
  |none=>match a1n hi 0 0 with
   |some j=>match a1n lo j 0 with
    |some _=>some .nilslice
    |none=>none
   |none=>none
  |some m=>match a1n (some m) 0 0 with
   |some mm=>match hi with
    |none=>none
    |some _=>match a1n hi mm 0 with
     |some j=>match a1n lo j 0 with
      |some _=>some .nilslice
      |none=>none
     |none=>none
   |none=>none
  else none
 |some (.array len af),.iptr cs=>match lo,hi,mx with
  |none,none,none=>bif (E.und af).isSome&&(cs.length==len*E.sz af&&Nat.blt 0 len)then some (.islice (b1u (E.sz af) len cs) (some len))else none
  |_,_,_=>none
 |_,_=>none
theorem b47{lo hi:Option AV}{iJ jd:Option Value}{gO kZ j l:Nat}(hj:a1n hi gO kZ=some j)(hl:a1n lo j 0=some l)
 (rh:a2x I w ρ hi jd)(rl:a2x I w ρ lo iJ)(nw:Bool)(len cap:Nat)(ak:kZ=len)(bD:gO≤cap)(rC:kZ≤gO) :
 (Instr.sliceBounds nw len cap iJ jd none).run E.P w = .ok (l,j,cap) w∧l≤j∧j≤gO:=by
 subst ak;have fx:=a4g (E:=E) hl rl j (e2c _) .sliceB;have dq:l≤j:=by
  unfold a1n at hl;split at hl
  ·cases hl;omega
  ·rw[cond_eq_ite]at hl;split at hl
   ·rename_i hc;simp only[b46,e2d]at hc;cases hl;omega
   ·cases hl
  ·cases hl
 have tp:j≤gO:=by
  unfold a1n at hj;split at hj
  ·cases hj;omega
  ·rw[cond_eq_ite]at hj;split at hj
   ·rename_i hc;simp only[b46,e2d]at hc;cases hj;omega
   ·cases hj
  ·cases hj
 refine⟨?_,dq,tp⟩;unfold Instr.sliceBounds;cases nw
 ·have kN:=a4g (E:=E) hj rh cap bD .sliceAlen;cases jd<;>cases iJ<;>simp at kN fx<;>simp[kN,fx]
 ·have kN:=a4g (E:=E) hj rh cap bD .sliceAcap;cases jd<;>cases iJ<;>simp at kN fx<;>simp[kN,fx]
theorem c0t{lo hi:Option AV}{m:AV}{iJ jd:Option Value}{cm:Value}{gO mm j l:Nat}(hm:a1n (some m) gO 0=some mm)(hj:a1n hi mm 0=some j)(hl:a1n lo j 0=some l)
 (rm:VRel I w ρ m cm)(rh:a2x I w ρ hi jd)(tw:hi.isSome=true)(rl:a2x I w ρ lo iJ)(nw:Bool)(len cap:Nat)(bD:gO≤cap) :
 (Instr.sliceBounds nw len cap iJ jd (some cm)).run E.P w = .ok (l,j,mm) w∧l≤j∧j≤mm∧mm≤gO:=by
 have qB:∃ch,jd=some ch:=by
  cases hi with
  |none=>simp at tw
  |some x=>simp only[a2x]at rh;obtain⟨y,h,_⟩:=rh;exact⟨y,h⟩
 obtain⟨ch,rfl⟩:=qB;have fx:=a4g (E:=E) hl rl j (e2c _) .slice3C;have kN:=a4g (E:=E) hj rh mm (e2c _) .slice3B;have le:∀{x:Option AV} {y d z:Nat},a1n x y d=some z→d≤y→z≤y:=by
  intro x y d z hz hd;unfold a1n at hz;split at hz
  ·cases hz;omega
  ·rw[cond_eq_ite]at hz;split at hz
   ·rename_i hc;simp only[b46,e2d]at hc;cases hz;omega
   ·cases hz
  ·cases hz
 refine⟨?_,le hl (e3h _),le hj (e3h _),le hm (e3h _)⟩;unfold Instr.sliceBounds;cases nw
 ·have ls:=a4g (E:=E) (c:=some cm) hm (by simp only[a2x];exact⟨cm,rfl,rm⟩) cap bD .slice3Alen;cases iJ<;>simp at ls kN fx<;>simp[ls,kN,fx]
 ·have ls:=a4g (E:=E) (c:=some cm) hm (by simp only[a2x];exact⟨cm,rfl,rm⟩) cap bD .slice3Acap;cases iJ<;>simp at ls kN fx<;>simp[ls,kN,fx]
theorem a2b(ok:EnvOk E){t af:TypeId}(hu:E.und t=some (.slice af)){de:TypeDesc}(he:E.und af=some de){a:Option Addr}{len cap l j m:Nat}{iJ jd oO:Option Value}
 (hb:(Instr.sliceBounds true len cap iJ jd oO).run E.P w = .ok (l,j,m) w) :
 (Instr.sliceAt t (.slice a len cap) iJ jd oO).run E.P w = .ok (.slice (if m=l then a else a.map (·.add (l*E.sz af))) (j-l) (m-l)) w:=by
 simp[Instr.sliceAt,a0k ok w hu,Instr.slice,hb,a2z ok w he]
theorem a5y(s:ByteArray)(l j:Nat):(s.extract l j).data.toList=(s.data.toList.take j).drop l:=by rw[ByteArray.data_extract,Array.toList_extract,List.extract_eq_take_drop];rw[List.drop_take]
theorem a8s{b off len:Nat}{cap:Option Nat}{a:Addr}{c l j m:Nat}{k:Nat}{aa:List (List AV)}{kI:Option Nat}{sz:Nat}
 (r:HRel E.G I K ρ h w)(hb:h b=some (.row k aa))(hk:k=sz)(hp:VRel I w ρ (.slice b off len cap) (.slice (some a) len c))
 (tj:l≤j)(ng:j≤m)(uD:m≤c)(bD:∀n,kI=some n→m-l=n) :
 VRel I w ρ (.slice b (off+l) (j-l) kI) (.slice (if m=l then some a else(some a).map (·.add (l*sz))) (j-l) (m-l)):=by
 simp only[VRel]at hp⊢;obtain⟨a',c',he,aN,hc,dU⟩:=hp;cases he;by_cases jj:m=l
 ·rw[e3g jj];exact⟨a,m-l,by simp,by omega,bD,.inl (by omega)⟩
 ·rw[e2i jj];rcases dU with h0|⟨mm,hmm,rfl,aJ⟩
  ·omega
  ·obtain⟨m',bz,_,_,ho⟩:=r.live b _ hb;obtain rfl:mm=m':=z9o (hmm.symm.trans bz);refine⟨_,m-l,rfl,by omega,bD,.inr ⟨mm,hmm,?_,?_⟩⟩
   ·dsimp only;rw[a2y,ho.1,hk,e6j]
    congr 1;omega
   ·have:(off+l+(m-l))*mm.k≤(off+c)*mm.k:=e5z _ (by omega);omega
theorem a7k{aa:List (List AV)}{cap:Option Nat}{a:Addr}{c l j m sz:Nat}{kI:Option Nat}(aH:aa.all (λr=>r.length==sz)=true)
 (hp:VRel I w ρ (.islice aa cap) (.slice (some a) aa.length c))(tj:l≤j)(ng:j≤m)(rE:j≤aa.length)(_:m≤c)(bD:∀n,kI=some n→m-l=n) :
 VRel I w ρ (.islice ((aa.take j).drop l) kI) (.slice (if m=l then some a else(some a).map (·.add (l*sz))) (j-l) (m-l)):=by
 simp only[VRel]at hp⊢;obtain⟨a',c',k,he,aN,hc,dU⟩:=hp;cases he;have ak:((aa.take j).drop l).length=j-l:=by simp;omega
 by_cases jj:m=l
 ·rw[e3g jj];refine⟨a,m-l,k,by rw[ak],by rw[ak];omega,bD,.inl ?_⟩;apply e6x;simp;omega
 ·rw[e2i jj];refine⟨_,m-l,k,by rw[ak];rfl,by rw[ak];omega,bD,?_⟩;rcases dU with h0|⟨hs,hI,aD⟩
  ·left;subst h0;simp
  ·by_cases hr:aa=[]
   ·left;subst hr;simp
   ·right;have lT:k=sz:=by
     cases aa with
     |nil=>exact absurd rfl hr
     |cons r rs=>simp only[VRows]at aD;simp only[List.all_cons,b46,e6n]at aH;omega
    have ha:a=⟨a.block,a.off,none⟩:=by cases a;simp_all
    rw[ha];dsimp only;rw[a2y];refine⟨rfl,hI,?_⟩;have h2:l≤(aa.take j).length:=by simp;omega
    have:=VRows.drop l h2 (VRows.take j aD);rw[lT]at this⊢;exact this
theorem b1c(k:Nat):∀(n:Nat) (cs:List AV),(b1u k n cs).length=n
 |0,_=>rfl
 |n+1,cs=>by simp[b1u,b1c k n]
theorem b40{k:Nat}:∀(n:Nat) {cs:List AV} {b off:Nat},cs.length=n*k→VAt I w ρ cs b off→VRows I w k ρ (b1u k n cs) b off
 |0,cs,b,off,_,_=>by simp[b1u,VRows]
 |n+1,cs,b,off,hl,hv=>by rw[e7e]at hl;simp only[b1u,VRows];refine⟨by rw[e4z];omega,VAt.take k hv,?_⟩;have hd:=VAt.drop (I:=I) (w:=w) (ρ:=ρ) k (by omega:k≤cs.length) hv;exact b40 n (by rw[e79];omega) hd
theorem b7h(ok:EnvOk E)(r:HRel E.G I K ρ h w){n:Nat}{t af:TypeId}{len:Nat}(hu:E.und t=some (.array len af)){de:TypeDesc}(cq:E.und af=some de){cs:List AV}{c:Value}
 (ak:cs.length=len*E.sz af)(dX:0<len)(hx:VRel I w ρ (.iptr cs) c):Val E I K ρ h n w (Instr.sliceAt t c none none none) (.islice (b1u (E.sz af) len cs) (some len)) .none:=by
 simp only[VRel]at hx;obtain⟨b,off,rfl,hI,ey⟩:=hx;have ev:¬len=0:=by omega
 have hb:=b47 (E:=E) (I:=I) (ρ:=ρ) (w:=w) (lo:=none) (hi:=none) (iJ:=none) (jd:=none) (gO:=len) (kZ:=len) (j:=len) (l:=0) rfl rfl (by simp[a2x]) (by simp[a2x]) false len len rfl (e2c _) (e2c _);refine Val.here (c:=.slice (some ⟨b,off,none⟩) len len) r ?_ ?_
 ·simp[Instr.sliceAt,a0k ok w hu,Instr.sureAddr,hb.1,a2z ok w cq,ev,a2y]
 ·simp only[VRel];refine⟨_,len,E.sz af,by rw[b1c],by rw[b1c];exact e2c _,λq hq=>by cases hq;rfl,.inr ⟨rfl,hI,b40 len ak ey⟩⟩
theorem c6h(ok:EnvOk E)(r:HRel E.G I K ρ h w){t:TypeId}{x v:AV}{lo hi mx:Option AV}{c:Value}{iJ jd oO:Option Value}(hl:a3q E h t x lo hi mx=some v)
 (hx:VRel I w ρ x c)(rl:a2x I w ρ lo iJ)(rh:a2x I w ρ hi jd)(rm:a2x I w ρ mx oO):Val E I K ρ h n w (Instr.sliceAt t c iJ jd oO) v .none:=by
 unfold a3q at hl;split at hl
 · -- strings
  rename_i s hu;split at hl
  ·rename_i j hj;simp only[a2x]at rm;subst rm;cases ee:a1n lo j 0 with
   |none=>simp[ee]at hl
   |some l=>
    simp only[ee,Option.some.injEq]at hl;subst hl;simp only[VRel]at hx;obtain⟨tb,rfl,hs⟩:=hx;have bA:tb.size=s.length:=by rw[←hs,e3i];rfl
    obtain⟨hb,h1,h2⟩:=b47 (E:=E) hj ee rh rl false tb.size tb.size bA.symm (by omega) (e2c _);refine Val.here (c:=.string (tb.extract l j)) r ?_ (by simp only[VRel];exact⟨_,rfl,by rw[a5y,hs]⟩);simp[Instr.sliceAt,a0k ok w hu,Instr.slice,hb]
  ·cases hl
 · -- a mutable block
  rename_i af b off len cap hu;rw[cond_eq_ite]at hl;split at hl
  case isFalse=>cases hl
  rename_i he;obtain⟨de,cq⟩:=e24.1 he;split at hl
  case h_2=>cases hl
  rename_i k aa hb;rw[cond_eq_ite]at hl;split at hl
  case isFalse=>cases hl
  rename_i hk;have hk:k=E.sz af:=by simpa using hk
  have lg:=hx;simp only[VRel]at lg;obtain⟨a,cc,rfl,aN,bD,dU⟩:=lg;have ma:a27 len cap≤cc:=by unfold a27;cases cap with|none=>exact aN|some c=>rw[bD c rfl];exact e2c _
  have n8:len≤a27 len cap:=by unfold a27;cases cap with|none=>exact e2c _|some c=>rw[←bD c rfl];exact aN
  cases mx with
  |none=>
   simp only[a2x]at rm;subst rm;simp only at hl;cases hj:a1n hi (a27 len cap) len with
   |none=>simp[hj]at hl
   |some j=>
    simp only[hj]at hl;cases ee:a1n lo j 0 with
    |none=>simp[ee]at hl
    |some l=>
     simp only[ee,Option.some.injEq]at hl;subst hl;obtain⟨jo,h1,h2⟩:=b47 (E:=E) hj ee rh rl true len cc rfl ma n8;refine Val.here r (a2b ok hu cq jo) (a8s r hb hk hx h1 (by omega) (e2c _) ?_);intro q hq;cases cap with
     |none=>simp at hq
     |some c=>simp at hq;rw[bD c rfl];exact hq
  |some m=>
   simp only[a2x]at rm;obtain⟨cm,rfl,rm⟩:=rm;simp only at hl;cases hmm:a1n (some m) (a27 len cap) 0 with
   |none=>simp[hmm]at hl
   |some mm=>
    simp only[hmm]at hl;cases hi with
    |none=>simp at hl
    |some hi=>
     simp only at hl;cases hj:a1n (some hi) mm 0 with
     |none=>simp[hj]at hl
     |some j=>
      simp only[hj]at hl;cases ee:a1n lo j 0 with
      |none=>simp[ee]at hl
      |some l=>simp only[ee,Option.some.injEq]at hl;subst hl;obtain⟨jo,h1,h2,h3⟩:=c0t (E:=E) hmm hj ee rm rh rfl rl true len cc ma;exact Val.here r (a2b ok hu cq jo) (a8s r hb hk hx h1 h2 (by omega) (λq hq=>by cases hq;rfl))
 · -- immutable memory
  rename_i af aa cap hu;rw[cond_eq_ite]at hl;split at hl
  case isFalse=>cases hl
  rename_i he;simp only[b46]at he;obtain⟨de,cq⟩:=e24.1 he.1;have lg:=hx;simp only[VRel]at lg;obtain⟨a,cc,kk,rfl,aN,bD,dU⟩:=lg;cases mx with
  |none=>
   simp only[a2x]at rm;subst rm;simp only at hl;cases hj:a1n hi aa.length aa.length with
   |none=>simp[hj]at hl
   |some j=>
    simp only[hj]at hl;cases ee:a1n lo j 0 with
    |none=>simp[ee]at hl
    |some l=>
     simp only[ee,Option.some.injEq]at hl;subst hl;obtain⟨jo,h1,h2⟩:=b47 (E:=E) hj ee rh rl true aa.length cc rfl aN (e2c _);refine Val.here r (a2b ok hu cq jo) (a7k he.2 hx h1 (by omega) h2 (e2c _) ?_);intro q hq;cases cap with
     |none=>simp at hq
     |some c=>simp at hq;rw[bD c rfl];exact hq
  |some m=>
   simp only[a2x]at rm;obtain⟨cm,rfl,rm⟩:=rm;simp only at hl;cases hmm:a1n (some m) aa.length 0 with
   |none=>simp[hmm]at hl
   |some mm=>
    simp only[hmm]at hl;cases hi with
    |none=>simp at hl
    |some hi=>
     simp only at hl;cases hj:a1n (some hi) mm 0 with
     |none=>simp[hj]at hl
     |some j=>
      simp only[hj]at hl;cases ee:a1n lo j 0 with
      |none=>simp[ee]at hl
      |some l=>simp only[ee,Option.some.injEq]at hl;subst hl;obtain⟨jo,h1,h2,h3⟩:=c0t (E:=E) hmm hj ee rm rh rfl rl true aa.length cc aN;exact Val.here r (a2b ok hu cq jo) (a7k he.2 hx h1 h2 (by omega) (by omega) (λq hq=>by cases hq;rfl))
 · -- nil
  rename_i af hu;rw[cond_eq_ite]at hl;split at hl
  case isFalse=>cases hl
  rename_i he;obtain⟨de,cq⟩:=e24.1 he;simp only[VRel]at hx;subst hx;cases mx with
  |none=>
   simp only[a2x]at rm;subst rm;simp only at hl;cases hj:a1n hi 0 0 with
   |none=>simp[hj]at hl
   |some j=>
    simp only[hj]at hl;cases ee:a1n lo j 0 with
    |none=>simp[ee]at hl
    |some l=>
     simp only[ee,Option.some.injEq]at hl;subst hl;obtain⟨jo,h1,h2⟩:=b47 (E:=E) hj ee rh rl true 0 0 rfl (e2c _) (e2c _);obtain rfl:j=0:=by omega
     obtain rfl:l=0:=by omega
     exact Val.here (c:=.slice none 0 0) r (by rw[a2b ok hu cq jo];rfl) (by simp[VRel])
  |some m=>
   simp only[a2x]at rm;obtain⟨cm,rfl,rm⟩:=rm;simp only at hl;cases hmm:a1n (some m) 0 0 with
   |none=>simp[hmm]at hl
   |some mm=>
    simp only[hmm]at hl;cases hi with
    |none=>simp at hl
    |some hi=>
     simp only at hl;cases hj:a1n (some hi) mm 0 with
     |none=>simp[hj]at hl
     |some j=>
      simp only[hj]at hl;cases ee:a1n lo j 0 with
      |none=>simp[ee]at hl
      |some l=>
       simp only[ee,Option.some.injEq]at hl;subst hl;obtain⟨jo,h1,h2,h3⟩:=c0t (E:=E) hmm hj ee rm rh rfl rl true 0 0 (e2c _);obtain rfl:mm=0:=by omega
       obtain rfl:j=0:=by omega
       obtain rfl:l=0:=by omega
       exact Val.here (c:=.slice none 0 0) r (by rw[a2b ok hu cq jo];rfl) (by simp[VRel])
 · -- a whole array
  rename_i len af cs hu;split at hl
  case h_2=>cases hl
  rw[cond_eq_ite]at hl;split at hl
  case isFalse=>cases hl
  rename_i he;simp only[b46,e6n]at he;obtain⟨he,ak,hp⟩:=he;obtain⟨de,cq⟩:=e24.1 he;have hp:0<len:=by simpa[e3f]using hp
  cases hl;simp only[a2x]at rl rh rm;subst rl rh rm;exact b7h ok r hu cq ak hp hx
 ·cases hl
end
end Go.Ax
/- AxMake: composite values, slice literals, make. -/
namespace Go.Ax
section
variable {E:Env}{I K:Nat→Prop}{ρ:PMap}{h:FHeap}{n:Nat}{w:World}
def AV.isJunk:AV→Bool
 |.junk=>true
 |_=>false
theorem AV.not_junk{v:AV}(h:v.isJunk=false):v≠ .junk:=by rintro rfl;simp[AV.isJunk]at h
def b1f(gP:Nat→Option (Nat×Nat))(cells:List AV):List (Nat×AV)→Option (List AV)
 | []=>some cells
 |(i,v)::ag=>match gP i with
  |none=>none
  |some (off,size)=>bif !v.isJunk&&v.cells.length==size&&Nat.ble (off+size) cells.length then b1f gP (splice cells off v.cells) ag else none
def a56(I:Nat→Prop)(w:World)(ρ:PMap):List (Nat×AV)→List (Nat×Value)→Prop
 | [],l=>l=[]
 |(i,v)::r,l=>∃c r',l=(i,c)::r'∧VRel I w ρ v c∧a56 I w ρ r r'
def d7o(a:List Value)(off:Nat)(cs:List Value):List Value:=a.take off++cs++a.drop (off+cs.length)
theorem b97(off:Nat):∀(cs:List Value) (j:Nat) (a:Array Value),off+j+cs.length≤a.size→
 (((cs.zipIdx j).foldl (λ(a:Array Value) (x:Value×Nat)=>a.setIfInBounds (off+x.2) x.1) a).toList=d7o a.toList (off+j) cs)
 | [],j,a,_=>by simp[d7o]
 |c::cs,j,a,hl=>by
  simp only[b94]at hl;simp only[List.zipIdx_cons,List.foldl_cons];rw[b97 off cs (j+1) _ (by simp;omega)];unfold d7o;simp only[Array.toList_setIfInBounds,b94];rw[show off+(j+1)=(off+j)+1 by omega,show(off+j)+(cs.length+1)=(off+j)+1+cs.length by omega];have aq:off+j<a.toList.length:=by simp;omega
  rw[List.take_succ_eq_append_getElem (by simpa using aq),List.take_set_of_le (e2c _),List.drop_set_of_lt (by omega)];simp
theorem VRels.splice{vs cs:List AV}{xs ys:List Value}{off:Nat}(h:VRels I w ρ vs xs)(k:VRels I w ρ cs ys):VRels I w ρ (Ax.splice vs off cs) (d7o xs off ys):=by unfold Ax.splice d7o;rw[VRels.length k];exact VRels.append (VRels.append (VRels.take off h) k) (VRels.drop _ h)
theorem b2m{gP:Nat→Option (Nat×Nat)}:∀{aL:List (Nat×AV)} {cells jS:List AV} {cv:Array Value} {dy:List (Nat×Value)},
 b1f gP cells aL=some jS→VRels I w ρ cells cv.toList→a56 I w ρ aL dy→∃jq,Instr.fill gP cv dy=some jq∧VRels I w ρ jS jq.toList
 | [],cells,jS,cv,dy,hf,hc,hp=>by simp only[a56]at hp;subst hp;simp only[b1f,Option.some.injEq]at hf;subst hf;exact⟨cv,rfl,hc⟩
 |(i,v)::ag,cells,jS,cv,dy,hf,hc,hp=>by
  simp only[a56]at hp;obtain⟨c,r',rfl,hv,hp⟩:=hp;simp only[b1f]at hf;cases eg:gP i with
  |none=>simp[eg]at hf
  |some os=>
   obtain⟨off,size⟩:=os;simp only[eg]at hf;rw[cond_eq_ite]at hf;split at hf
   case isFalse=>cases hf
   rename_i iB;simp only[b46,e5i,e6n,e5e]at iB;obtain⟨⟨hj,bA⟩,cG⟩:=iB;have dp:=VRel.cells hv (AV.not_junk hj);have eE:=VRels.length dp;have mL:=VRels.length hc;simp only[e3i]at eE mL;have ka:=b97 off c.cells.toList 0 cv (by simp;omega);simp only[e5y]at ka;have bu:VRels I w ρ (splice cells off v.cells) ((c.cells.zipIdx.foldl (λcs (x:Value×Nat)=>cs.setIfInBounds (off+x.2) x.1) cv).toList):=by
    have e:(c.cells.zipIdx.foldl (λcs (x:Value×Nat)=>cs.setIfInBounds (off+x.2) x.1) cv) =
     (c.cells.toList.zipIdx.foldl (λcs (x:Value×Nat)=>cs.setIfInBounds (off+x.2) x.1) cv):=by
     rw[←Array.foldl_toList,Array.toList_zipIdx]
    rw[e,ka];exact VRels.splice hc dp
   obtain⟨jq,h1,h2⟩:=b2m hf bu hp;refine⟨jq,?_,h2⟩;simp only[Instr.fill,eg];have:¬((c.cells.size≠size||decide (off+c.cells.size>cv.size))=true):=by simp only[ne_eq,e6u,e2d,not_or];omega
   rw[e2i (by simpa using this)];exact h1
def b68(E:Env)(t:TypeId)(aL:List (Nat×AV)):Option AV:=
 match E.zero t with
 |none=>none
 |some z=>match E.und t with
  |some (.struct fs)=>bif fs.toList.all (λf=>(E.und f.type).isSome)then
   match b1f (λi=>(fs[i]?).map λf=>(f.offset,E.sz f.type)) z aL with
   |some cs=>some (.agg cs)
   |none=>none
   else none
  |some (.array _ af)=>bif (E.und af).isSome then
   match b1f (λi=>some (i*E.sz af,E.sz af)) z aL with
   |some cs=>some (.agg cs)
   |none=>none
   else none
  |_=>none
theorem b5c(ok:EnvOk E):∀(fs:List Field) (w:World),fs.all (λf=>(E.und f.type).isSome)=true→
 (fs.mapM (λf=>do pure (f.offset,←sizeOf f.type):Field→Sem (Nat×Nat))).run E.P w = .ok (fs.map λ(f:Field)=>(f.offset,E.sz f.type)) w
 | [],w,_=>by simp
 |f::fs,w,hf=>by simp only[List.all_cons,b46]at hf;obtain⟨d,hd⟩:=e24.1 hf.1;have ih:=b5c ok fs w hf.2;simp only[List.mapM_cons,Sem.run_bind,a2z ok w hd,Result.andThen_ok,Sem.run_pure,ih,e2b]
theorem c70(ok:EnvOk E)(r:HRel E.G I K ρ h w){t:TypeId}{aL:List (Nat×AV)}{dy:List (Nat×Value)}{v:AV}(hl:b68 E t aL=some v)(hp:a56 I w ρ aL dy) :
 Val E I K ρ h n w (Instr.build t dy.toArray) v .none:=by
 unfold b68 at hl;cases hz:E.zero t with
 |none=>simp[hz]at hl
 |some z=>
  simp only[hz]at hl;obtain⟨zv,gA,_,cO⟩:=a6p ok w hz;have bx:VRels I w ρ z zv.cells.toList:=VRels.noRef_any (cO I w);split at hl
  ·rename_i fs hu;rw[cond_eq_ite]at hl;split at hl
   case isFalse=>cases hl
   rename_i aH;split at hl
   case h_2=>cases hl
   rename_i cs hf;cases hl;obtain⟨jq,h1,h2⟩:=b2m hf bx hp;refine Val.here (c:=.agg jq) r ?_ (by simp only[VRel];exact⟨jq,rfl,h2⟩);have eg:=b5c ok fs.toList w aH;have hm:(fs.mapM (λf=>do pure (f.offset,←sizeOf f.type):Field→Sem (Nat×Nat))).run E.P w = .ok (fs.map λ(f:Field)=>(f.offset,E.sz f.type)) w:=by
    rw[Array.mapM_eq_mapM_toList,Sem.run_map,eg];simp only[Result.andThen_ok]
    congr 1
    apply e6c;simp
   have hE:(λ(i:Nat)=>(fs.map λ(f:Field)=>(f.offset,E.sz f.type))[i]?)=(λ(i:Nat)=>(fs[i]?).map λ(f:Field)=>(f.offset,E.sz f.type)):=by funext i;simp
   simp only[Instr.build,Sem.run_bind,gA,Result.andThen_ok,a0k ok w hu,hm,hE,h1,Sem.run_pure]
  ·rename_i m af hu;rw[cond_eq_ite]at hl;split at hl
   case isFalse=>cases hl
   rename_i he;obtain⟨de,cq⟩:=e24.1 he;split at hl
   case h_2=>cases hl
   rename_i cs hf;cases hl;obtain⟨jq,h1,h2⟩:=b2m hf bx hp;refine Val.here (c:=.agg jq) r ?_ (by simp only[VRel];exact⟨jq,rfl,h2⟩);simp only[Instr.build,Sem.run_bind,gA,Result.andThen_ok,a0k ok w hu,a2z ok w cq,h1,Sem.run_pure]
  ·cases hl
/-! ### rows of equal elements -/
theorem a3h{α:Type}[Inhabited α](zs:List α):∀c:Nat,((List.range (c*zs.length)).map λi=>zs[i%zs.length]!)=(List.replicate c zs).flatten
 |0=>by simp
 |c+1=>by
  rw[e7e,List.range_add,e3j,a3h zs c,List.replicate_succ',List.flatten_append]
  congr 1
  simp only[List.map_map,e5h,List.flatten_nil,e2h];apply List.ext_getElem
  ·simp
  ·intro i h1 h2;simp only[List.getElem_map,List.getElem_range,Function.comp];rw[Nat.add_comm,Nat.add_mul_mod_self_right,Nat.mod_eq_of_lt h2];simp[h2]
theorem VRels.flatten_replicate{z:List AV}{zs:List Value}(hz:VRels I w ρ z zs):∀c,VRels I w ρ (List.replicate c z).flatten (List.replicate c zs).flatten
 |0=>by simp[VRels]
 |c+1=>by simp only[e6p,e5h];exact VRels.append hz (VRels.flatten_replicate hz c)
def a3x(E:Env)(n:Nat)(t:TypeId)(len cap:AV):Option (AV×Eff):=
 match E.und t,len,cap with
 |some (.slice af),.int _ l,.int _ c=>
  match E.zero af with
  |some z=>bif decide (0≤l)&&decide (l≤c)&&decide (c≤281474976710656)&&decide ((E.bytes af:Int)*c≤281474976710656)&&Nat.blt 0 z.length then
   some (.slice n 0 l.toNat (some c.toNat),.new (.row z.length (List.replicate c.toNat z)))else none
  |none=>none
 |_,_,_=>none
theorem b0j{x:Int}(h0:0≤x)(h1:x≤281474976710656):IntKind.i64.wrap x=x:=by simp[IntKind.wrap,IntKind.signed,IntKind.bits];omega
theorem b7i(ok:EnvOk E)(r:HRel E.G I K ρ h w)(hn:h n=none)(hρ:ρ n=none){t:TypeId}{len cap v:AV}{e:Eff}{cl cc:Value}(ha:a3x E n t len cap=some (v,e))
 (ak:VRel I w ρ len cl)(bD:VRel I w ρ cap cc):Val E I K ρ h n w (Instr.makeSlice t cl cc) v e:=by
 unfold a3x at ha;split at ha
 ·rename_i af k1 l k2 c hu;cases hz:E.zero af with
  |none=>simp[hz]at ha
  |some z=>
   simp only[hz]at ha;rw[cond_eq_ite]at ha;split at ha
   case isFalse=>cases ha
   rename_i hc;simp only[b46,e2d,e3f]at hc;obtain⟨⟨⟨⟨h0,h1⟩,h2⟩,h3⟩,h4⟩:=hc;cases ha;simp only[VRel]at ak bD;subst ak bD;obtain⟨⟨de,cq⟩,_⟩:=ok.zero af z hz;obtain⟨zv,gA,jg,cO⟩:=a6p ok w hz;have fD:=cO I w;have fk:=VRels.length fD;obtain⟨i,hi,tu,tt⟩:=b29 ok w cq;have sK:IntKind.i64.wrap c=c:=b0j (by omega) h2;have pK:IntKind.i64.wrap l=l:=b0j h0 (by omega);have tY:(i.bytes:Int)*c≤281474976710656:=by rw[tt];exact h3
   have i8:(i.bytes:Int)*l≤281474976710656:=Int.le_trans (Int.mul_le_mul_of_nonneg_left h1 (by omega)) tY;have ij:∀w',(zeroValue af).run E.P w' = .ok zv w':=by intro w';obtain⟨_,i',z',kn,js,_⟩:=ok.zero af z hz;have:=gA;simp[zeroValue,typeInfo,kn,js]at this⊢;exact this
   refine a9v (el:=af) (k:=z.length) (aa:=List.replicate c.toNat z) (cells:=(Array.range (c.toNat*E.sz af)).map (λi=>zv.cells[i%zv.cells.size]!))
    (mk:=λa=>.slice (some a) l.toNat c.toNat) r hn hρ h4 (by intro x hx;rw[e77 hx]) ?_ ⟨rfl,rfl,rfl,rfl⟩ ?_ ?_
   ·rw[show((Array.range (c.toNat*E.sz af)).map (λi=>zv.cells[i%zv.cells.size]!)).toList=(List.replicate c.toNat zv.cells.toList).flatten by
     rw[←a3h];simp only[e5t,Array.toList_range,e3i];rw[show E.sz af=zv.cells.size by rw[←jg,fk];simp];apply e5c;intro a _;rw[Array.getElem!_toList]]
    exact VRels.flatten_replicate (VRels.noRef_any fD) _
   ·have nX:¬(c<0∨281474976710656<(i.bytes:Int)*c):=by omega
    have e1:(decide (c<0)||decide ((i.bytes:Int)*c>2^48)||decide (l<0)||decide (l>c))=false:=by simp only[Bool.or_eq_false_iff,decide_eq_false_iff_not];omega
    simp only[Instr.makeSlice,Sem.run_bind,a0k ok w hu,Result.andThen_ok,asInt,asIntOf,Sem.run_pure,hi,sK,pK];simp only[e1,e5d,e76];by_cases ev:c.toNat*E.sz af=0
    ·have:c.toNat=0:=by
      rcases Nat.mul_eq_zero.1 ev with h|h
      ·exact h
      ·omega
     have lN:∀f:Nat→Value,Array.map f (Array.range 0) = #[]:=by intro f;simp
     simp[a2z ok w cq,this,a3g];rw[lN,lN]
    ·simp[a2z ok w cq,ev,ij,a3g]
   ·intro w' ρ' h';simp only[VRel];exact⟨_,c.toNat,rfl,by omega,λq hq=>by cases hq;rfl,.inr ⟨_,h',by simp,by simp[jg]⟩⟩
 ·cases ha
def b4d(k:Nat)(aa:List (List AV)):List (Nat×AV)→Option (List (List AV))
 | []=>some aa
 |(i,v)::ag=>bif !v.isJunk&&v.cells.length==k&&Nat.blt i aa.length then b4d k (aa.set i v.cells) ag else none
theorem b3r{k:Nat}:∀(aa:List (List AV)) (i:Nat) (cs:List AV),(∀r∈aa,r.length=k)→cs.length=k→i<aa.length→(aa.set i cs).flatten=splice aa.flatten (i*k) cs
 | [],i,cs,_,_,hi=>by simp at hi
 |r::aa,0,cs,hr,hc,_=>by
  have:r.length=cs.length:=by rw[hr r (by simp),hc]
  simp[splice,←this]
 |r::aa,i+1,cs,hr,hc,hi=>by have hk:r.length=k:=hr r (by simp);have ih:=b3r aa i cs (λr j9=>hr r (by simp[j9])) hc (by simpa using hi);simp only[List.set_cons_succ,e5h,ih];unfold splice;rw[e7e,List.take_append,List.drop_append];have e1:r.take (i*k+k)=r:=e3c (by omega);have e2:r.drop (i*k+k+cs.length)=[]:=e6x (by omega);rw[e1,e2];rw[show i*k+k-r.length=i*k by omega,show i*k+k+cs.length-r.length=i*k+cs.length by omega];simp
theorem b64{k:Nat}(len:Nat):∀{aL:List (Nat×AV)} {aa jS:List (List AV)},b4d k aa aL=some jS→(∀r∈aa,r.length=k)→aa.length=len→
 b1f (λi=>some (i*k,k)) aa.flatten aL=some jS.flatten∧(∀r∈jS,r.length=k)∧jS.length=len
 | [],aa,jS,hf,hr,ak=>by simp only[b4d,Option.some.injEq]at hf;subst hf;exact⟨rfl,hr,ak⟩
 |(i,v)::ag,aa,jS,hf,hr,ak=>by
  simp only[b4d]at hf;rw[cond_eq_ite]at hf;split at hf
  case isFalse=>cases hf
  rename_i hc;simp only[b46,e5i,e6n,e3f]at hc;obtain⟨⟨hj,hk⟩,hi⟩:=hc;have ih:=b64 len hf (by
   intro r j9;rcases List.mem_or_eq_of_mem_set j9 with h|h
   ·exact hr r h
   ·rw[h,hk]) (by simpa using ak)
  refine⟨?_,ih.2⟩;simp only[b1f];have dz:=a19 hr;have cG:Nat.ble (i*k+k) aa.flatten.length=true:=by rw[e5e,dz,←e7e];exact e5z k hi
  simp only[hj,hk,cG,e7g,e7d,e57,e3e];rw[←b3r aa i v.cells hr hk hi];exact ih.1
def a3c(E:Env)(n:Nat)(t:TypeId)(len:Nat)(aL:List (Nat×AV)):Option (AV×Eff):=
 match E.und t with
 |some (.slice af)=>match E.zero af with
  |some z=>bif Nat.blt 0 z.length&&Nat.ble (len*z.length) 16777216 then
   match b4d z.length (List.replicate len z) aL with
   |some aa=>some (.slice n 0 len (some len),.new (.row z.length aa))
   |none=>none
   else none
  |none=>none
 |_=>none
theorem b4x(ok:EnvOk E)(r:HRel E.G I K ρ h w)(hn:h n=none)(hρ:ρ n=none){t:TypeId}{len:Nat}{aL:List (Nat×AV)}{dy:List (Nat×Value)}{v:AV}{e:Eff}
 (ha:a3c E n t len aL=some (v,e))(hp:a56 I w ρ aL dy):Val E I K ρ h n w (Instr.buildSlice t len dy.toArray) v e:=by
 unfold a3c at ha;split at ha
 ·rename_i af hu;cases hz:E.zero af with
  |none=>simp[hz]at ha
  |some z=>
   simp only[hz]at ha;rw[cond_eq_ite]at ha;split at ha
   case isFalse=>cases ha
   rename_i hc;simp only[b46,e3f,e5e]at hc;split at ha
   case h_2=>cases ha
   rename_i aa aD;cases ha;obtain⟨⟨de,cq⟩,_⟩:=ok.zero af z hz;obtain⟨zv,gA,jg,cO⟩:=a6p ok w hz;have fD:=cO I w;have fk:=VRels.length fD;simp only[e3i]at fk;obtain⟨oq,lR,ak⟩:=b64 len aD (by intro x hx;rw[e77 hx]) (by simp);have mV:VRels I w ρ (List.replicate len z).flatten ((Array.range (len*E.sz af)).map (λi=>zv.cells[i%zv.cells.size]!)).toList:=by rw[show((Array.range (len*E.sz af)).map (λi=>zv.cells[i%zv.cells.size]!)).toList=(List.replicate len zv.cells.toList).flatten by rw[←a3h];simp only[e5t,Array.toList_range,e3i];rw[show E.sz af=zv.cells.size by rw[←jg,fk]];apply e5c;intro a _;rw[Array.getElem!_toList]];exact VRels.flatten_replicate (VRels.noRef_any fD) _
   obtain⟨jq,h1,h2⟩:=b2m oq mV hp;refine a9v (el:=af) (k:=z.length) (cells:=jq) (mk:=λa=>.slice (some a) len len) r hn hρ hc.1 lR h2 ⟨rfl,rfl,rfl,rfl⟩ ?_ ?_
   ·have aN:¬(len*E.sz af>2^24):=by rw[←jg];omega
    rw[jg]at h1;simp only[Instr.buildSlice,Sem.run_bind,a0k ok w hu,Result.andThen_ok,a2z ok w cq,aN,e76];by_cases ev:len*E.sz af=0
    ·have lN:∀f:Nat→Value,Array.map f (Array.range 0) = #[]:=by intro f;simp
     simp only[ev,e78,lN]at h1⊢;simp[h1,a3g]
    ·simp only[ev,e76,Sem.run_bind,gA,Result.andThen_ok,Sem.run_pure];simp[h1,a3g]
   ·intro w' ρ' h';simp only[VRel];exact⟨_,len,rfl,e2c _,λq hq=>by cases hq;rfl,.inr ⟨_,h',by simp,by
     have h3:len*z.length=jq.size:=by have:=VRels.length h2;rw[a19 lR,ak,e3i]at this;exact this
     show 0+(0+len)*z.length≤jq.size;rw[e55,e55,h3];exact e2c _⟩⟩
 ·cases ha
end
end Go.Ax
/- AxBin: arithmetic, comparisons, equality, conversions. -/
namespace Go.Ax
section
variable {E:Env}{I K:Nat→Prop}{ρ:PMap}{h:FHeap}{n:Nat}{w:World}
def c3o(op:BinOp)(k:IntKind)(a b:Int):Option AV:=
 match op with
 |.add=>some (.int k (k.wrap (a+b)))
 |.sub=>some (.int k (k.wrap (a-b)))
 |.mul=>some (.int k (k.wrap (a*b)))
 |.quo=>bif b==0 then none else some (.int k (k.wrap (a.tdiv b)))
 |.rem=>bif b==0 then none else some (.int k (a.tmod b))
 |.and=>some (.int k (k.wrap (BitVec.ofInt k.bits a&&&BitVec.ofInt k.bits b).toNat))
 |.or=>some (.int k (k.wrap (BitVec.ofInt k.bits a|||BitVec.ofInt k.bits b).toNat))
 |.xor=>some (.int k (k.wrap (BitVec.ofInt k.bits a^^^BitVec.ofInt k.bits b).toNat))
 |.andNot=>some (.int k (k.wrap (BitVec.ofInt k.bits a &&& ~~~ BitVec.ofInt k.bits b).toNat))
 |.eql=>some (.bool (a==b))
 |.neq=>some (.bool (a != b))
 |.lss=>some (.bool (decide (a<b)))
 |.leq=>some (.bool (decide (a≤b)))
 |.gtr=>some (.bool (decide (b<a)))
 |.geq=>some (.bool (decide (b≤a)))
 |_=>none
def d32(op:BinOp)(a b:List UInt8):Option AV:=
 match op with
 |.add=>bif decide (a.length+b.length≤4611686018427387904)then some (.str (a++b))else none
 |.eql=>some (.bool (a==b))
 |.neq=>some (.bool (!(a==b)))
 |.lss=>some (.bool (Op.bytesLess a b))
 |.leq=>some (.bool (Op.bytesLess a b||a==b))
 |.gtr=>some (.bool (!(Op.bytesLess a b||a==b)))
 |.geq=>some (.bool (!(Op.bytesLess a b)))
 |_=>none
def a89(E:Env)(eq:TypeId→AV→AV→Option Bool):List Field→List AV→List AV→Option Bool
 | [],_,_=>some true
 |f::fs,xs,ys=>
  match a2q E f.type ((xs.drop f.offset).take (E.sz f.type)),a2q E f.type ((ys.drop f.offset).take (E.sz f.type))with
  |some a,some b=>match eq f.type a b,a89 E eq fs xs ys with
   |some p,some q=>some (p&&q)
   |_,_=>none
  |_,_=>none
def b0c(E:Env)(eq:TypeId→AV→AV→Option Bool)(af:TypeId)(xs ys:List AV):Nat→Nat→Option Bool
 |_,0=>some true
 |i,m+1=>
  match a2q E af ((xs.drop (i*E.sz af)).take (E.sz af)),a2q E af ((ys.drop (i*E.sz af)).take (E.sz af))with
  |some a,some b=>match eq af a b,b0c E eq af xs ys (i+1) m with
   |some p,some q=>some (p&&q)
   |_,_=>none
  |_,_=>none
def a6m:TypeDesc→AV→Option Bool
 |.pointer _,.nilptr=>some true
 |.pointer _,.ptr ..=>some false
 |.pointer _,.iptr ..=>some false
 |.slice _,.nilslice=>some true
 |.slice _,.slice ..=>some false
 |.slice _,.islice ..=>some false
 |.map _ _,.nilmap=>some true
 |.map _ _,.map ..=>some false
 |.map _ _,.imap ..=>some false
 |.map _ _,.iset ..=>some false
 |.func _ _ _,.nilfunc=>some true
 |.func _ _ _,.func ..=>some false
 |_,_=>none
def a2r:TypeDesc→AV→Bool
 |.pointer _,.nilptr=>true
 |.slice _,.nilslice=>true
 |.map _ _,.nilmap=>true
 |.func _ _ _,.nilfunc=>true
 |_,_=>false
def b4p:TypeDesc→Value
 |.pointer _=>.pointer none
 |.slice _=>.slice none 0 0
 |.map _ _=>.map none
 |_=>.nilFunc
def aeq(E:Env):Nat→TypeId→AV→AV→Option Bool
 |0,_,_,_=>none
 |d+1,t,x,y=>
  match E.und t,x,y with
  |some .bool,.bool a,.bool b=>some (a==b)
  |some (.int _),.int k a,.int k' b=>bif k==k' then some (a==b)else none
  |some .string,.str a,.str b=>some (a==b)
  |some (.struct fs),.agg xs,.agg ys=>bif E.eqok t then a89 E (aeq E d) fs.toList xs ys else none
  |some (.array len af),.agg xs,.agg ys=>bif (E.und af).isSome then b0c E (aeq E d) af xs ys 0 len else none
  |some d,.nilptr,y=>bif a2r d .nilptr then a6m d y else none
  |some d,x,.nilptr=>bif a2r d .nilptr then a6m d x else none
  |some d,.nilslice,y=>bif a2r d .nilslice then a6m d y else none
  |some d,x,.nilslice=>bif a2r d .nilslice then a6m d x else none
  |some d,.nilmap,y=>bif a2r d .nilmap then a6m d y else none
  |some d,x,.nilmap=>bif a2r d .nilmap then a6m d x else none
  |some d,.nilfunc,y=>bif a2r d .nilfunc then a6m d y else none
  |some d,x,.nilfunc=>bif a2r d .nilfunc then a6m d x else none
  |some (.interface _),.nilifc,.iface _ _=>some false
  |some (.interface _),.iface _ _,.nilifc=>some false
  |some (.interface _),.iface t1 a,.iface t2 b=>bif t1==t2 then bif E.eqok t1 then aeq E d t1 a b else none else some false
  |_,_,_=>none
theorem b5d(ok:EnvOk E){eq:TypeId→Value→Value→Sem Bool}{jf:TypeId→AV→AV→Option Bool}
 (ew:∀t a b ca cb p,jf t a b=some p→VRel I w ρ a ca→VRel I w ρ b cb→(eq t ca cb).run E.P w = .ok p w)
 {xs ys:List AV}{cx cy:Array Value}(hx:VRels I w ρ xs cx.toList)(hy:VRels I w ρ ys cy.toList) :
 ∀(fs:List Field) (q:Bool),a89 E jf fs xs ys=some q→(∀f∈fs,f.name≠ "_")→
  (forIn fs ((none,()):Option Bool×Unit) (λf _=>
   if f.name≠ "_" then do
    let a←part f.type cx f.offset
    let b←part f.type cy f.offset
    let c←eq f.type a b
    if(!c)=true then pure (ForInStep.done (some false,()))else pure (ForInStep.yield (none,()))
   else pure (ForInStep.yield (none,())):Field→Option Bool×Unit→Sem (ForInStep (Option Bool×Unit)))).run E.P w
  = .ok (if q then(none,())else(some false,())) w
 | [],q,hq,_=>by simp only[a89,Option.some.injEq]at hq;subst hq;simp
 |f::fs,q,hq,hn=>by
  simp only[a89]at hq;split at hq
  case h_2=>cases hq
  rename_i a b ha hb;split at hq
  case h_2=>cases hq
  rename_i p q' hp jv;cases hq;obtain⟨ca,h1,h2⟩:=a8i ok ha hx;obtain⟨cb,h3,h4⟩:=a8i ok hb hy;have h5:=ew f.type a b ca cb p hp h2 h4;have ih:=b5d ok ew hx hy fs q' jv (λf hf=>hn f (by simp[hf]))
  have kf:f.name≠ "_" := hn f (by simp)
  rw[List.forIn_cons];simp only[ne_eq,kf,not_false_eq_true,e78,Sem.run_bind,h1,h3,h5,Result.andThen_ok];cases p
  ·simp
  ·simp only[e6i,e5d,e76,Sem.run_pure,Result.andThen_ok,e6d];exact ih
theorem b85(ok:EnvOk E){eq:TypeId→Value→Value→Sem Bool}{jf:TypeId→AV→AV→Option Bool}{af:TypeId}
 (ew:∀t a b ca cb p,jf t a b=some p→VRel I w ρ a ca→VRel I w ρ b cb→(eq t ca cb).run E.P w = .ok p w)
 {xs ys:List AV}{cx cy:Array Value}(hx:VRels I w ρ xs cx.toList)(hy:VRels I w ρ ys cy.toList) :
 ∀(m i:Nat) (q:Bool),b0c E jf af xs ys i m=some q→
  (forIn (List.range' i m) ((none,()):Option Bool×Unit) (λi _=>do
   let a←part af cx (i*E.sz af)
   let b←part af cy (i*E.sz af)
   let c←eq af a b
   if(!c)=true then pure (ForInStep.done (some false,()))else pure (ForInStep.yield (none,())):Nat→Option Bool×Unit→Sem (ForInStep (Option Bool×Unit)))).run E.P w
  = .ok (if q then(none,())else(some false,())) w
 |0,i,q,hq=>by simp only[b0c,Option.some.injEq]at hq;subst hq;simp
 |m+1,i,q,hq=>by
  simp only[b0c]at hq;split at hq
  case h_2=>cases hq
  rename_i a b ha hb;split at hq
  case h_2=>cases hq
  rename_i p q' hp jv;cases hq;obtain⟨ca,h1,h2⟩:=a8i ok ha hx;obtain⟨cb,h3,h4⟩:=a8i ok hb hy;have h5:=ew af a b ca cb p hp h2 h4;have ih:=b85 ok ew hx hy m (i+1) q' jv;rw[List.range'_succ,List.forIn_cons];simp only[Sem.run_bind,h1,h3,h5,Result.andThen_ok];cases p
  ·simp
  ·simp only[e6i,e5d,e76,Sem.run_pure,Result.andThen_ok,e6d];exact ih
section
variable {t:TypeId}{d:Nat}
theorem b7d{e:TypeId}(ht:(underlying t).run E.P w = .ok (.pointer e) w)(b:Option Addr):(Op.equalIn (d+1) t (.pointer none) (.pointer b)).run E.P w = .ok b.isNone w:=by unfold Op.equalIn;simp only[Sem.run_bind,ht,Result.andThen_ok];rfl
theorem b7c{e:TypeId}(ht:(underlying t).run E.P w = .ok (.pointer e) w)(b:Option Addr):(Op.equalIn (d+1) t (.pointer b) (.pointer none)).run E.P w = .ok b.isNone w:=by unfold Op.equalIn;simp only[Sem.run_bind,ht,Result.andThen_ok];cases b<;>rfl
theorem b1b{e:TypeId}(ht:(underlying t).run E.P w = .ok (.slice e) w)(b:Option Addr)(l c:Nat):(Op.equalIn (d+1) t (.slice none 0 0) (.slice b l c)).run E.P w = .ok b.isNone w:=by unfold Op.equalIn;simp only[Sem.run_bind,ht,Result.andThen_ok];rfl
theorem b1a{e:TypeId}(ht:(underlying t).run E.P w = .ok (.slice e) w)(b:Option Addr)(l c:Nat):(Op.equalIn (d+1) t (.slice b l c) (.slice none 0 0)).run E.P w = .ok b.isNone w:=by unfold Op.equalIn;simp only[Sem.run_bind,ht,Result.andThen_ok];cases b<;>rfl
theorem b2g{k e:TypeId}(ht:(underlying t).run E.P w = .ok (.map k e) w)(b:Option Nat):(Op.equalIn (d+1) t (.map none) (.map b)).run E.P w = .ok b.isNone w:=by unfold Op.equalIn;simp only[Sem.run_bind,ht,Result.andThen_ok];rfl
theorem b2f{k e:TypeId}(ht:(underlying t).run E.P w = .ok (.map k e) w)(b:Option Nat):(Op.equalIn (d+1) t (.map b) (.map none)).run E.P w = .ok b.isNone w:=by unfold Op.equalIn;simp only[Sem.run_bind,ht,Result.andThen_ok];cases b<;>rfl
theorem b9a{ps rs:Array TypeId}{v:Bool}(ht:(underlying t).run E.P w = .ok (.func ps rs v) w):(Op.equalIn (d+1) t .nilFunc .nilFunc).run E.P w = .ok true w:=by unfold Op.equalIn;simp only[Sem.run_bind,ht,Result.andThen_ok];rfl
theorem c5x{ps rs:Array TypeId}{v:Bool}(ht:(underlying t).run E.P w = .ok (.func ps rs v) w)(f:Fn)(a b:Array Value):(Op.equalIn (d+1) t .nilFunc (.func f a b)).run E.P w = .ok false w:=by unfold Op.equalIn;simp only[Sem.run_bind,ht,Result.andThen_ok];rfl
theorem c5w{ps rs:Array TypeId}{v:Bool}(ht:(underlying t).run E.P w = .ok (.func ps rs v) w)(f:Fn)(a b:Array Value):(Op.equalIn (d+1) t (.func f a b) .nilFunc).run E.P w = .ok false w:=by unfold Op.equalIn;simp only[Sem.run_bind,ht,Result.andThen_ok];rfl
theorem c6x{dd:TypeDesc}{y:AV}{q:Bool}{c:Value}(ht:(underlying t).run E.P w = .ok dd w)(hq:a6m dd y=some q)(hy:VRel I w ρ y c) :
 (Op.equalIn (d+1) t (b4p dd) c).run E.P w = .ok q w∧(Op.equalIn (d+1) t c (b4p dd)).run E.P w = .ok q w:=by
 unfold a6m at hq;split at hq<;>cases hq<;>simp only[VRel]at hy<;>simp only[b4p]
 ·subst hy;exact⟨b7d ht _,b7c ht _⟩
 ·obtain⟨_,_,rfl⟩:=hy;exact⟨b7d ht _,b7c ht _⟩
 ·obtain⟨_,_,rfl,_⟩:=hy;exact⟨b7d ht _,b7c ht _⟩
 ·subst hy;exact⟨b1b ht _ _ _,b1a ht _ _ _⟩
 ·obtain⟨_,_,rfl,_⟩:=hy;exact⟨b1b ht _ _ _,b1a ht _ _ _⟩
 ·obtain⟨_,_,_,rfl,_⟩:=hy;exact⟨b1b ht _ _ _,b1a ht _ _ _⟩
 ·subst hy;exact⟨b2g ht _,b2f ht _⟩
 ·obtain⟨_,_,rfl⟩:=hy;exact⟨b2g ht _,b2f ht _⟩
 ·obtain⟨_,_,rfl,_⟩:=hy;exact⟨b2g ht _,b2f ht _⟩
 ·obtain⟨_,_,_,rfl,_⟩:=hy;exact⟨b2g ht _,b2f ht _⟩
 ·subst hy;exact⟨b9a ht,b9a ht⟩
 ·obtain⟨_,_,rfl,_⟩:=hy;exact⟨c5x ht _ _ _,c5w ht _ _ _⟩
theorem c8j(ht:(underlying t).run E.P w = .ok .bool w)(a b:Bool):(Op.equalIn (d+1) t (.bool a) (.bool b)).run E.P w = .ok (a==b) w:=by unfold Op.equalIn;simp only[Sem.run_bind,ht,Result.andThen_ok];rfl
theorem d2m{k0:IntKind}(ht:(underlying t).run E.P w = .ok (.int k0) w)(k:IntKind)(a b:Int):(Op.equalIn (d+1) t (.int k a) (.int k b)).run E.P w = .ok (a==b) w:=by unfold Op.equalIn;simp only[Sem.run_bind,ht,Result.andThen_ok,e78];rfl
theorem d2l(ht:(underlying t).run E.P w = .ok .string w)(a b:ByteArray):(Op.equalIn (d+1) t (.string a) (.string b)).run E.P w = .ok (a==b) w:=by unfold Op.equalIn;simp only[Sem.run_bind,ht,Result.andThen_ok];rfl
theorem b5z{ms:Array (String×TypeId)}(ht:(underlying t).run E.P w = .ok (.interface ms) w)(u:TypeId)(x:Value) :
 (Op.equalIn (d+1) t .nilIface (.iface u x)).run E.P w = .ok false w∧(Op.equalIn (d+1) t (.iface u x) .nilIface).run E.P w = .ok false w:=by
 unfold Op.equalIn;simp only[Sem.run_bind,ht,Result.andThen_ok];exact⟨rfl,rfl⟩
theorem c31{ms:Array (String×TypeId)}(ht:(underlying t).run E.P w = .ok (.interface ms) w)(u u':TypeId)(x x':Value)(aK:u≠u') :
 (Op.equalIn (d+1) t (.iface u x) (.iface u' x')).run E.P w = .ok false w:=by
 unfold Op.equalIn;simp only[Sem.run_bind,ht,Result.andThen_ok,ne_eq,aK,not_false_eq_true,e78];rfl
theorem d2n{ms:Array (String×TypeId)}{i:TypeInfo}(ht:(underlying t).run E.P w = .ok (.interface ms) w)(u:TypeId)(x x':Value)(hi:(typeInfo u).run E.P w = .ok i w)(hc:i.comparable=true) :
 (Op.equalIn (d+1) t (.iface u x) (.iface u x')).run E.P w=(Op.equalIn d u x x').run E.P w:=by
 conv=>lhs;unfold Op.equalIn
 simp only[Sem.run_bind,ht,Result.andThen_ok,ne_eq,not_true_eq_false,e76,hi,hc,e6i,e5d]
end
theorem b45(a b:ByteArray):(a==b)=(a.data.toList==b.data.toList):=by have e:(a==b)=(a.data==b.data):=rfl;rw[e,e7c];simp only[e6n,Array.toList_inj]
theorem c28(ok:EnvOk E):∀(d:Nat) {t:TypeId} {x y:AV} {q:Bool} {cx cy:Value},aeq E d t x y=some q→VRel I w ρ x cx→VRel I w ρ y cy→
 ∀D,d≤D→(Op.equalIn D t cx cy).run E.P w = .ok q w
 |0,t,x,y,q,cx,cy,hq,hx,hy,D,hD=>by simp[aeq]at hq
 |d+1,t,x,y,q,cx,cy,hq,hx,hy,D,hD=>by
  obtain⟨D,rfl⟩:∃D',D=D'+1:=⟨D-1,by omega⟩
  unfold aeq at hq;have dn:∀{dd:TypeDesc} {z nz:AV} {c:Value},E.und t=some dd→(bif a2r dd nz then a6m dd z else none)=some q→VRel I w ρ z c→
   a2r dd nz=true∧(Op.equalIn (D+1) t (b4p dd) c).run E.P w = .ok q w∧(Op.equalIn (D+1) t c (b4p dd)).run E.P w = .ok q w:=by
   intro dd z nz c hu hb hz;cases hk:a2r dd nz with
   |false=>rw[hk]at hb;cases hb
   |true=>rw[hk,e3e]at hb;exact⟨rfl,c6x (a0k ok w hu) hb hz⟩
  have ii:∀{dd:TypeDesc},(a2r dd .nilptr=true→b4p dd = .pointer none)∧(a2r dd .nilslice=true→b4p dd = .slice none 0 0)∧
   (a2r dd .nilmap=true→b4p dd = .map none)∧(a2r dd .nilfunc=true→b4p dd = .nilFunc):=by
   intro dd;cases dd<;>simp[a2r,b4p]
  split at hq
  ·rename_i hu;simp only[VRel]at hx hy;subst hx hy;cases hq;exact c8j (a0k ok w hu) _ _
  ·rename_i hu;simp only[VRel]at hx hy;subst hx hy;rw[cond_eq_ite]at hq;split at hq
   ·rename_i hk;cases hq;have hk:=eq_of_beq hk;subst hk;exact d2m (a0k ok w hu) _ _ _
   ·cases hq
  ·rename_i hu;simp only[VRel]at hx hy;obtain⟨a,rfl,ha⟩:=hx;obtain⟨b,rfl,hb⟩:=hy;cases hq;rw[d2l (a0k ok w hu),b45,ha,hb]
  ·rename_i fs xs ys hu;simp only[VRel]at hx hy;obtain⟨ax,rfl,hx⟩:=hx;obtain⟨ay,rfl,hy⟩:=hy;rw[cond_eq_ite]at hq;split at hq
   case isFalse=>cases hq
   rename_i he;obtain⟨_,aR,_,iS⟩:=ok.eqok t he;have hf:=b5d (I:=I) (w:=w) (ρ:=ρ) ok (eq:=Op.equalIn D) (jf:=aeq E d) (λt a b ca cb p hp h1 h2=>c28 ok d hp h1 h2 D (by omega)) hx hy fs.toList q hq (λf hf=>iS fs hu f hf);unfold Op.equalIn;simp only[Sem.run_bind,a0k ok w hu,Result.andThen_ok,run_program,aR,e5d,e76];rw[←Array.forIn_toList];rw[hf];cases q<;>rfl
  ·rename_i len af xs ys hu;simp only[VRel]at hx hy;obtain⟨ax,rfl,hx⟩:=hx;obtain⟨ay,rfl,hy⟩:=hy;rw[cond_eq_ite]at hq;split at hq
   case isFalse=>cases hq
   rename_i he;obtain⟨de,cq⟩:=e24.1 he;have hf:=b85 (I:=I) (w:=w) (ρ:=ρ) ok (eq:=Op.equalIn D) (jf:=aeq E d) (af:=af) (λt a b ca cb p hp h1 h2=>c28 ok d hp h1 h2 D (by omega)) hx hy len 0 q hq;unfold Op.equalIn;simp only[Sem.run_bind,a0k ok w hu,Result.andThen_ok,a2z ok w cq];rw[Std.Legacy.Range.forIn_eq_forIn_range'];have bA:(Std.Legacy.Range.size [:len])=len:=by simp[Std.Legacy.Range.size]
   simp only[bA];rw[hf];cases q<;>rfl
  ·simp only[VRel]at hx;subst hx;obtain⟨h1,h2,_⟩:=dn (by assumption) hq hy;rw[ii.1 h1]at h2;exact h2
  ·simp only[VRel]at hy;subst hy;obtain⟨h1,_,h2⟩:=dn (by assumption) hq hx;rw[ii.1 h1]at h2;exact h2
  ·simp only[VRel]at hx;subst hx;obtain⟨h1,h2,_⟩:=dn (by assumption) hq hy;rw[ii.2.1 h1]at h2;exact h2
  ·simp only[VRel]at hy;subst hy;obtain⟨h1,_,h2⟩:=dn (by assumption) hq hx;rw[ii.2.1 h1]at h2;exact h2
  ·simp only[VRel]at hx;subst hx;obtain⟨h1,h2,_⟩:=dn (by assumption) hq hy;rw[ii.2.2.1 h1]at h2;exact h2
  ·simp only[VRel]at hy;subst hy;obtain⟨h1,_,h2⟩:=dn (by assumption) hq hx;rw[ii.2.2.1 h1]at h2;exact h2
  ·simp only[VRel]at hx;subst hx;obtain⟨h1,h2,_⟩:=dn (by assumption) hq hy;rw[ii.2.2.2 h1]at h2;exact h2
  ·simp only[VRel]at hy;subst hy;obtain⟨h1,_,h2⟩:=dn (by assumption) hq hx;rw[ii.2.2.2 h1]at h2;exact h2
  ·rename_i hu;simp only[VRel]at hx hy;subst hx;obtain⟨x',rfl,_⟩:=hy;cases hq;exact(b5z (a0k ok w hu) _ _).1
  ·rename_i hu;simp only[VRel]at hx hy;subst hy;obtain⟨x',rfl,_⟩:=hx;cases hq;exact(b5z (a0k ok w hu) _ _).2
  ·rename_i hu;simp only[VRel]at hx hy;obtain⟨x',rfl,hx⟩:=hx;obtain⟨y',rfl,hy⟩:=hy;rw[cond_eq_ite]at hq;split at hq
   ·rename_i he;have he:=eq_of_beq he;subst he;rw[cond_eq_ite]at hq;split at hq
    case isFalse=>cases hq
    rename_i hk;obtain⟨_,_,⟨i,hi,hc⟩,_⟩:=ok.eqok _ hk;rw[d2n (i:=i) (a0k ok w hu) _ _ _ (by simp[typeInfo,hi]) hc];exact c28 ok d hq hx hy D (by omega)
   ·rename_i aK;cases hq;exact c31 (a0k ok w hu) _ _ _ _ (by simpa using aK)
  ·cases hq
end
end Go.Ax
/- AxOp1: the model's binary and unary operations and conversions, against the abstract ones. -/
namespace Go.Ax
section
variable {E:Env}{I K:Nat→Prop}{ρ:PMap}{h:FHeap}{n:Nat}{w:World}
theorem d3e{op:BinOp}{k:IntKind}{a b:Int}{v:AV}(hv:c3o op k a b=some v)(t:TypeId)(hs:op≠ .shl∧op≠ .shr) :
 ∃c,(binOp op t (.int k a) (.int k b)).run E.P w = .ok c w∧VRel I w ρ v c:=by
 cases op<;>simp only[c3o]at hv
 case shl=>cases hv
 case shr=>cases hv
 case quo=>
  rw[cond_eq_ite]at hv;split at hv
  ·cases hv
  ·rename_i hb;cases hv;have hb:b≠0:=by simpa using hb
   exact⟨_,by simp[binOp,Op.intDiv,hb];rfl,by simp[VRel]⟩
 case rem=>
  rw[cond_eq_ite]at hv;split at hv
  ·cases hv
  ·rename_i hb;cases hv;have hb:b≠0:=by simpa using hb
   exact⟨_,by simp[binOp,Op.intDiv,hb];rfl,by simp[VRel]⟩
 all_goals cases hv
 all_goals exact⟨_,by simp[binOp,Op.intArith,Op.intBits,Op.intCmp];rfl,by simp[VRel]⟩
theorem d31{op:BinOp}{a b:ByteArray}{v:AV}(hv:d32 op a.data.toList b.data.toList=some v)(t:TypeId) :
 ∃c,(binOp op t (.string a) (.string b)).run E.P w = .ok c w∧VRel I w ρ v c:=by
 have ta:=ByteArray.toList_eq a;have tb:=ByteArray.toList_eq b;cases op<;>simp only[d32]at hv
 case add=>
  rw[cond_eq_ite]at hv;split at hv
  case isFalse=>cases hv
  rename_i hl;cases hv;have hl:a.data.toList.length+b.data.toList.length≤4611686018427387904:=by simpa using hl
  have h1:¬(((a.size+b.size:Nat):Int)>IntKind.i64.max):=by simp only[e3i]at hl;have:a.size=a.data.size:=rfl;have:b.size=b.data.size:=rfl;simp only[IntKind.max,IntKind.signed,IntKind.bits];simp;omega
  refine⟨.string (a++b),?_,by simp only[VRel];exact⟨_,rfl,by simp[ByteArray.data_append]⟩⟩;simp only[binOp,Op.stringOp,h1,e76,Sem.run_pure]
 all_goals cases hv
 all_goals
  refine⟨_,by simp only[binOp,Op.stringOp,ta,tb,Sem.run_pure];rfl,by simp[VRel]⟩
def AV.eqShape:AV→Bool
 |.bool _|.nilptr|.nilslice|.nilmap|.nilfunc|.nilifc|.ptr ..|.iptr ..|.slice ..|.islice ..|.map ..|.imap ..|.iset _|.yfn _|.func ..|.iface ..|.agg ..=>true
 |_=>false
def b1i(E:Env)(op:BinOp)(t:TypeId)(x y:AV)(pm:Bool):Option AV:=
 match op,x,y with
 |.shl,.int k a,.int _ b=>bif decide (b<0)then none else some (.int k (k.wrap (a*2^(min b.toNat k.bits))))
 |.shr,.int k a,.int _ b=>bif decide (b<0)then none else some (.int k (a.fdiv (2^(min b.toNat k.bits))))
 |op,.int k a,.int k' b=>bif k==k' then c3o op k a b else none
 |op,.str a,.str b=>d32 op a b
 |.eql,.nilifc,.nilifc=>match E.und t with|some (.interface _)=>bif pm then some (.bool true)else none|_=>none
 |.neq,.nilifc,.nilifc=>match E.und t with|some (.interface _)=>bif pm then some (.bool false)else none|_=>none
 |.eql,.agg a,.agg b=>bif E.eqok t then(aeq E 6 t (.agg a) (.agg b)).map .bool else none
 |.neq,.agg a,.agg b=>bif E.eqok t then(aeq E 6 t (.agg a) (.agg b)).map (λq=>.bool (!q))else none
 |.eql,x,y=>bif x.eqShape then(aeq E 6 t x y).map .bool else none
 |.neq,x,y=>bif x.eqShape then(aeq E 6 t x y).map (λq=>.bool (!q))else none
 |_,_,_=>none
def Value.eqShape:Value→Bool
 |.bool _|.pointer _|.slice ..|.map _|.func ..|.nilFunc|.iface ..|.nilIface|.agg _=>true
 |_=>false
theorem VRel.eqShape{x:AV}{c:Value}(hx:VRel I w ρ x c)(hs:x.eqShape=true):Value.eqShape c=true:=by
 cases x<;>simp[AV.eqShape]at hs<;>simp only[VRel]at hx
 all_goals first
  |(subst hx;rfl)
  |(obtain⟨_,rfl,_⟩:=hx;rfl)
  |(obtain⟨_,_,rfl⟩:=hx;rfl)
  |(obtain⟨_,_,rfl,_⟩:=hx;rfl)
  |(obtain⟨_,_,_,rfl,_⟩:=hx;rfl)
theorem b49(t:TypeId)(cx cy:Value)(hs:Value.eqShape cx=true):binOp .eql t cx cy=(do pure (.bool (←Op.equal t cx cy))):=by cases cx<;>simp[Value.eqShape]at hs<;>first|rfl|(cases cy<;>rfl)
theorem b48(t:TypeId)(cx cy:Value)(hs:Value.eqShape cx=true):binOp .neq t cx cy=(do pure (.bool (!(←Op.equal t cx cy)))):=by cases cx<;>simp[Value.eqShape]at hs<;>first|rfl|(cases cy<;>rfl)
def a7x:Value→Value→Bool
 |.nilIface,.nilIface=>false
 |.agg _,.agg _=>false
 |_,_=>true
theorem a6z(op:BinOp)(t:TypeId)(x y:Operand)(a b:Value)(hf:op≠ .eql∧op≠ .neq):(eqGuard op t x y a b).run E.P w = .ok () w:=by unfold eqGuard;cases op<;>first|rfl|(exact absurd rfl hf.1)|(exact absurd rfl hf.2)
theorem a3u(op:BinOp)(t:TypeId)(x y:Operand)(a b:Value)(hf:a7x a b=true):(eqGuard op t x y a b).run E.P w = .ok () w:=by
 by_cases cV:op≠ .eql∧op≠ .neq
 ·exact a6z op t x y a b cV
 ·have:op = .eql∨op = .neq:=by cases op<;>simp at cV⊢
  unfold a7x at hf;rcases this with rfl|rfl
  all_goals
   unfold eqGuard;simp only[e6i,e5d,e76];split
   ·simp at hf
   ·simp at hf
   ·rfl
theorem b3x(ok:EnvOk E)(op:BinOp)(t:TypeId)(x y:Operand)(a b:Array Value)(hf:E.eqok t=true):(eqGuard op t x y (.agg a) (.agg b)).run E.P w = .ok () w:=by
 by_cases cV:op≠ .eql∧op≠ .neq
 ·exact a6z op t x y _ _ cV
 ·have:op = .eql∨op = .neq:=by cases op<;>simp at cV⊢
  rcases this with rfl|rfl
  all_goals
   unfold eqGuard;simp only[e6i,e5d,e76,Sem.run_bind,run_program,Result.andThen_ok,(ok.eqok t hf).1,e7g,e78];rfl
def a41:Operand→Bool
 |.const _=>true
 |_=>false
theorem b3w(op:BinOp)(t:TypeId)(x y:Operand)(hc:(a41 x||a41 y)=true):(eqGuard op t x y .nilIface .nilIface).run E.P w = .ok () w:=by
 by_cases cV:op≠ .eql∧op≠ .neq
 ·exact a6z op t x y _ _ cV
 ·have:op = .eql∨op = .neq:=by cases op<;>simp at cV⊢
  rcases this with rfl|rfl
  all_goals
   unfold eqGuard;cases x<;>cases y<;>simp[a41]at hc<;>rfl
theorem b1s(ok:EnvOk E){t:TypeId}{ms:Array (String×TypeId)}(hu:E.und t=some (.interface ms)):(Op.equal t .nilIface .nilIface).run E.P w = .ok true w:=by unfold Op.equal Op.maxDepth Op.equalIn;simp only[Sem.run_bind,a0k ok w hu,Result.andThen_ok];rfl
theorem b1q{x y:AV}{cx cy:Value}(hx:VRel I w ρ x cx)(hy:VRel I w ρ y cy)(hs:x.eqShape=true)(h1:¬(x = .nilifc∧(y = .nilifc∨y = .junk)))
 (h2:∀a,x = .agg a→(∀b,y≠ .agg b)∧y≠ .junk):a7x cx cy=true:=by
 have rI:=VRel.eqShape hx hs;cases x<;>simp[AV.eqShape]at hs<;>simp only[VRel]at hx
 case nilifc=>subst hx;cases cy<;>simp[a7x];cases y<;>simp only[VRel]at hy<;>first|(simp at hy;done)|(exact h1 ⟨rfl,by simp⟩)|(obtain⟨_,h,_⟩:=hy;simp at h;done)|(obtain⟨_,_,h⟩:=hy;simp at h;done)|(obtain⟨_,_,h,_⟩:=hy;simp at h;done)|(obtain⟨_,_,_,h,_⟩:=hy;simp at h;done)
 case agg a=>obtain⟨ca,rfl,_⟩:=hx;obtain⟨h3,h4⟩:=h2 a rfl;cases cy<;>simp[a7x];cases y<;>simp only[VRel]at hy<;>first|(simp at hy;done)|(exact h4 rfl)|(exact h3 _ rfl)|(obtain⟨_,h,_⟩:=hy;simp at h;done)|(obtain⟨_,_,h⟩:=hy;simp at h;done)|(obtain⟨_,_,h,_⟩:=hy;simp at h;done)|(obtain⟨_,_,_,h,_⟩:=hy;simp at h;done)
 all_goals first
  |(subst hx;rfl)
  |(obtain⟨_,rfl,_⟩:=hx;rfl)
  |(obtain⟨_,_,rfl⟩:=hx;rfl)
  |(obtain⟨_,_,rfl,_⟩:=hx;rfl)
  |(obtain⟨_,_,_,rfl,_⟩:=hx;rfl)
theorem a4k{α β:Type}{x:Sem α}{y:Sem β}{a:α}{P:Program}{w w':World}(hx:x.run P w = .ok a w'):(do let _←x;y).run P w=y.run P w':=by simp[hx]
theorem a4r(ok:EnvOk E){t:TypeId}{x y:AV}{q:Bool}{cx cy:Value}(hq:aeq E 6 t x y=some q)(hx:VRel I w ρ x cx)(hy:VRel I w ρ y cy) :
 (Op.equal t cx cy).run E.P w = .ok q w:=c28 ok 6 hq hx hy 10000 (by omega)
theorem c29{d:Nat}{t:TypeId}{x:AV}:aeq E d t x .junk=none:=by
 cases d with
 |zero=>rfl
 |succ d=>
  unfold aeq;split<;>first|rfl|skip
  all_goals simp_all[a6m]
  all_goals (cases h:a2r _ _<;>simp[a6m])
theorem d3m(ok:EnvOk E){op:BinOp}{t:TypeId}{x y v:AV}{xo yo:Operand}{cx cy:Value}(hv:b1i E op t x y (a41 xo||a41 yo)=some v)
 (hx:VRel I w ρ x cx)(hy:VRel I w ρ y cy):∃c,(do eqGuard op t xo yo cx cy;binOp op t cx cy).run E.P w = .ok c w∧VRel I w ρ v c:=by
 unfold b1i at hv;split at hv
 ·simp only[VRel]at hx hy;subst hx hy;rw[cond_eq_ite]at hv;split at hv
  ·cases hv
  ·rename_i hb;cases hv;rw[a4k (a3u _ _ _ _ _ _ rfl)];simp only[e2d]at hb;exact⟨_,by simp[binOp,Op.shift,hb];rfl,by simp[VRel]⟩
 ·simp only[VRel]at hx hy;subst hx hy;rw[cond_eq_ite]at hv;split at hv
  ·cases hv
  ·rename_i hb;cases hv;rw[a4k (a3u _ _ _ _ _ _ rfl)];simp only[e2d]at hb;exact⟨_,by simp[binOp,Op.shift,hb];rfl,by simp[VRel]⟩
 ·rename_i h1 h2;simp only[VRel]at hx hy;subst hx hy;rw[cond_eq_ite]at hv;split at hv
  case isFalse=>cases hv
  rename_i hk;have hk:=eq_of_beq hk;subst hk;rw[a4k (a3u _ _ _ _ _ _ rfl)];exact d3e hv t ⟨by rintro rfl;simp_all,by rintro rfl;simp_all⟩
 ·simp only[VRel]at hx hy;obtain⟨a,rfl,ha⟩:=hx;obtain⟨b,rfl,hb⟩:=hy;rw[a4k (a3u _ _ _ _ _ _ rfl)];subst ha hb;exact d31 hv t
 ·simp only[VRel]at hx hy;subst hx hy;split at hv
  case h_2=>cases hv
  rename_i ms hu;rw[cond_eq_ite]at hv;split at hv
  case isFalse=>cases hv
  rename_i hc;cases hv;rw[a4k (b3w _ _ _ _ hc),b49 _ _ _ rfl];exact⟨.bool true,by simp[b1s ok hu],by simp[VRel]⟩
 ·simp only[VRel]at hx hy;subst hx hy;split at hv
  case h_2=>cases hv
  rename_i ms hu;rw[cond_eq_ite]at hv;split at hv
  case isFalse=>cases hv
  rename_i hc;cases hv;rw[a4k (b3w _ _ _ _ hc),b48 _ _ _ rfl];exact⟨.bool false,by simp[b1s ok hu],by simp[VRel]⟩
 ·rename_i a b;rw[cond_eq_ite]at hv;split at hv
  case isFalse=>cases hv
  rename_i he;cases hq:aeq E 6 t (.agg a) (.agg b)with
  |none=>simp[hq]at hv
  |some q=>simp only[hq,e2a,Option.some.injEq]at hv;subst hv;have ew:=a4r ok hq hx hy;simp only[VRel]at hx hy;obtain⟨ca,rfl,_⟩:=hx;obtain⟨cb,rfl,_⟩:=hy;rw[a4k (b3x ok _ _ _ _ _ _ he),b49 _ _ _ rfl];exact⟨.bool q,by simp[ew],by simp[VRel]⟩
 ·rename_i a b;rw[cond_eq_ite]at hv;split at hv
  case isFalse=>cases hv
  rename_i he;cases hq:aeq E 6 t (.agg a) (.agg b)with
  |none=>simp[hq]at hv
  |some q=>simp only[hq,e2a,Option.some.injEq]at hv;subst hv;have ew:=a4r ok hq hx hy;simp only[VRel]at hx hy;obtain⟨ca,rfl,_⟩:=hx;obtain⟨cb,rfl,_⟩:=hy;rw[a4k (b3x ok _ _ _ _ _ _ he),b48 _ _ _ rfl];exact⟨.bool (!q),by simp[ew],by simp[VRel]⟩
 ·rename_i aY fG fv eN;rw[cond_eq_ite]at hv;split at hv
  case isFalse=>cases hv
  rename_i he;cases hq:aeq E 6 t x y with
  |none=>simp[hq]at hv
  |some q=>
   simp only[hq,e2a,Option.some.injEq]at hv;subst hv;have ew:=a4r ok hq hx hy;have iw:y≠ .junk:=by rintro rfl;rw[c29]at hq;cases hq
   have hg:=b1q hx hy he (by
    rintro⟨rfl,h|h⟩
    ·subst h;simp_all
    ·exact iw h) (by
    rintro a rfl
    exact⟨λb hb=>by subst hb;simp_all,iw⟩)
   rw[a4k (a3u _ _ _ _ _ _ hg),b49 _ _ _ (VRel.eqShape hx he)];exact⟨.bool q,by simp[ew],by simp[VRel]⟩
 ·rename_i aY fG fv eN;rw[cond_eq_ite]at hv;split at hv
  case isFalse=>cases hv
  rename_i he;cases hq:aeq E 6 t x y with
  |none=>simp[hq]at hv
  |some q=>
   simp only[hq,e2a,Option.some.injEq]at hv;subst hv;have ew:=a4r ok hq hx hy;have iw:y≠ .junk:=by rintro rfl;rw[c29]at hq;cases hq
   have hg:=b1q hx hy he (by
    rintro⟨rfl,h|h⟩
    ·subst h;simp_all
    ·exact iw h) (by
    rintro a rfl
    exact⟨λb hb=>by subst hb;simp_all,iw⟩)
   rw[a4k (a3u _ _ _ _ _ _ hg),b48 _ _ _ (VRel.eqShape hx he)];exact⟨.bool (!q),by simp[ew],by simp[VRel]⟩
 ·cases hv
def aun(op:UnOp)(x:AV):Option AV:=
 match op,x with
 |.neg,.int k a=>some (.int k (k.wrap (0-a)))
 |.not,.bool b=>some (.bool (!b))
 |.xor,.int k a=>some (.int k (k.wrap (BitVec.ofInt k.bits (if k.signed then -1 else k.max)^^^BitVec.ofInt k.bits a).toNat))
 |_,_=>none
theorem d7x{op:UnOp}{x v:AV}{c:Value}(hv:aun op x=some v)(hx:VRel I w ρ x c):∃d,(Op.unary op c).run E.P w = .ok d w∧VRel I w ρ v d:=by
 unfold aun at hv;split at hv
 all_goals first|(cases hv;done)|skip
 all_goals simp only[VRel]at hx;subst hx;cases hv
 ·exact⟨_,by simp[Op.unary,Op.intArith];rfl,by simp[VRel]⟩
 ·exact⟨_,by simp[Op.unary];rfl,by simp[VRel]⟩
 ·exact⟨_,by simp[Op.unary,Op.intBits];rfl,by simp[VRel]⟩
def c9b(E:Env)(kL dst:TypeId)(x:AV):Option AV:=
 match E.und kL,E.und dst,x with
 |some _,some (.int k),.int _ n=>some (.int k (k.wrap n))
 |some .string,some .string,.str s=>some (.str s)
 |_,_,_=>none
theorem c9a(ok:EnvOk E){kL dst:TypeId}{x v:AV}{c:Value}(hv:c9b E kL dst x=some v)(hx:VRel I w ρ x c):∃d,(convert kL dst c).run E.P w = .ok d w∧VRel I w ρ v d:=by
 unfold c9b at hv;split at hv
 ·rename_i hs hd;simp only[VRel]at hx;subst hx;cases hv;exact⟨_,by simp[convert,a0k ok w hs,a0k ok w hd,Conv.intToInt];rfl,by simp[VRel]⟩
 ·rename_i hs hd;simp only[VRel]at hx;obtain⟨t,rfl,ht⟩:=hx;cases hv;exact⟨.string t,by simp[convert,a0k ok w hs,a0k ok w hd],by simp only[VRel];exact⟨t,rfl,ht⟩⟩
 ·cases hv
end
end Go.Ax
/- AxApp: append. -/
namespace Go.Ax
section
variable {E:Env}{I K:Nat→Prop}{ρ:PMap}{h:FHeap}{n:Nat}{w:World}
def a3b(h:FHeap)(k:Nat):AV→Option (List (List AV))
 |.nilslice=>some []
 |.islice aa _=>bif aa.all (λr=>r.length==k)then some aa else none
 |.slice b off len _=>match h b with
  |some (.row k' aa)=>bif k'==k&&Nat.ble (off+len) aa.length then some ((aa.drop off).take len)else none
  |_=>none
 |.str s=>bif k==1 then some (s.map λb=>[.int .u8 b.toNat])else none
 |_=>none
theorem a6o:∀l:List UInt8,VRels I w ρ (l.map λb=>[AV.int .u8 b.toNat]).flatten (l.map λb=>Value.int .u8 b.toNat)
 | []=>by simp[VRels]
 |b::l=>by simp only[e2b,e5h,b82,b43,VRels];exact⟨_,_,rfl,by simp[VRel],a6o l⟩
theorem SameMem.cell{w w':World}(s:SameMem w w')(a:Addr):w'.cell? a=w.cell? a:=by simp[World.cell?,s.1]
theorem a4e(r:HRel E.G I K ρ h w){k:Nat}{x:AV}{xs:List (List AV)}{c:Value}(ha:a3b h k x=some xs)(hx:VRel I w ρ x c) :
 (Builtin.lenOf c).run E.P w = .ok xs.length w∧(∃cv:Array Value,(∀w',SameMem w w'→(Builtin.firstCells k xs.length c).run E.P w' = .ok cv w')∧VRels I w ρ xs.flatten cv.toList)∧∀r∈xs,r.length=k:=by
 unfold a3b at ha;split at ha
 ·cases ha;simp only[VRel]at hx;subst hx;exact⟨rfl,⟨#[],λ_ _=>rfl,by simp[VRels]⟩,by simp⟩
 ·rename_i aa cap;rw[cond_eq_ite]at ha;split at ha
  case isFalse=>cases ha
  rename_i aH;cases ha;simp only[e3n,e6n]at aH;simp only[VRel]at hx;obtain⟨a,cc,kk,rfl,aN,_,dU⟩:=hx;refine⟨rfl,?_,aH⟩;rcases dU with rfl|⟨hs,hI,aD⟩
  ·exact⟨#[],λw' _=>by simp[Builtin.firstCells,loadCells,loadCellsFrom],by simp[VRels]⟩
  ·rw[VRows.iff]at aD;obtain⟨cv,h1,h2⟩:=VAt.cells aD.2;have hl:cv.length=xs.length*k:=by rw[←VRels.length h2,a19 aH]
   have ha:a=⟨a.block,a.off,none⟩:=by cases a;simp_all
   refine⟨cv.toArray,λw' li=>?_,by simpa using VRels.noRef_any h2⟩;have:=run_loadCells_list (P:=E.P) w' a cv (λj v hj=>by rw[ha,a2y,li.cell];exact h1 j v hj);rw[hl]at this;simpa[Builtin.firstCells]using this
 ·rename_i b off len cap;split at ha
  case h_2=>cases ha
  rename_i k' aa hb;rw[cond_eq_ite]at ha;split at ha
  case isFalse=>cases ha
  rename_i hc;cases ha;simp only[b46,e6n,e5e]at hc;obtain⟨rfl,cG⟩:=hc;obtain⟨m,hm,_,_,ho⟩:=r.live b _ hb;obtain⟨hk,eR,_,aD⟩:=ho;have ak:((aa.drop off).take len).length=len:=by simp;omega
  simp only[VRel]at hx;obtain⟨a,cc,rfl,aN,_,dU⟩:=hx;have hB:=VRows.take len (VRows.drop off (by omega) aD);rw[VRows.iff]at hB;refine⟨by simp[Builtin.lenOf,ak],?_,hB.1⟩;rw[ak];rcases dU with rfl|⟨m',bz,rfl,aJ⟩
  ·have:len=0:=by omega
   subst this;exact⟨#[],λw' _=>by simp[Builtin.firstCells,loadCells,loadCellsFrom],by simp[VRels]⟩
  ·obtain rfl:m=m':=z9o (hm.symm.trans bz);obtain⟨cv,h1,h2⟩:=VAt.cells hB.2;have hl:cv.length=len*k':=by rw[←VRels.length h2,a19 hB.1,ak]
   refine⟨cv.toArray,λw' li=>?_,by simpa using h2⟩;have:=run_loadCells_list (P:=E.P) w' ⟨m.blk,m.off+off*m.k,none⟩ cv (λj v hj=>by rw[a2y,hk,li.cell];exact h1 j v hj);rw[hl]at this;simpa[Builtin.firstCells]using this
 ·rename_i s;rw[cond_eq_ite]at ha;split at ha
  case isFalse=>cases ha
  rename_i hk;cases ha;have hk:k=1:=by simpa using hk
  subst hk;simp only[VRel]at hx;obtain⟨t,rfl,ht⟩:=hx;have bA:t.size=s.length:=by rw[←ht,e3i];rfl
  refine⟨by simp[Builtin.lenOf,bA],⟨_,λw' _=>by simp only[Builtin.firstCells,Sem.run_pure];rfl,?_⟩,by simp⟩;rw[e5t,a5y];simp only[e5b,b41,ht,e3z];exact a6o s
 ·cases ha
def a2s:TypeDesc→Bool
 |.int _=>true
 |_=>false
def a2j(E:Env)(af:TypeId)(e8:Nat):Bool:=decide (e8≤17592186044416)&&decide (E.bytes af*(2*e8+192)≤281474976710656)
theorem b92(e8:Nat):∀(r c:Nat),c≤2*e8+192→Builtin.growBy e8 r c≤2*e8+192
 |0,c,h=>h
 |r+1,c,h=>by
  simp only[Builtin.growBy];split
  ·exact h
  ·rename_i hc;exact b92 e8 r _ (by omega)
theorem a7u{e8 eW:Nat}(h:eW<e8):Builtin.nextslicecap e8 eW≤2*e8+192:=by
 unfold Builtin.nextslicecap;split
 ·omega
 ·split
  ·omega
  ·exact b92 e8 4 eW (by omega)
theorem a4i(z:Array Value)(m:Nat):(Builtin.zeroCells z m).toList=(List.replicate m z.toList).flatten:=by rw[←a3h];simp only[Builtin.zeroCells,e5t,Array.toList_range,e3i];apply e5c;intro a _;rw[Array.getElem!_toList]
theorem a7o(ok:EnvOk E){st xt af:TypeId}{dx:TypeDesc}(hu:E.und st=some (.slice af))(ff:E.und xt=some dx)(bO:a2s dx=false)
 {z:List AV}(hz:E.zero af=some z){base:Option Addr}{aW cN m:Nat}{cx:Value}{eW new:Array Value}(ty:TypeId)
 (ak:(Builtin.lenOf cx).run E.P w = .ok m w)(iv:cN<aW+m)(aJ:a2j E af (aW+m)=true)
 (a8:∀w',SameMem w w'→(Builtin.firstCells (E.sz af) aW (.slice base aW cN)).run E.P w' = .ok eW w')
 (bu:∀w',SameMem w w'→(Builtin.firstCells (E.sz af) m cx).run E.P w' = .ok new w') :
 ∃(bG:Nat) (zs:List Value) (w0:World),SameMem w w0∧aW+m≤bG∧zs.length=E.sz af∧
  (Builtin.append_ #[st,xt] ty #[.slice base aW cN,cx]).run E.P w =
   .ok (.slice (some ⟨w.heap.size,0,none⟩) (aW+m) bG)
    { w0 with heap:=w0.heap.push (.cells (eW++new++(List.replicate (bG-(aW+m)) zs).flatten.toArray) af) }:=by
 obtain⟨⟨de,cq⟩,i',z',kn,js,k9,k8⟩:=ok.zero af z hz;simp only[a2j,b46,e2d]at aJ;have ij:∀w',(zeroValue af).run E.P w' = .ok z' w':=by intro w';simp[zeroValue,typeInfo,kn,js]
 have fk:z'.cells.toList.length=E.sz af:=by rw[←k9,VRels.length (k8 (λ_=>False) w)]
 obtain⟨i,hi,_,fh⟩:=b29 ok w cq;have iy:∀w',(typeInfo af).run E.P w' = .ok i w':=by intro w';have:=hi;simp[typeInfo,kn]at this⊢;exact this
 have sE:∀w',(underlying xt).run E.P w' = .ok dx w':=λw'=>a0k ok w' ff;refine⟨aW+m+(w.tape w.drawn (.appendCap (aW+m) cN af))%(2^63-(aW+m)),z'.cells.toList,{ w with drawn:=w.drawn+1 },⟨rfl,rfl,rfl,rfl⟩,by omega,fk,?_⟩;have aN:¬(aW+m≤cN):=by omega
 have bD:=a7u iv;have qS:¬(Builtin.nextslicecap (aW+m) cN*i.bytes>2^48):=by rw[fh];have:Builtin.nextslicecap (aW+m) cN*E.bytes af≤(2*(aW+m)+192)*E.bytes af:=e5z _ bD;rw[Nat.mul_comm (2*(aW+m)+192)]at this;omega
 have kg:¬(((aW+m:Nat):Int)>IntKind.i64.max):=by simp only[IntKind.max,IntKind.signed,IntKind.bits];simp;omega
 have ry:¬((((aW+m:Nat):Int)>IntKind.i64.max)∧(False∨i.bytes=0)):=λhh=>kg hh.1;have nT:=a8 { w with drawn:=w.drawn+1 } ⟨rfl,rfl,rfl,rfl⟩;have nY:=bu { w with drawn:=w.drawn+1 } ⟨rfl,rfl,rfl,rfl⟩;have nX:∀k:IntKind,dx≠ .int k:=by rintro k rfl;simp[a2s]at bO
 unfold Builtin.append_;simp only[e5v,e29,e51,Sem.run_bind,a0k ok w hu,Result.andThen_ok,a2z ok w cq];simp only[sE w,Result.andThen_ok,Sem.run_pure];simp only[e5d,e76,Sem.run_bind,ak,Result.andThen_ok,aN,iy,false_or,kg,false_and,qS,e7g,e78,run_choose,run_askRoom,
  Question.forced,Question.cut,nT,nY,ij,a3g,Sem.run_pure]
 congr 4
 apply e6c;simp only[e6z,a4i]
theorem run_append_fits(ok:EnvOk E){st xt af:TypeId}{dx de:TypeDesc}(hu:E.und st=some (.slice af))(cq:E.und af=some de)(ff:E.und xt=some dx)(bO:a2s dx=false)
 {base:Option Addr}{aW cN m:Nat}{cx:Value}{new:Array Value}(ty:TypeId){w':World}
 (ak:(Builtin.lenOf cx).run E.P w = .ok m w)(aN:aW+m≤cN)
 (bu:(Builtin.firstCells (E.sz af) m cx).run E.P w = .ok new w)
 (aR:∀a,base=some a→(storeCells (a.add (aW*E.sz af)) new.toList).run E.P w = .ok () w')(dV:base=none→w'=w) :
 (Builtin.append_ #[st,xt] ty #[.slice base aW cN,cx]).run E.P w = .ok (.slice base (aW+m) cN) w':=by
 have nX:∀k:IntKind,dx≠ .int k:=by rintro k rfl;simp[a2s]at bO
 unfold Builtin.append_;simp only[e5v,e29,e51,Sem.run_bind,a0k ok w hu,Result.andThen_ok,a2z ok w cq,a0k ok w ff,Sem.run_pure];simp only[e5d,e76,Sem.run_bind,ak,Result.andThen_ok,aN,e7g,e78,bu];cases base with
 |none=>simp[dV rfl]
 |some a=>simp[aR a rfl]
def a44(E:Env)(h:FHeap)(n:Nat)(st xt:TypeId)(s x:AV):Option (AV×Eff):=
 match E.und st,E.und xt with
 |some (.slice af),some dx=>
  bif a2s dx || !(E.zero af).isSome || !(Nat.blt 0 (E.sz af))then none else
  match a3b h (E.sz af) x with
  |none=>none
  |some xs=>match s with
   |.nilslice=>match xs with
    | []=>some (.nilslice,.none)
    |y::ys=>bif a2j E af (y::ys).length then some (.slice n 0 (y::ys).length none,.new (.row (E.sz af) (y::ys)))else none
   |.islice aa cap=>bif aa.all (λr=>r.length==E.sz af)then match xs with
    | []=>some (.islice aa cap,.none)
    |y::ys=>match cap with
     |some c=>bif Nat.blt c (aa.length+(y::ys).length)&&a2j E af (aa.length+(y::ys).length)then
      some (.slice n 0 (aa.length+(y::ys).length) none,.new (.row (E.sz af) (aa++(y::ys))))else none
     |none=>none
    else none
   |.slice b off len cap=>match h b with
    |some (.row kk aa)=>bif kk==E.sz af&&Nat.ble (off+len) aa.length then
     match cap with
     |none=>bif a2j E af (len+xs.length)&&xs.all (λr=>r.all AV.storable)then
      some (.slice n 0 (len+xs.length) none,.kill b (.row (E.sz af) (bif Nat.beq (off+len) aa.length then aa.drop off++xs else(aa.drop off).take len++xs)))else none
     |some c=>bif Nat.ble (len+xs.length) c then
      bif Nat.ble (off+len+xs.length) aa.length&&xs.all (λr=>r.all AV.storable)then
       some (.slice b off (len+xs.length) (some c),.set b (.row (E.sz af) (aa.take (off+len)++xs++aa.drop (off+len+xs.length))))else none
      else bif a2j E af (len+xs.length)then
       some (.slice n 0 (len+xs.length) none,.new (.row (E.sz af) ((aa.drop off).take len++xs)))else none
     else none
    |_=>none
   |_=>none
 |_,_=>none
theorem VRels.flat_append{as bs:List (List AV)}{xs ys:List Value}(h:VRels I w ρ as.flatten xs)(k:VRels I w ρ bs.flatten ys):VRels I w ρ (as++bs).flatten (xs++ys):=by rw[List.flatten_append];exact VRels.append h k
theorem b2e(ok:EnvOk E)(r:HRel E.G I K ρ h w)(hn:h n=none)(hρ:ρ n=none){st xt af:TypeId}{dx:TypeDesc}(hu:E.und st=some (.slice af))(ff:E.und xt=some dx)
 (bO:a2s dx=false){z:List AV}(hz:E.zero af=some z)(bA:0<E.sz af){base:Option Addr}{aW cN m:Nat}{cx:Value}{eW new:Array Value}(ty:TypeId){ss xs:List (List AV)}
 (ak:(Builtin.lenOf cx).run E.P w = .ok m w)(iv:cN<aW+m)(aJ:a2j E af (aW+m)=true)
 (a8:∀w',SameMem w w'→(Builtin.firstCells (E.sz af) aW (.slice base aW cN)).run E.P w' = .ok eW w')
 (bu:∀w',SameMem w w'→(Builtin.firstCells (E.sz af) m cx).run E.P w' = .ok new w')
 (rg:VRels I w ρ ss.flatten eW.toList)(cP:VRels I w ρ xs.flatten new.toList)(my:∀r∈ss,r.length=E.sz af)(g8:∀r∈xs,r.length=E.sz af)
 (fE:ss.length=aW)(lH:xs.length=m){e:Eff}(he:e = .new (.row (E.sz af) (ss++xs))∨∃b,e = .kill b (.row (E.sz af) (ss++xs))) :
 Val E I K ρ h n w (Builtin.append_ #[st,xt] ty #[.slice base aW cN,cx]) (.slice n 0 (aW+m) none) e:=by
 obtain⟨bG,zs,w0,fl,bD,jg,ac⟩:=a7o ok hu ff bO hz ty ak iv aJ a8 bu;generalize bx:eW++new++(List.replicate (bG-(aW+m)) zs).flatten.toArray=cells at ac;have iz:∀m,(List.replicate m zs).flatten.length=m*E.sz af:=by
  intro m;induction m with
  |zero=>simp
  |succ m ih=>rw[e6p,e5h,e2f,ih,jg,e7e,Nat.add_comm]
 have iq:eW.size=aW*E.sz af:=by have:=VRels.length rg;rw[a19 my,fE,e3i]at this;exact this.symm
 have fm:new.size=m*E.sz af:=by have:=VRels.length cP;rw[a19 g8,lH,e3i]at this;exact this.symm
 have be:cells.size=bG*E.sz af:=by
  subst bx;simp only[Array.size_append,iq,fm,List.size_toArray,iz];rw[←e6j,←e6j]
  congr 1;omega
 have oU:∀c,I c→({ w0 with heap:=w0.heap.push (.cells cells af) }:World).heap[c]?=w.heap[c]?:=by intro c hc;have:=r.imm c hc;show(w0.heap.push _)[c]?=_;rw[fl.1,e5k,e2i (by omega)]
 have iu:({ w0 with heap:=w0.heap.push (.cells cells af) }:World).heap[w.heap.size]?=some (.cells cells af (0,0)):=by show(w0.heap.push _)[_]?=_;rw[fl.1];simp
 have bt:=PMap.set_old (m:=⟨w.heap.size,0,E.sz af,cells.size⟩) hρ;have ho:ORel E.G I { w0 with heap:=w0.heap.push (.cells cells af) } (ρ.set n ⟨w.heap.size,0,E.sz af,cells.size⟩) ⟨w.heap.size,0,E.sz af,cells.size⟩ (.row (E.sz af) (ss++xs)):=by
  refine⟨rfl,bA,⟨cells,af,iu,rfl,?_⟩,?_⟩
  ·show 0+(ss++xs).length*E.sz af≤cells.size;rw[e2f,fE,lH,be,e55];exact e5z _ bD
  ·rw[VRows.iff];refine⟨by intro x hx;rcases e65.1 hx with h|h;exact my x h;exact g8 x h,?_⟩;refine VAt.of_cells (cs:=(eW++new).toList) (CellsAt.of_heap iu (λj v hj=>?_)) ?_
   ·subst bx;have iY:=(e26.1 hj).1;simp only[e3i]at iY;rw[e55,e5s iY,←e67];exact hj
   ·rw[e6z];exact VRels.mono (λ_ h=>h) oU _ bt (VRels.flat_append rg cP)
 refine⟨_,_,ρ.set n ⟨w.heap.size,0,E.sz af,cells.size⟩,ac,?_,?_,Moves.set _ _ _ (by rcases he with rfl|⟨b,rfl⟩<;>rfl)⟩
 ·rcases he with rfl|⟨b,rfl⟩
  ·exact a2d (ob:=.cells cells af) r hn hρ (by show w0.heap.push _=_;rw[fl.1]) fl.2.1 fl.2.2.1 fl.2.2.2 rfl ho
  ·exact b1w (ob:=.cells cells af) r hn hρ b (by show w0.heap.push _=_;rw[fl.1]) fl.2.1 fl.2.2.1 fl.2.2.2 rfl ho
 ·simp only[VRel];refine⟨_,bG,rfl,bD,(λq hq=>by cases hq),.inr ⟨_,by simp[PMap.set];rfl,by simp,?_⟩⟩;show 0+(0+bG)*E.sz af≤cells.size;rw[be,e55,e55];exact e2c _
theorem b5t(ok:EnvOk E)(r:HRel E.G I K ρ h w){st xt af:TypeId}{dx de:TypeDesc}(hu:E.und st=some (.slice af))(cq:E.und af=some de)(ff:E.und xt=some dx)
 (bO:a2s dx=false){m:Pl}{b off aW cN nn:Nat}{aa xs:List (List AV)}{cx:Value}{new:Array Value}(ty:TypeId)
 (hb:h b=some (.row (E.sz af) aa))(hm:ρ b=some m)(mD:off+aW≤aa.length)(aJ:m.off+(off+cN)*m.k≤m.room)
 (ak:(Builtin.lenOf cx).run E.P w = .ok nn w)(aN:aW+nn≤cN)(bu:(Builtin.firstCells (E.sz af) nn cx).run E.P w = .ok new w)
 (cP:VRels I w ρ xs.flatten new.toList)(g8:∀r∈xs,r.length=E.sz af)(lH:xs.length=nn)(aR:xs.all (λr=>r.all AV.storable)=true) :
 ∃w',(Builtin.append_ #[st,xt] ty #[.slice (some ⟨m.blk,m.off+off*m.k,none⟩) aW cN,cx]).run E.P w = .ok (.slice (some ⟨m.blk,m.off+off*m.k,none⟩) (aW+nn) cN) w'∧
  w'.heap.size=w.heap.size∧(∀c,c≠m.blk→w'.heap[c]?=w.heap[c]?)∧w'.tape=w.tape∧w'.os=w.os∧w'.output=w.output∧
  (∃b6 e,w'.heap[m.blk]?=some (.cells b6 e (0,0))∧b6.size=m.room)∧VRows I w' (E.sz af) ρ (aa.take (off+aW)++xs) m.blk m.off∧
  (∀x,m.off+(off+aW+nn)*E.sz af≤x→w'.cell? ⟨m.blk,x,none⟩=w.cell? ⟨m.blk,x,none⟩):=by
 obtain⟨m',bz,eu,_,ho⟩:=r.live b _ hb;obtain rfl:m=m':=z9o (hm.symm.trans bz);obtain⟨hk,eR,⟨b6,el,ek,be,_⟩,aD⟩:=ho;have fm:new.toList.length=nn*E.sz af:=by have:=VRels.length cP;rw[a19 g8,lH]at this;exact this.symm
 have iz:xs.flatten.all AV.storable=true:=by rw[e3n]at aR⊢;intro v hv;obtain⟨l,hl,bd⟩:=List.mem_flatten.1 hv;exact e3n.1 (aR l hl) v bd
 have kF:(⟨m.blk,m.off+off*m.k,none⟩:Addr).add (aW*E.sz af)=⟨m.blk,m.off+(off+aW)*E.sz af,none⟩:=by rw[a2y,hk,e6j,Nat.add_assoc]
 have cG:m.off+(off+aW)*E.sz af+new.toList.length≤b6.size:=by rw[be,fm,Nat.add_assoc,←e6j];rw[hk]at aJ;have:(off+aW+nn)*E.sz af≤(off+cN)*E.sz af:=e5z _ (by omega);omega
 obtain⟨w',ac,⟨ef,bE,iM⟩,bX,bA,ht,gu,bh,bx,cJ⟩:=b0i (w:=w) (blk:=m.blk) (o:=m.off+(off+aW)*E.sz af) new.toList ek cG (VRels.storable cP iz) E.P;have dm:∀c,I c→w'.heap[c]?=w.heap[c]?:=λc hc=>bX c (λe=>eu (e▸hc));refine⟨w',?_,bA,bX,ht,gu,bh,⟨ef,el,bE,by omega⟩,?_,?_⟩
 ·exact run_append_fits ok hu cq ff bO ty ak aN bu (λa ha=>by cases ha;rw[kF];exact ac) (λh=>by cases h)
 ·rw[VRows.append];have ju:(aa.take (off+aW)).length=off+aW:=by simp;omega
  refine⟨?_,?_⟩
  ·refine VRows.mono_cells (λ_ h=>h) dm (λ_ _ h=>h) (λj hj=>cJ _ (.inl ?_)) (VRows.take (off+aW) aD);rw[ju]at hj;omega
  ·rw[VRows.iff,ju];exact⟨g8,VAt.of_cells bx (VRels.mono (λ_ h=>h) dm _ (λ_ _ h=>h) cP)⟩
 ·intro x hx;refine cJ x (.inr ?_);rw[fm,Nat.add_assoc,←e6j];exact hx
theorem c3i(ok:EnvOk E)(r:HRel E.G I K ρ h w)(hn:h n=none)(hρ:ρ n=none){st xt:TypeId}{s x v:AV}{e:Eff}{cs cx:Value}(ty:TypeId)
 (ha:a44 E h n st xt s x=some (v,e))(hs:VRel I w ρ s cs)(hx:VRel I w ρ x cx):Val E I K ρ h n w (Builtin.append_ #[st,xt] ty #[cs,cx]) v e:=by
 unfold a44 at ha;split at ha
 case h_2=>cases ha
 rename_i af dx hu ff;rw[cond_eq_ite]at ha;split at ha
 case isTrue=>cases ha
 rename_i hc;simp only[e6u,e5i,not_or,e5q,Bool.not_eq_false,e3f]at hc;obtain⟨⟨bO,oS⟩,bA⟩:=hc;obtain⟨z,hz⟩:=e24.1 oS;obtain⟨⟨de,cq⟩,_⟩:=ok.zero af z hz;split at ha
 case h_1=>cases ha
 rename_i xs cP;obtain⟨ak,⟨new,bu,kd⟩,g8⟩:=a4e r cP hx;have gR:=bu w ⟨rfl,rfl,rfl,rfl⟩;split at ha
 · -- nil
  simp only[VRel]at hs;subst hs;split at ha
  ·cases ha;refine Val.here (c:=.slice none 0 0) r ?_ (by simp[VRel]);exact run_append_fits ok hu cq ff bO ty ak (by simp) gR (λa h=>by cases h) (λ_=>rfl)
  ·rename_i y ys;rw[cond_eq_ite]at ha;split at ha
   case isFalse=>cases ha
   rename_i aJ;cases ha;have:=b2e (ss:=[]) (eW:=#[]) (base:=none) (aW:=0) (cN:=0) (e:=.new (.row (E.sz af) ([]++(y::ys)))) ok r hn hρ hu ff bO hz bA ty ak (by simp) (by simpa using aJ)
    (λw' _=>rfl) bu (by simp[VRels]) kd (by simp) g8 rfl rfl (.inl rfl)
   simpa using this
 · -- immutable memory
  rename_i aa cap;rw[cond_eq_ite]at ha;split at ha
  case isFalse=>cases ha
  rename_i aH;have jJ:=hs;simp only[VRel]at jJ;obtain⟨a,cc,kk,rfl,aN,bD,dU⟩:=jJ;split at ha
  ·cases ha;refine Val.here r ?_ hs;have:=run_append_fits ok hu cq ff bO (base:=some a) (aW:=aa.length) (cN:=cc) ty (w':=w) ak (by simpa using aN) gR (λa' h=>by
    have:new.toList=[]:=by have:=VRels.length kd;simpa using this.symm
    rw[this];rfl) (λh=>by cases h)
   simpa using this
  ·rename_i y ys;split at ha
   case h_2=>cases ha
   rename_i c;rw[cond_eq_ite]at ha;split at ha
   case isFalse=>cases ha
   rename_i aJ;cases ha;simp only[b46,e3f]at aJ;obtain⟨_,⟨eW,a8,iQ⟩,my⟩:=a4e (k:=E.sz af) (xs:=aa) r (by simp only[a3b,aH,e3e]) hs;have fi:=bD c rfl;exact b2e ok r hn hρ hu ff bO hz bA ty ak (by omega) aJ.2 a8 bu iQ kd my g8 rfl rfl (.inl rfl)
 · -- a mutable block
  rename_i b off len cap;split at ha
  case h_2=>cases ha
  rename_i kk aa hb;rw[cond_eq_ite]at ha;split at ha
  case isFalse=>cases ha
  rename_i fi;simp only[b46,e6n,e5e]at fi;obtain⟨rfl,cG⟩:=fi;have jJ:=hs;simp only[VRel]at jJ;obtain⟨a,c,rfl,aN,bD,dU⟩:=jJ;obtain⟨rj,⟨eW,a8,iQ⟩,my⟩:=a4e (k:=E.sz af) (xs:=(aa.drop off).take len) r (by simp only[a3b,hb,e7d,e6d,e6k cG,e3e]) hs;have fE:((aa.drop off).take len).length=len:=by simp;omega
  rw[fE]at a8;split at ha
  · -- capacity unknown
   rw[cond_eq_ite]at ha;split at ha
   case isFalse=>cases ha
   rename_i aH;cases ha;simp only[b46]at aH;obtain⟨aJ,aR⟩:=aH;have hR:(bif Nat.beq (off+len) aa.length then aa.drop off++xs else(aa.drop off).take len++xs)=(aa.drop off).take len++xs:=by
    cases hq:Nat.beq (off+len) aa.length with
    |false=>rfl
    |true=>have ew:=e6l hq;rw[e3e,e3c (by simp;omega)]
   rw[hR];by_cases gW:len+xs.length≤c
   ·rcases dU with rfl|⟨m,hm,rfl,hmr⟩
    · -- no capacity at all: nothing is appended to nothing
     have h0:len=0:=by omega
     have ld:xs=[]:=e6e.1 (by omega);subst h0 ld;obtain⟨m,hm,eu,gT,hk,eR,⟨b6,el,ek,be,iA⟩,aD⟩:=r.live b _ hb;have hd:(aa.drop off).take 0=[]:=e28;have bt:=PMap.set_old (m:=⟨m.blk,m.off,m.k,m.room⟩) hρ;refine⟨.slice (some a) 0 0,w,ρ.set n ⟨m.blk,m.off,m.k,m.room⟩,?_,?_,?_,Moves.set _ _ _ rfl⟩
     ·have:=run_append_fits ok hu cq ff bO (base:=some a) (aW:=0) (cN:=0) ty (w':=w) ak (by simp) gR (λa' h=>by
       have:new.toList=[]:=by have:=VRels.length kd;simpa using this.symm
       rw[this];rfl) (λh=>by cases h)
      simpa using this
     ·refine a68 (mb:=m) r hn hρ hb hm rfl rfl (λ_ _=>rfl) rfl rfl rfl ?_;refine⟨hk,eR,⟨b6,el,ek,be,?_⟩,?_⟩
      ·simp[hd];omega
      ·simp[hd,VRows]
     ·simp only[VRel];exact⟨a,0,rfl,by simp,(λq hq=>by cases hq),.inl rfl⟩
    ·obtain⟨w',ac,iM,bX,ht,gu,bh,⟨b6,el,bE,bU⟩,iO,_⟩:=b5t (nn:=xs.length) ok r hu cq ff bO ty hb hm cG hmr ak gW gR kd g8 rfl aR;obtain⟨m',bz,eu,gT,hk,eR,_,_⟩:=r.live b _ hb;obtain rfl:m=m':=z9o (hm.symm.trans bz);have bt:=PMap.set_old (m:=⟨m.blk,m.off+off*m.k,m.k,m.room⟩) hρ;have dm:∀c,I c→w'.heap[c]?=w.heap[c]?:=λc hc=>bX c (λe=>eu (e▸hc));refine⟨_,w',ρ.set n ⟨m.blk,m.off+off*m.k,m.k,m.room⟩,ac,?_,?_,Moves.set _ _ _ rfl⟩
     ·refine a68 (mb:=m) r hn hρ hb hm rfl iM bX ht gu bh ?_;have jm:((aa.drop off).take len++xs).length=len+xs.length:=by rw[e2f,fE]
      refine⟨hk,eR,⟨b6,el,bE,bU,?_⟩,?_⟩
      ·rw[jm,←hk,Nat.add_assoc,←e6j];have:(off+(len+xs.length))*m.k≤(off+c)*m.k:=e5z _ (by omega);exact e5w (Nat.add_le_add_left this m.off) hmr
      ·have h1:=VRows.drop (rs:=aa.take (off+len)++xs) off (by simp;omega) iO;rw[List.drop_append_of_le_length (by rw[e4z];omega),List.drop_take,Nat.add_sub_cancel_left]at h1;rw[show off*E.sz af=off*m.k by rw[hk]]at h1;exact VRows.mono (λ_ h=>h) (λ_ _=>rfl) _ bt rfl h1
     ·simp only[VRel];refine⟨_,c,rfl,gW,(λq hq=>by cases hq),.inr ⟨_,by simp[PMap.set];rfl,by simp,?_⟩⟩;show m.off+off*m.k+(0+c)*m.k≤m.room;rw[e55,Nat.add_assoc,←e6j];exact hmr
   ·have:=b2e (e:=.kill b (.row (E.sz af) ((aa.drop off).take len++xs))) ok r hn hρ hu ff bO hz bA ty ak (by omega) aJ a8 bu iQ kd my g8 fE rfl (.inr ⟨b,rfl⟩);exact this
  · -- capacity known
   rename_i c';have qC:c=c':=bD c' rfl;subst qC;rw[cond_eq_ite]at ha;split at ha
   ·rename_i gW;simp only[e5e]at gW;rw[cond_eq_ite]at ha;split at ha
    case isFalse=>cases ha
    rename_i aH;cases ha;simp only[b46,e5e]at aH;obtain⟨dP,aR⟩:=aH;rcases dU with rfl|⟨m,hm,rfl,hmr⟩
    ·have h0:len=0:=by omega
     have ld:xs=[]:=e6e.1 (by omega);subst h0 ld;have aD:aa.take (off+0)++[]++aa.drop (off+0+([]:List (List AV)).length)=aa:=by simp
     rw[aD];refine⟨.slice (some a) 0 0,w,ρ,?_,?_,?_,Moves.same _ _ _⟩
     ·have:=run_append_fits ok hu cq ff bO (base:=some a) (aW:=0) (cN:=0) ty (w':=w) ak (by simp) gR (λa' h=>by
       have:new.toList=[]:=by have:=VRels.length kd;simpa using this.symm
       rw[this];rfl) (λh=>by cases h)
      simpa using this
     ·obtain⟨m,hm,_,_,ho⟩:=r.live b _ hb;exact a2c r hb hm rfl (λ_ _=>rfl) rfl rfl rfl ho
     ·simp only[VRel];exact⟨a,0,rfl,by simp,(λq hq=>by cases hq;rfl),.inl rfl⟩
    ·obtain⟨w',ac,iM,bX,ht,gu,bh,⟨b6,el,bE,bU⟩,iO,cJ⟩:=b5t (nn:=xs.length) ok r hu cq ff bO ty hb hm cG hmr ak gW gR kd g8 rfl aR;obtain⟨m',bz,eu,gT,hk,eR,⟨_,_,_,_,iA⟩,mB⟩:=r.live b _ hb;obtain rfl:m=m':=z9o (hm.symm.trans bz);have dm:∀c,I c→w'.heap[c]?=w.heap[c]?:=λc hc=>bX c (λe=>eu (e▸hc));have jm:(aa.take (off+len)++xs).length=off+len+xs.length:=by simp;omega
     refine⟨_,w',ρ,ac,?_,?_,Moves.same _ _ _⟩
     ·refine a2c r hb hm iM bX ht gu bh ⟨hk,eR,⟨b6,el,bE,bU,?_⟩,?_⟩
      ·have:(aa.take (off+len)++xs++aa.drop (off+len+xs.length)).length=aa.length:=by
        rw[e2f,jm];simp;omega
       rw[this];exact iA
      ·rw[VRows.append];refine⟨iO,?_⟩;rw[jm];refine VRows.mono_cells (λ_ h=>h) dm (λ_ _ h=>h) (λj hj=>cJ _ (by omega)) (VRows.drop (off+len+xs.length) dP mB)
     ·simp only[VRel];exact⟨_,c,rfl,gW,(λq hq=>by cases hq;rfl),.inr ⟨m,hm,rfl,hmr⟩⟩
   ·rename_i oW;rw[cond_eq_ite]at ha;split at ha
    case isFalse=>cases ha
    rename_i aJ;cases ha;have oW:¬(len+xs.length≤c):=by simpa using oW
    exact b2e ok r hn hρ hu ff bO hz bA ty ak (by omega) aJ a8 bu iQ kd my g8 fE rfl (.inl rfl)
 ·cases ha
end
end Go.Ax
/- AxBlt: len, cap, min, max, copy. -/
namespace Go.Ax
section
variable {E:Env}{I K:Nat→Prop}{ρ:PMap}{h:FHeap}{n:Nat}{w:World}
def b9v(E:Env)(h:FHeap)(t:TypeId)(x:AV):Option AV:=
 match E.und t,x with
 |some .string,.str s=>some (.int .i64 s.length)
 |some (.array n _),x=>bif x.isJunk then none else some (.int .i64 n)
 |some (.slice _),.nilslice=>some (.int .i64 0)
 |some (.slice _),.slice _ _ len _=>some (.int .i64 len)
 |some (.slice _),.islice aa _=>some (.int .i64 aa.length)
 |some (.map _ _),.nilmap=>some (.int .i64 0)
 |some (.map _ _),.imap ks _ _ _=>some (.int .i64 ks.length)
 |some (.map _ _),.iset ks=>some (.int .i64 ks.length)
 |some (.map _ _),.map b=>match h b with
  |some (.map ks _ _ _)=>some (.int .i64 ks.length)
  |some (.uset ks)=>some (.int .i64 ks.length)
  |_=>none
 |_,_=>none
theorem d3d(ok:EnvOk E)(r:HRel E.G I K ρ h w){t:TypeId}{x v:AV}{c:Value}(ty:TypeId)(hv:b9v E h t x=some v)(hx:VRel I w ρ x c) :
 Val E I K ρ h n w (Builtin.len_ #[t] ty #[c]) v .none:=by
 unfold b9v at hv;split at hv
 ·rename_i hu;cases hv;simp only[VRel]at hx;obtain⟨tb,rfl,ht⟩:=hx;have:tb.size=tb.data.toList.length:=by rw[e3i];rfl
  exact Val.here (c:=goInt tb.size) r (by simp[Builtin.len_,a0k ok w hu]) (by rw[←ht,this];simp[goInt,VRel])
 ·rename_i y m e hu;rw[cond_eq_ite]at hv;split at hv
  ·cases hv
  ·cases hv;refine Val.here (c:=goInt m) r ?_ (by simp[goInt,VRel]);cases c<;>simp[Builtin.len_,a0k ok w hu]
 ·rename_i hu;cases hv;simp only[VRel]at hx;subst hx;exact Val.here (c:=goInt 0) r (by simp[Builtin.len_,a0k ok w hu]) (by simp[goInt,VRel])
 ·rename_i hu;cases hv;simp only[VRel]at hx;obtain⟨a,cc,rfl,_⟩:=hx;exact Val.here (c:=goInt _) r (by simp[Builtin.len_,a0k ok w hu];rfl) (by simp[goInt,VRel])
 ·rename_i hu;cases hv;simp only[VRel]at hx;obtain⟨a,cc,k,rfl,_⟩:=hx;exact Val.here (c:=goInt _) r (by simp[Builtin.len_,a0k ok w hu];rfl) (by simp[goInt,VRel])
 ·rename_i hu;cases hv;simp only[VRel]at hx;subst hx;exact Val.here (c:=goInt 0) r (by simp[Builtin.len_,a0k ok w hu]) (by simp[goInt,VRel])
 ·rename_i hu;cases hv;simp only[VRel]at hx;obtain⟨cc,es,rfl,_,he,eO,_,_⟩:=hx;have hl:=VRels.length eO;simp only[b41,e3i]at hl;refine Val.here (c:=goInt es.size) r ?_ (by rw[hl];simp[goInt,VRel]);simp[Builtin.len_,a0k ok w hu,getObj,Sem.run,he]
 ·rename_i hu;cases hv;simp only[VRel]at hx;obtain⟨cc,es,cl,rfl,_,he,hs⟩:=hx;have hl:=hs.1.length_eq;simp only[b41,e3i]at hl;refine Val.here (c:=goInt es.size) r ?_ (by rw[hl];simp[goInt,VRel]);simp[Builtin.len_,a0k ok w hu,getObj,Sem.run,he]
 ·rename_i b hu;split at hv
  case h_3=>cases hv
  case h_2=>rename_i ks hb;cases hv;simp only[VRel]at hx;obtain⟨m,hm,rfl⟩:=hx;obtain⟨m',bz,_,_,ho⟩:=r.live b _ hb;obtain rfl:m=m':=z9o (hm.symm.trans bz);obtain⟨es,cl,he,hs⟩:=ho;have hl:=hs.1.length_eq;simp only[b41,e3i]at hl;refine Val.here (c:=goInt es.size) r ?_ (by rw[hl];simp[goInt,VRel]);simp[Builtin.len_,a0k ok w hu,getObj,Sem.run,he]
  rename_i ks vs bs cl hb;cases hv;simp only[VRel]at hx;obtain⟨m,hm,rfl⟩:=hx;obtain⟨m',bz,_,_,ho⟩:=r.live b _ hb;obtain rfl:m=m':=z9o (hm.symm.trans bz);obtain⟨es,he,eO,_,_⟩:=ho;have hl:=VRels.length eO;simp only[b41,e3i]at hl;refine Val.here (c:=goInt es.size) r ?_ (by rw[hl];simp[goInt,VRel]);simp[Builtin.len_,a0k ok w hu,getObj,Sem.run,he]
 ·cases hv
def e1w(E:Env)(t:TypeId)(x:AV):Option AV:=
 match E.und t,x with
 |some (.slice _),.nilslice=>some (.int .i64 0)
 |some (.slice _),.slice _ _ _ (some c)=>some (.int .i64 c)
 |some (.slice _),.islice _ (some c)=>some (.int .i64 c)
 |_,_=>none
theorem d3i(ok:EnvOk E)(r:HRel E.G I K ρ h w){t:TypeId}{x v:AV}{c:Value}(ty:TypeId)(hv:e1w E t x=some v)(hx:VRel I w ρ x c) :
 Val E I K ρ h n w (Builtin.cap_ #[t] ty #[c]) v .none:=by
 unfold e1w at hv;split at hv
 ·rename_i hu;cases hv;simp only[VRel]at hx;subst hx;exact Val.here (c:=goInt 0) r (by simp[Builtin.cap_,a0k ok w hu]) (by simp[goInt,VRel])
 ·rename_i hu;cases hv;simp only[VRel]at hx;obtain⟨a,cc,rfl,_,hc,_⟩:=hx;have:=hc _ rfl;exact Val.here (c:=goInt cc) r (by simp[Builtin.cap_,a0k ok w hu]) (by rw[this];simp[goInt,VRel])
 ·rename_i hu;cases hv;simp only[VRel]at hx;obtain⟨a,cc,k,rfl,_,hc,_⟩:=hx;have:=hc _ rfl;exact Val.here (c:=goInt cc) r (by simp[Builtin.cap_,a0k ok w hu]) (by rw[this];simp[goInt,VRel])
 ·cases hv
def d4r:AV→List AV→Option AV
 |x,[]=>match x with|.int k a=>some (.int k a)|_=>none
 |.int k a,.int _ b::r=>d4r (.int k (if b<a then b else a)) r
 |_,_::_=>none
def d83:AV→List AV→Option AV
 |x,[]=>match x with|.int k a=>some (.int k a)|_=>none
 |.int k a,.int _ b::r=>d83 (.int k (if b>a then b else a)) r
 |_,_::_=>none
theorem c6n:∀{xs:List AV} {x v:AV} {c:Value} {cs:List Value},d4r x xs=some v→VRel I w ρ x c→VRels I w ρ xs cs→
 ∃d,(cs.foldlM Builtin.min2 c).run E.P w = .ok d w∧VRel I w ρ v d
 | [],x,v,c,cs,hv,hx,cP=>by
  simp only[VRels]at cP;subst cP;simp only[d4r]at hv;split at hv
  ·cases hv;exact⟨c,by simp,hx⟩
  ·cases hv
 |y::ys,x,v,c,cs,hv,hx,cP=>by
  simp only[VRels]at cP;obtain⟨cy,aT,rfl,hy,mj⟩:=cP;unfold d4r at hv;split at hv
  ·rename_i h;cases h
  ·rename_i k a k' b r he;cases he;simp only[VRel]at hx hy;subst hx hy;obtain⟨d,h1,h2⟩:=c6n (c:=.int k (if b<a then b else a)) hv (by simp[VRel]) mj;exact⟨d,by simp only[List.foldlM_cons,Builtin.min2,Sem.run_bind,Sem.run_pure,Result.andThen_ok,h1],h2⟩
  ·cases hv
theorem c6o:∀{xs:List AV} {x v:AV} {c:Value} {cs:List Value},d83 x xs=some v→VRel I w ρ x c→VRels I w ρ xs cs→
 ∃d,(cs.foldlM Builtin.max2 c).run E.P w = .ok d w∧VRel I w ρ v d
 | [],x,v,c,cs,hv,hx,cP=>by
  simp only[VRels]at cP;subst cP;simp only[d83]at hv;split at hv
  ·cases hv;exact⟨c,by simp,hx⟩
  ·cases hv
 |y::ys,x,v,c,cs,hv,hx,cP=>by
  simp only[VRels]at cP;obtain⟨cy,aT,rfl,hy,mj⟩:=cP;unfold d83 at hv;split at hv
  ·rename_i h;cases h
  ·rename_i k a k' b r he;cases he;simp only[VRel]at hx hy;subst hx hy;obtain⟨d,h1,h2⟩:=c6o (c:=.int k (if b>a then b else a)) hv (by simp[VRel]) mj;exact⟨d,by simp only[List.foldlM_cons,Builtin.max2,Sem.run_bind,Sem.run_pure,Result.andThen_ok,h1],h2⟩
  ·cases hv
theorem a9e(r:HRel E.G I K ρ h w){k:Nat}{x:AV}{xs:List (List AV)}{c:Value}(ha:a3b h k x=some xs)(hx:VRel I w ρ x c)(j:Nat)(hj:j≤xs.length) :
 ∃cv:Array Value,(Builtin.firstCells k j c).run E.P w = .ok cv w∧VRels I w ρ (xs.take j).flatten cv.toList:=by
 have dq:(xs.take j).length=j:=by simp;omega
 have key:∀(a:Addr) (n cap:Nat),a.spot=none→VAt I w ρ (xs.take j).flatten a.block a.off→(∀r∈xs.take j,r.length=k)→∃cv:Array Value,(Builtin.firstCells k j (.slice (some a) n cap)).run E.P w = .ok cv w∧VRels I w ρ (xs.take j).flatten cv.toList:=by
  intro a n cap hs ey hk;obtain⟨cv,h1,h2⟩:=VAt.cells ey;have hl:cv.length=j*k:=by rw[←VRels.length h2,a19 hk,dq]
  have ha:a=⟨a.block,a.off,none⟩:=by cases a;simp_all
  refine⟨cv.toArray,?_,by simpa using h2⟩;have:=run_loadCells_list (P:=E.P) w a cv (λi v hi=>by rw[ha,a2y];exact h1 i v hi);rw[hl]at this;simpa[Builtin.firstCells]using this
 obtain⟨_,_,aH⟩:=a4e r ha hx;have md:∀r∈xs.take j,r.length=k:=λr hr=>aH r (e6f hr);unfold a3b at ha;split at ha
 ·cases ha;simp only[VRel]at hx;subst hx;exact⟨#[],rfl,by simp[VRels]⟩
 ·rename_i aa cap;rw[cond_eq_ite]at ha;split at ha
  case isFalse=>cases ha
  cases ha;simp only[VRel]at hx;obtain⟨a,cc,kk,rfl,aN,_,dU⟩:=hx;rcases dU with rfl|⟨hs,hI,aD⟩
  ·have:j=0:=by simpa using hj
   subst this;exact⟨#[],by simp[Builtin.firstCells,loadCells,loadCellsFrom],by simp[VRels]⟩
  ·exact key a _ _ hs (VAt.noRef_any (VRows.iff.1 (VRows.take j aD)).2) md
 ·rename_i b off len cap;split at ha
  case h_2=>cases ha
  rename_i k' aa hb;rw[cond_eq_ite]at ha;split at ha
  case isFalse=>cases ha
  rename_i hc;cases ha;simp only[b46,e6n,e5e]at hc;obtain⟨rfl,cG⟩:=hc;obtain⟨m,hm,_,_,ho⟩:=r.live b _ hb;obtain⟨hk,eR,_,aD⟩:=ho;simp only[VRel]at hx;obtain⟨a,cc,rfl,aN,_,dU⟩:=hx;rcases dU with rfl|⟨m',bz,rfl,aJ⟩
  ·have:j=0:=by simp at hj;omega
   subst this;exact⟨#[],by simp[Builtin.firstCells,loadCells,loadCellsFrom],by simp[VRels]⟩
  ·obtain rfl:m=m':=z9o (hm.symm.trans bz);refine key _ _ _ rfl ?_ md;rw[hk];exact(VRows.iff.1 (VRows.take j (VRows.take len (VRows.drop off (by omega) aD)))).2
 ·rename_i s;rw[cond_eq_ite]at ha;split at ha
  case isFalse=>cases ha
  cases ha;simp only[VRel]at hx;obtain⟨t,rfl,ht⟩:=hx;refine⟨_,by simp only[Builtin.firstCells,Sem.run_pure];rfl,?_⟩;rw[e5t,a5y,←List.map_take];simp only[e5b,ht,Nat.sub_zero];exact a6o _
 ·cases ha
theorem b5g(r:HRel E.G I K ρ h w){m:Pl}{b off k:Nat}{aa xs:List (List AV)}{new:List Value}(hb:h b=some (.row k aa))(hm:ρ b=some m)(cG:off+xs.length≤aa.length)
 (cP:VRels I w ρ xs.flatten new)(g8:∀r∈xs,r.length=k)(aR:xs.all (λr=>r.all AV.storable)=true) :
 ∃w',(storeCells ⟨m.blk,m.off+off*m.k,none⟩ new).run E.P w = .ok () w'∧Stepped E.G I K ρ w I ρ (h.eff n (.set b (.row k (aa.take off++xs++aa.drop (off+xs.length))))) w':=by
 obtain⟨m',bz,eu,_,ho⟩:=r.live b _ hb;obtain rfl:m=m':=z9o (hm.symm.trans bz);obtain⟨hk,eR,⟨b6,el,ek,be,iA⟩,aD⟩:=ho;have fm:new.length=xs.length*k:=by have:=VRels.length cP;rw[a19 g8]at this;exact this.symm
 have iz:xs.flatten.all AV.storable=true:=by rw[e3n]at aR⊢;intro v hv;obtain⟨l,hl,bd⟩:=List.mem_flatten.1 hv;exact e3n.1 (aR l hl) v bd
 have dC:m.off+off*m.k+new.length≤b6.size:=by rw[be,fm,hk,Nat.add_assoc,←e6j];exact e5w (Nat.add_le_add_left (e5z k cG) _) iA
 obtain⟨w',ac,⟨ef,bE,iM⟩,bX,bA,ht,gu,bh,bx,cJ⟩:=b0i (w:=w) (blk:=m.blk) (o:=m.off+off*m.k) new ek dC (VRels.storable cP iz) E.P;have dm:∀c,I c→w'.heap[c]?=w.heap[c]?:=λc hc=>bX c (λe=>eu (e▸hc));have ju:(aa.take off).length=off:=by simp;omega
 refine⟨w',ac,a2c r hb hm bA bX ht gu bh ⟨hk,eR,⟨ef,el,bE,by omega,?_⟩,?_⟩⟩
 ·have:(aa.take off++xs++aa.drop (off+xs.length)).length=aa.length:=by simp;omega
  rw[this];exact iA
 ·rw[VRows.append,VRows.append];refine⟨⟨?_,?_⟩,?_⟩
  ·refine VRows.mono_cells (λ_ h=>h) dm (λ_ _ h=>h) (λj hj=>cJ _ (.inl ?_)) (VRows.take off aD);rw[ju]at hj;rw[hk];omega
  ·rw[VRows.iff,ju,←hk];exact⟨by rw[hk];exact g8,VAt.of_cells bx (VRels.mono (λ_ h=>h) dm _ (λ_ _ h=>h) cP)⟩
  ·rw[e2f,ju];refine VRows.mono_cells (λ_ h=>h) dm (λ_ _ h=>h) (λj hj=>cJ _ (.inr ?_)) (VRows.drop (off+xs.length) cG aD);rw[fm,hk,e6j];omega
def c3g(E:Env)(h:FHeap)(dt:TypeId)(d x:AV):Option (AV×Eff):=
 match E.und dt with
 |some (.slice af)=>bif (E.und af).isSome then
  match a3b h (E.sz af) x with
  |none=>none
  |some xs=>match d with
   |.nilslice=>some (.int .i64 0,.none)
   |.slice b off len _=>bif Nat.beq len 0 then some (.int .i64 0,.none)else match h b with
    |some (.row kk aa)=>bif kk==E.sz af&&Nat.ble (off+len) aa.length&&Nat.blt 0 len&&(xs.take len).all (λr=>r.all AV.storable)then
     some (.int .i64 ((xs.take len).length:Nat),.set b (.row kk (aa.take off++xs.take len++aa.drop (off+(xs.take len).length))))else none
    |_=>none
   |_=>none else none
 |_=>none
theorem c99(ok:EnvOk E)(r:HRel E.G I K ρ h w){dt xt:TypeId}{d x v:AV}{e:Eff}{cd cx:Value}(ty:TypeId)
 (ha:c3g E h dt d x=some (v,e))(hd:VRel I w ρ d cd)(hx:VRel I w ρ x cx):Val E I K ρ h n w (Builtin.copy_ #[dt,xt] ty #[cd,cx]) v e:=by
 unfold c3g at ha;split at ha
 case h_2=>cases ha
 rename_i af hu;rw[cond_eq_ite]at ha;split at ha
 case isFalse=>cases ha
 rename_i tH;obtain⟨de,cq⟩:=e24.1 tH;split at ha
 case h_1=>cases ha
 rename_i xs cP;obtain⟨ak,_,g8⟩:=a4e r cP hx;split at ha
 ·cases ha;simp only[VRel]at hd;subst hd;obtain⟨cv,h1,h2⟩:=a9e r cP hx 0 (by omega);refine Val.here (c:=goInt 0) r ?_ (by simp[goInt,VRel]);have mJ:Nat.min xs.length 0=0:=Nat.min_zero _;simp only[Builtin.copy_,e5v,e29,e51,Sem.run_bind,a0k ok w hu,Result.andThen_ok,ak,a2z ok w cq,mJ,h1,Sem.run_pure];rfl
 ·rename_i b off len cap;rw[cond_eq_ite]at ha;split at ha
  ·rename_i h0;have h0:=e6l h0;subst h0;cases ha;simp only[VRel]at hd;obtain⟨a,c,rfl,aN,_,_⟩:=hd;obtain⟨cv,h1,h2⟩:=a9e r cP hx 0 (by omega);have bC:cv.toList=[]:=by have:=VRels.length h2;simpa using this.symm
   refine Val.here (c:=goInt 0) r ?_ (by simp[goInt,VRel]);have mJ:Nat.min xs.length 0=0:=Nat.min_zero _;simp only[Builtin.copy_,e5v,e29,e51,Sem.run_bind,a0k ok w hu,Result.andThen_ok,ak,a2z ok w cq,mJ,h1,bC];cases a<;>rfl
  split at ha
  case h_2=>cases ha
  rename_i kk aa hb;rw[cond_eq_ite]at ha;split at ha
  case isFalse=>cases ha
  rename_i fi;cases ha;simp only[b46,e6n,e5e,e3f]at fi;obtain⟨⟨⟨rfl,cG⟩,fx⟩,aR⟩:=fi;simp only[VRel]at hd;obtain⟨a,c,rfl,aN,_,dU⟩:=hd;rcases dU with rfl|⟨m,hm,rfl,aJ⟩
  ·omega
  have jj:(xs.take len).length=Nat.min xs.length len:=by rw[e4z,Nat.min_comm]
  have aE:Nat.min xs.length len≤xs.length:=Nat.min_le_left _ _;have rx:Nat.min xs.length len≤len:=Nat.min_le_right _ _;obtain⟨cv,h1,h2⟩:=a9e r cP hx _ aE;have sT:xs.take (Nat.min xs.length len)=xs.take len:=by
   rcases Nat.le_total xs.length len with h|h
   ·rw[show Nat.min xs.length len=xs.length from Nat.min_eq_left h,e3z,e3c h]
   ·rw[show Nat.min xs.length len=len from Nat.min_eq_right h]
  rw[sT]at h2;obtain⟨w',ac,j5⟩:=b5g (n:=n) r hb hm (off:=off) (xs:=xs.take len) (by omega) h2 (λr hr=>g8 r (e6f hr)) aR;refine⟨goInt (xs.take len).length,w',ρ,?_,j5,by simp[goInt,VRel],Moves.same _ _ _⟩;simp only[Builtin.copy_,e5v,e29,e51,Sem.run_bind,a0k ok w hu,Result.andThen_ok,ak,a2z ok w cq,h1,ac,Sem.run_pure,jj]
 ·cases ha
def b0d(E:Env)(h:FHeap)(t:TypeId)(x:AV):Option (AV×Eff):=
 match E.und t,x with
 |some (.slice _),.nilslice=>some (.tuple [],.none)
 |some (.slice af),.slice b off len _=>bif Nat.beq len 0 then some (.tuple [],.none)else match E.zero af with
  |some z=>match h b with
   |some (.row kk aa)=>bif kk==E.sz af&&Nat.ble (off+len) aa.length&&z.all AV.storable then
    some (.tuple [],.set b (.row kk (aa.take off++List.replicate len z++aa.drop (off+(List.replicate len z).length))))else none
   |_=>none
  |none=>none
 |_,_=>none
theorem a7j{z:List AV}{zs:List Value}(hz:VRels I w ρ z zs):∀n:Nat,VRels I w ρ (List.replicate n z).flatten (List.replicate n zs).flatten
 |0=>by simp[VRels]
 |n+1=>by rw[e6p,e6p,e5h,e5h];exact VRels.append hz (a7j hz n)
theorem c6z(ok:EnvOk E)(r:HRel E.G I K ρ h w){t:TypeId}{x v:AV}{e:Eff}{cx:Value}(ty:TypeId)
 (ha:b0d E h t x=some (v,e))(hx:VRel I w ρ x cx):Val E I K ρ h n w (Builtin.clear_ #[t] ty #[cx]) v e:=by
 unfold b0d at ha;split at ha
 ·rename_i af hu;cases ha;simp only[VRel]at hx;subst hx;refine Val.here (c:=.tuple #[]) r ?_ (by simp only[VRel];exact⟨#[],rfl,by simp[VRels]⟩);simp[Builtin.clear_,a0k ok w hu]
 ·rename_i af b off len cap hu;simp only[VRel]at hx;obtain⟨a,c,rfl,aN,_,dU⟩:=hx;rw[cond_eq_ite]at ha;split at ha
  ·rename_i h0;have h0:=e6l h0;subst h0;cases ha;refine Val.here (c:=.tuple #[]) r ?_ (by simp only[VRel];exact⟨#[],rfl,by simp[VRels]⟩);simp[Builtin.clear_,a0k ok w hu]
  rename_i h0;have fx:len≠0:=λe=>h0 (by subst e;rfl);split at ha
  case h_2=>cases ha
  rename_i z hz;split at ha
  case h_2=>cases ha
  rename_i kk aa hb;rw[cond_eq_ite]at ha;split at ha
  case isFalse=>cases ha
  rename_i fi;cases ha;simp only[b46,e6n,e5e]at fi;obtain⟨⟨rfl,cG⟩,aR⟩:=fi;rcases dU with rfl|⟨m,hm,rfl,aJ⟩
  ·omega
  obtain⟨z',js,jg,fD⟩:=a6p ok w hz;have mD:=e74 (n:=len) (a:=z);obtain⟨w',ac,j5⟩:=b5g (n:=n) r hb hm (off:=off) (xs:=List.replicate len z) (new:=(List.replicate len z'.cells.toList).flatten) (by omega) (a7j (VRels.noRef_any (fD I w)) len)
   (λr hr=>by rw[e77 hr];exact jg) (by rw[e3n];intro r hr;rw[e77 hr];exact aR)
  refine⟨.tuple #[],w',ρ,?_,j5,by simp only[VRel];exact⟨#[],rfl,by simp[VRels]⟩,Moves.same _ _ _⟩;obtain⟨sB,rfl⟩:∃l,len=l+1:=⟨len-1,by omega⟩
  simp only[Builtin.clear_,e5v,e29,Sem.run_bind,a0k ok w hu,Result.andThen_ok,js,a4i,ac,Sem.run_pure]
 ·cases ha
end
end Go.Ax
/- AxMap: maps with plain keys: lookup, update, delete. -/
namespace Go.Ax
section
variable {E:Env}{I K:Nat→Prop}{ρ:PMap}{h:FHeap}{n:Nat}{w:World}
def a5g:TypeDesc→Bool
 |.int _|.string|.bool=>true
 |_=>false
def b8w(E:Env)(t:TypeId):Bool:=
 match E.und t with
 |some (.struct fs)=>E.eqok t&&fs.toList.all λf=>match E.und f.type with|some d=>a5g d|none=>false
 |some d=>a5g d
 |none=>false
def c27:AV→AV→Bool
 |.int k a,.int k' b=>k==k'&&a==b
 |.str a,.str b=>a==b
 |.bool a,.bool b=>a==b
 |_,_=>false
def b63:List AV→List AV→Bool
 | [],[]=>true
 |a::as,b::bs=>c27 a b&&b63 as bs
 |_,_=>false
def d34:AV→AV→Bool
 |.agg a,.agg b=>b63 a b
 |a,b=>c27 a b
theorem b9k{a b:AV}(hs:c27 a b=true){ca cb:Value}(ha:VRel I w ρ a ca)(hb:VRel I w ρ b cb):ca=cb∧∀m,Instr.sameBits m ca cb=true:=by
 unfold c27 at hs;split at hs
 ·simp only[b46,e6n]at hs;obtain⟨rfl,rfl⟩:=hs;simp only[VRel]at ha hb;subst ha hb;exact⟨rfl,λm=>by cases m<;>simp[Instr.sameBits]⟩
 ·simp only[e6n]at hs;subst hs;simp only[VRel]at ha hb;obtain⟨t,rfl,ht⟩:=ha;obtain⟨t',rfl,sU⟩:=hb;have:t=t':=by
   cases t;cases t';simp only[ByteArray.mk.injEq];exact Array.toList_inj.1 (ht.trans sU.symm)
  subst this;exact⟨rfl,λm=>by cases m<;>simp[Instr.sameBits,b45]⟩
 ·simp only[e6n]at hs;subst hs;simp only[VRel]at ha hb;subst ha hb;exact⟨rfl,λm=>by cases m<;>simp[Instr.sameBits]⟩
 ·cases hs
theorem b9j:∀{as bs:List AV} {cs ds:List Value},b63 as bs=true→VRels I w ρ as cs→VRels I w ρ bs ds→
 cs=ds∧∀m,(cs.zip ds).all (λ(x,y)=>Instr.sameBits m x y)=true
 | [],[],cs,ds,_,ha,hb=>by simp only[VRels]at ha hb;subst ha hb;exact⟨rfl,by simp⟩
 |a::as,b::bs,cs,ds,hs,ha,hb=>by simp only[VRels]at ha hb;obtain⟨c,aT,rfl,h1,h2⟩:=ha;obtain⟨d,uL,rfl,h3,h4⟩:=hb;simp only[b63,b46]at hs;obtain⟨rfl,h5⟩:=b9k hs.1 h1 h3;obtain⟨rfl,h6⟩:=b9j hs.2 h2 h4;exact⟨rfl,λm=>by simp only[List.zip_cons_cons,List.all_cons,h5 m,e6d];exact h6 m⟩
 | [],_::_,cs,ds,hs,_,_=>by simp[b63]at hs
 |_::_,[],cs,ds,hs,_,_=>by simp[b63]at hs
theorem c8z{a b:AV}(hs:d34 a b=true){ca cb:Value}(ha:VRel I w ρ a ca)(hb:VRel I w ρ b cb):ca=cb∧Instr.sameBits 10000 ca cb=true:=by
 unfold d34 at hs;split at hs
 ·simp only[VRel]at ha hb;obtain⟨ca,rfl,ha⟩:=ha;obtain⟨cb,rfl,hb⟩:=hb;obtain⟨he,h1⟩:=b9j hs ha hb;have he:ca=cb:=Array.toList_inj.1 he;subst he;refine⟨rfl,?_⟩;show(ca.size==ca.size&&(ca.toList.zip ca.toList).all λ(x,y)=>Instr.sameBits 9999 x y)=true;rw[h1 9999];simp
 ·obtain⟨h1,h2⟩:=b9k hs ha hb;exact⟨h1,h2 10000⟩
def a3i(eq:AV→AV→Option Bool)(k:AV):List AV→Nat→Option (Option Nat)
 | [],_=>some none
 |x::xs,i=>match eq k x with
  |some q=>bif q then some (some i)else a3i eq k xs (i+1)
  |none=>none
theorem b01(ok:EnvOk E){kt:TypeId}{k:AV}{ck:Value}(hk:VRel I w ρ k ck):∀{ks:List AV} {es:List MapEntry} {i:Nat} {r:Option Nat},
 a3i (aeq E 6 kt) k ks i=some r→VRels I w ρ ks (es.map (·.key))→
 (Instr.findAsking kt ck es i).run E.P w = .ok (r.map λj=>(j,((es[j-i]?).map (·.val)).getD undef)) w∧∀j,r=some j→i≤j∧j-i<es.length
 | [],es,i,r,hf,eO=>by simp only[VRels,List.map_eq_nil_iff]at eO;subst eO;simp only[a3i,Option.some.injEq]at hf;subst hf;exact⟨rfl,by simp⟩
 |x::ks,es,i,r,hf,eO=>by
  cases es with
  |nil=>simp[VRels]at eO
  |cons e es=>
   simp only[e2b,VRels,List.cons.injEq]at eO;obtain⟨c,cs,⟨rfl,rfl⟩,hx,eO⟩:=eO;simp only[a3i]at hf;split at hf
   case h_2=>cases hf
   rename_i q hq;have ew:=a4r ok hq hk hx;unfold Instr.findAsking;simp only[Sem.run_bind,ew,Result.andThen_ok];cases q with
   |true=>simp only[e3e,Option.some.injEq]at hf;subst hf;exact⟨by simp,by simp⟩
   |false=>
    simp only[e3p]at hf;obtain⟨h1,h2⟩:=b01 ok hk (es:=es) hf eO;simp only[e5d,e76];rw[h1];refine⟨?_,λj hj=>?_⟩
    ·cases r with
     |none=>rfl
     |some j=>obtain⟨h3,h4⟩:=h2 j rfl;simp only[e2a];rw[show j-i=(j-(i+1))+1 by omega];simp
    ·obtain⟨h3,h4⟩:=h2 j hj;simp;omega
theorem d3h{t:TypeId}{k0:IntKind}(hu:E.und t=some (.int k0)){d:Nat}{x y:AV}{q:Bool}(hq:aeq E (d+1) t x y=some q):∃k a b,x = .int k a∧y = .int k b∧q=(a==b):=by
 unfold aeq at hq;rw[hu]at hq;split at hq
 case h_2=>
  rw[cond_eq_ite]at hq;split at hq
  ·rename_i hk;cases hq;have hk:=eq_of_beq hk;subst hk;exact⟨_,_,_,rfl,rfl,rfl⟩
  ·cases hq
 all_goals (try simp only[Option.some.injEq]at *);subst_vars;simp_all[a2r]
theorem d3g{t:TypeId}(hu:E.und t=some .string){d:Nat}{x y:AV}{q:Bool}(hq:aeq E (d+1) t x y=some q):∃a b,x = .str a∧y = .str b∧q=(a==b):=by
 unfold aeq at hq;rw[hu]at hq;split at hq
 case h_3=>cases hq;exact⟨_,_,rfl,rfl,rfl⟩
 all_goals (try simp only[Option.some.injEq]at *);subst_vars;simp_all[a2r]
theorem c97{t:TypeId}(hu:E.und t=some .bool){d:Nat}{x y:AV}{q:Bool}(hq:aeq E (d+1) t x y=some q):∃a b,x = .bool a∧y = .bool b∧q=(a==b):=by
 unfold aeq at hq;rw[hu]at hq;split at hq
 case h_1=>cases hq;exact⟨_,_,rfl,rfl,rfl⟩
 all_goals (try simp only[Option.some.injEq]at *);subst_vars;simp_all[a2r]
theorem c2c{d:TypeDesc}(hd:a5g d=true){kt:TypeId}(hu:E.und kt=some d){k x:AV}{ck cx:Value}{q:Bool}(hk:VRel I w ρ k ck)(hx:VRel I w ρ x cx)
 (hq:aeq E 6 kt k x=some q):Instr.sameNow d ck cx=some q:=by
 cases d<;>simp[a5g]at hd
 ·obtain⟨a,b,rfl,rfl,rfl⟩:=c97 hu hq;simp only[VRel]at hk hx;subst hk hx;rfl
 ·obtain⟨kk,a,b,rfl,rfl,rfl⟩:=d3h hu hq;simp only[VRel]at hk hx;subst hk hx;simp[Instr.sameNow]
 ·obtain⟨a,b,rfl,rfl,rfl⟩:=d3g hu hq;simp only[VRel]at hk hx;obtain⟨t,rfl,rfl⟩:=hk;obtain⟨t',rfl,rfl⟩:=hx;simp only[Instr.sameNow,b45]
theorem b5x{k:AV}{ck:Value}{d:TypeDesc}(hd:a5g d=true){kt:TypeId}(hu:E.und kt=some d)(hk:VRel I w ρ k ck):∀{ks:List AV} {es:List MapEntry} {i:Nat} {r:Option Nat},
 a3i (aeq E 6 kt) k ks i=some r→VRels I w ρ ks (es.map (·.key))→
 Instr.findNow d ck es i=some (r.map λj=>(j,((es[j-i]?).map (·.val)).getD undef))∧∀j,r=some j→i≤j∧j-i<es.length
 | [],es,i,r,hf,eO=>by simp only[VRels,List.map_eq_nil_iff]at eO;subst eO;simp only[a3i,Option.some.injEq]at hf;subst hf;exact⟨rfl,by simp⟩
 |x::ks,es,i,r,hf,eO=>by
  cases es with
  |nil=>simp[VRels]at eO
  |cons e es=>
   simp only[e2b,VRels,List.cons.injEq]at eO;obtain⟨c,cs,⟨rfl,rfl⟩,hx,eO⟩:=eO;simp only[a3i]at hf;split at hf
   case h_2=>cases hf
   rename_i q hq;have ae:=c2c hd hu hk hx hq;unfold Instr.findNow;rw[ae];cases q with
   |true=>simp only[e3e,Option.some.injEq]at hf;subst hf;exact⟨by simp,by simp⟩
   |false=>
    simp only[e3p]at hf;obtain⟨h1,h2⟩:=b5x hd hu hk (es:=es) hf eO;dsimp only;rw[h1];refine⟨?_,λj hj=>?_⟩
    ·cases r with
     |none=>rfl
     |some j=>obtain⟨h3,h4⟩:=h2 j rfl;simp only[e2a];rw[show j-i=(j-(i+1))+1 by omega];simp
    ·obtain⟨h3,h4⟩:=h2 j hj;simp;omega
theorem b4t{ck:Value}{fs:Array Field}:∀(es:List MapEntry) (i:Nat),Instr.findNow (.struct fs) ck es i=if es=[]then some none else none
 | [],i=>by simp[Instr.findNow]
 |e::es,i=>by simp[Instr.findNow,Instr.sameNow]
theorem b19(ok:EnvOk E){kt:TypeId}(oZ:b8w E kt=true){k:AV}{ck:Value}(hk:VRel I w ρ k ck){ks:List AV}{es:List MapEntry}{r:Option Nat}
 (hf:a3i (aeq E 6 kt) k ks 0=some r)(eO:VRels I w ρ ks (es.map (·.key))) :
 (Instr.findKey kt ck es).run E.P w = .ok (r.map λj=>(j,((es[j]?).map (·.val)).getD undef)) w∧∀j,r=some j→j<es.length:=by
 unfold b8w at oZ;split at oZ
 ·rename_i fs hu;obtain⟨h1,h2⟩:=b01 ok hk hf eO;refine⟨?_,λj hj=>(h2 j hj).2⟩;unfold Instr.findKey;simp only[Sem.run_bind,a0k ok w hu,Result.andThen_ok,b4t];by_cases he:es=[]
  ·subst he;simp at eO;have:ks=[]:=by cases ks with|nil=>rfl|cons a b=>simp[VRels]at eO
   subst this;simp only[a3i,Option.some.injEq]at hf;subst hf;simp
  ·simp only[he,e76];simpa using h1
 ·rename_i d _ hu;obtain⟨h1,h2⟩:=b5x oZ hu hk hf eO;refine⟨?_,λj hj=>(h2 j hj).2⟩;unfold Instr.findKey;simp only[Sem.run_bind,a0k ok w hu,Result.andThen_ok,h1];simp
 ·cases oZ
theorem a3p(ok:EnvOk E){t:TypeId}{d:TypeDesc}(hd:a5g d=true)(hu:E.und t=some d)(b:Bool)(m:Nat)(c:Value):(Instr.checkKey b (m+1) t c).run E.P w = .ok () w:=by unfold Instr.checkKey;simp only[Sem.run_bind,a0k ok w hu,Result.andThen_ok];cases d<;>simp[a5g]at hd<;>rfl
def b2d(E:Env):List Field→List AV→Bool
 | [],_=>true
 |f::fs,cs=>(a2q E f.type ((cs.drop f.offset).take (E.sz f.type))).isSome&&b2d E fs cs
def b5q(E:Env)(t:TypeId)(x:AV):Bool:=
 match E.und t,x with
 |some (.struct fs),.agg cs=>b2d E fs.toList cs
 |some (.struct _),_=>false
 |_,_=>true
theorem b42(ok:EnvOk E){t:TypeId}(ht:b8w E t=true){x:AV}{c:Value}(hx:VRel I w ρ x c)(hv:b5q E t x=true)(b:Bool):(Instr.checkKey b 10000 t c).run E.P w = .ok () w:=by
 unfold b8w at ht;split at ht
 ·rename_i fs hu;simp only[b46]at ht;unfold b5q at hv;rw[hu]at hv;cases x<;>simp at hv;rename_i cs;simp only[VRel]at hx;obtain⟨cv,rfl,hc⟩:=hx;obtain⟨_,_,_,iS⟩:=ok.eqok t ht.1;unfold Instr.checkKey;simp only[Sem.run_bind,a0k ok w hu,Result.andThen_ok];have key:∀(l:List Field),(∀f∈l,f∈fs.toList)→b2d E l cs=true→
   (forIn l () (λf _=>if f.name≠ "_" then do
    Instr.checkKey b 9999 f.type (←part f.type cv f.offset)
    pure (ForInStep.yield ())
    else pure (ForInStep.yield ()):Field→Unit→Sem (ForInStep Unit))).run E.P w = .ok () w:=by
   intro l
   induction l with
   |nil=>intro _ _;simp
   |cons f l ih=>
    intro hm hp;simp only[b2d,b46]at hp;obtain⟨v,hv⟩:=e24.1 hp.1;obtain⟨cc,h1,_⟩:=a8i ok hv hc;have hf:=hm f (by simp);have nP:=e3n.1 ht.2 f hf;split at nP
    case h_2=>cases nP
    rename_i d hd;have kf:=iS fs hu f hf;rw[List.forIn_cons];simp only[ne_eq,kf,not_false_eq_true,e78,Sem.run_bind,h1,Result.andThen_ok,a3p ok nP hd,Sem.run_pure];exact ih (λg hg=>hm g (by simp[hg])) hp.2
  rw[←Array.forIn_toList];exact(congrArg (λr=>Result.andThen r (λ_ w'=>(pure ():Sem Unit).run E.P w')) (key fs.toList (λ_ h=>h) hv)).trans rfl
 ·rename_i d _ hu;exact a3p ok ht hu b 9999 c
 ·cases ht
def b4i(h:FHeap):AV→Option (List AV×List AV)
 |.nilmap=>some ([],[])
 |.imap ks vs _ _=>some (ks,vs)
 |.map b=>match h b with
  |some (.map ks vs _ _)=>some (ks,vs)
  |_=>none
 |_=>none
def a28(E:Env)(h:FHeap)(t:TypeId)(x k:AV)(ok:Bool):Option AV:=
 match E.und t with
 |some (.map kt et)=>bif b8w E kt&&b5q E kt k then
  match b4i h x,E.zero et,E.und et with
  |some (ks,vs),some z,some d=>match a3i (aeq E 6 kt) k ks 0 with
   |some (some i)=>match vs[i]? with
    |some v=>some (bif ok then .tuple [v,.bool true]else v)
    |none=>none
   |some none=>bif a2l d then some (bif ok then .tuple [.agg z,.bool false]else .agg z)else
    match z with
    | [v]=>some (bif ok then .tuple [v,.bool false]else v)
    |_=>none
   |none=>none
  |_,_,_=>none
  else none
 |_=>none
theorem c6p(r:HRel E.G I K ρ h w){x:AV}{ks vs:List AV}{c:Value}(ha:b4i h x=some (ks,vs))(hx:VRel I w ρ x c) :
 (c = .map none∧ks=[]∧vs=[])∨∃b es cl,c = .map (some b)∧w.heap[b]?=some (.map es cl)∧VRels I w ρ ks (es.toList.map (·.key))∧VRels I w ρ vs (es.toList.map (·.val)):=by
 unfold b4i at ha;split at ha
 ·cases ha;simp only[VRel]at hx;exact .inl ⟨hx,rfl,rfl⟩
 ·cases ha;simp only[VRel]at hx;obtain⟨b,es,rfl,_,he,h1,h2,_⟩:=hx;exact .inr ⟨b,es,_,rfl,he,VRels.noRef_any h1,VRels.noRef_any h2⟩
 ·rename_i b;split at ha
  case h_2=>cases ha
  rename_i m8 fC bs cl hb;cases ha;simp only[VRel]at hx;obtain⟨m,hm,rfl⟩:=hx;obtain⟨m',bz,_,_,ho⟩:=r.live b _ hb;obtain rfl:m=m':=z9o (hm.symm.trans bz);obtain⟨es,he,h1,h2,_⟩:=ho;exact .inr ⟨m.blk,es,cl,rfl,he,h1,h2⟩
 ·cases ha
theorem b6a(ok:EnvOk E){t:TypeId}{d:TypeDesc}{z:List AV}{zv:Value}(hd:E.und t=some d)(hz:E.zero t=some z)(gA:(zeroValue t).run E.P w = .ok zv w) :
 (a2l d=true→∃a,zv = .agg a)∧(a2l d=false→zv.cells = #[zv]):=by
 obtain⟨_,i,z',hi,js,_⟩:=ok.zero t z hz;have:zv=z':=by simp[zeroValue,typeInfo,hi,js]at gA;exact gA.symm
 subst this;exact ok.zshape t d i zv hd hi js
theorem c3b(ok:EnvOk E)(r:HRel E.G I K ρ h w){t:TypeId}{x k v:AV}{c ck:Value}{b:Bool}(hv:a28 E h t x k b=some v)(hx:VRel I w ρ x c)(hk:VRel I w ρ k ck) :
 Val E I K ρ h n w (Instr.lookup t c ck b) v .none:=by
 unfold a28 at hv;split at hv
 case h_2=>cases hv
 rename_i kt et hu;rw[cond_eq_ite]at hv;split at hv
 case isFalse=>cases hv
 rename_i dO;simp only[b46]at dO;split at hv
 case h_2=>cases hv
 rename_i ks vs z d hm hz hd;obtain⟨zv,gA,_,cO⟩:=a6p ok w hz;have fD:VRels I w ρ z zv.cells.toList:=VRels.noRef_any (cO I w);have kY:∃es:List MapEntry,((c = .map none∧es=[])∨∃b cl,c = .map (some b)∧w.heap[b]?=some (.map es.toArray cl))∧VRels I w ρ ks (es.map (·.key))∧VRels I w ρ vs (es.map (·.val)):=by
  rcases c6p r hm hx with ⟨rfl,rfl,rfl⟩|⟨b,es,cl,rfl,he,h1,h2⟩
  ·exact⟨[],.inl ⟨rfl,rfl⟩,by simp[VRels],by simp[VRels]⟩
  ·exact⟨es.toList,.inr ⟨b,cl,rfl,by simpa using he⟩,h1,h2⟩
 obtain⟨es,ac,eO,iH⟩:=kY;cases hf:a3i (aeq E 6 kt) k ks 0 with
 |none=>simp[hf]at hv
 |some ri=>
  obtain⟨ic,aq⟩:=b19 ok dO.1 hk hf eO;have fA:=b42 ok dO.1 hk dO.2 es.toArray.isEmpty;simp only[hf]at hv;cases ri with
  |some i=>
   simp only at hv;cases hvi:vs[i]? with
   |none=>simp[hvi]at hv
   |some v0=>
    simp only[hvi,Option.some.injEq]at hv;obtain⟨cv,bC,jK⟩:=VRels.get i iH hvi;have dB:((es[i]?).map (·.val)).getD undef=cv:=by rw[e2e]at bC;rw[bC];rfl
    refine Val.here (c:=if b then .tuple #[cv,.bool true]else cv) r ?_ ?_
    ·rcases ac with ⟨rfl,rfl⟩|⟨b',cl,rfl,he⟩
     ·simp at bC
     ·simp only[Instr.lookup,Sem.run_bind,a0k ok w hu,Result.andThen_ok,getObj,Sem.run,he,Sem.run_pure,fA,ic,e2a,dB]
    ·subst hv;cases b
     ·exact jK
     ·simp only[e3e,e78,VRel];exact⟨_,rfl,by simp only[VRels];exact⟨_,_,rfl,jK,_,_,rfl,by simp[VRel],rfl⟩⟩
  |none=>
   simp only at hv;have n3:(Instr.lookup t c ck b).run E.P w = .ok (if b then .tuple #[zv,.bool false]else zv) w:=by
    rcases ac with ⟨rfl,rfl⟩|⟨b',cl,rfl,he⟩
    ·simp only[Instr.lookup,Sem.run_bind,a0k ok w hu,Result.andThen_ok,Sem.run_pure,fA,ic,Option.map_none,gA]
    ·simp only[Instr.lookup,Sem.run_bind,a0k ok w hu,Result.andThen_ok,getObj,Sem.run,he,Sem.run_pure,fA,ic,Option.map_none,gA]
   have fin:∀v0,VRel I w ρ v0 zv→(bif b then AV.tuple [v0,.bool false]else v0)=v→Val E I K ρ h n w (Instr.lookup t c ck b) v .none:=by
    intro v0 h0 nB;refine Val.here r n3 ?_;subst nB;cases b
    ·exact h0
    ·simp only[e3e,e78,VRel];exact⟨_,rfl,by simp only[VRels];exact⟨_,_,rfl,h0,_,_,rfl,by simp[VRel],rfl⟩⟩
   rw[cond_eq_ite]at hv;split at hv
   ·rename_i eU;obtain⟨a,rfl⟩:=(b6a ok hd hz gA).1 eU;simp only[Option.some.injEq]at hv;exact fin (.agg z) (by simp only[VRel];exact⟨a,rfl,fD⟩) hv
   ·rename_i eU;split at hv
    case h_2=>cases hv
    rename_i v0 _;simp only[Option.some.injEq]at hv;have hc:=(b6a ok hd hz gA).2 (by simpa using eU);rw[hc]at fD;simp only[VRels]at fD;obtain⟨c0,pn,he,h0,_⟩:=fD;simp only[List.cons.injEq]at he;exact fin v0 (by rw[he.1];exact h0) hv
end
end Go.Ax
/- AxMap2: maps that are b0i. -/
namespace Go.Ax
section
variable {E:Env}{I K:Nat→Prop}{ρ:PMap}{h:FHeap}{n:Nat}{w:World}
def b4g(E:Env)(h:FHeap)(t:TypeId)(m k:AV):Option (Nat×List AV×List AV×List Nat×Nat×Option Nat):=
 match E.und t,m with
 |some (.map kt _),.map b=>bif b8w E kt&&b5q E kt k then
  match h b with
  |some (.map ks vs bs cl)=>match a3i (aeq E 6 kt) k ks 0 with
   |some (some i)=>match ks[i]? with
    |some k0=>bif d34 k0 k then some (b,ks,vs,bs,cl,some i)else none
    |none=>none
   |some none=>some (b,ks,vs,bs,cl,none)
   |none=>none
  |_=>none
  else none
 |_,_=>none
def a0c(E:Env)(h:FHeap)(t:TypeId)(m k v:AV):Option Eff:=
 match b4g E h t m k with
 |some (b,ks,vs,bs,cl,some i)=>some (.set b (.map ks (vs.set i v) bs cl))
 |some (b,ks,vs,bs,cl,none)=>some (.set b (.map (ks++[k]) (vs++[v]) (bs++[cl]) (cl+1)))
 |none=>none
theorem a4a{ks:List AV}{es:Array MapEntry}(i:Nat)(f:MapEntry→MapEntry)(hf:∀e,es[i]?=some e→(f e).key=e.key)(hk:VRels I w ρ ks (es.toList.map (·.key))) :
 VRels I w ρ ks ((es.modify i f).toList.map (·.key)):=by
 have:(es.modify i f).toList.map (·.key)=es.toList.map (·.key):=by
  apply List.ext_getElem?;intro j;simp only[e2e,e67,e5x];split
  ·rename_i hj;subst hj;cases he:es[i]? with
   |none=>simp
   |some e=>simp[hf e he]
  ·rfl
 rw[this];exact hk
theorem a62{vs:List AV}{v:AV}{c:Value}{es:Array MapEntry}(i:Nat)(f:MapEntry→MapEntry)(hf:∀e,(f e).val=c)(hv:VRel I w ρ v c)(hk:VRels I w ρ vs (es.toList.map (·.val))) :
 VRels I w ρ (vs.set i v) ((es.modify i f).toList.map (·.val)):=by
 have:(es.modify i f).toList.map (·.val)=(es.toList.map (·.val)).set i c:=by
  apply List.ext_getElem?;intro j;simp only[e2e,e67,e5x,List.getElem?_set,b41,e3i];split
  ·rename_i hj;subst hj;split
   ·rename_i aq;simp[aq,hf]
   ·rename_i aq;simp[Array.getElem?_eq_none (Nat.le_of_not_lt aq)]
  ·rfl
 rw[this];exact VRels.set i hk hv
theorem a86{es:Array MapEntry}(i:Nat)(f:MapEntry→MapEntry)(hf:∀e,(f e).born=e.born):(es.modify i f).toList.map (·.born)=es.toList.map (·.born):=by
 apply List.ext_getElem?;intro j;simp only[e2e,e67,e5x];split
 ·rename_i hj;subst hj;cases es[i]?<;>simp[hf]
 ·rfl
theorem a3e{b:Nat}{es:Array MapEntry}{cl:Nat}(o:Obj)(he:w.heap[b]?=some (.map es cl)):(setObj b o).run E.P w = .ok () { w with heap:=w.heap.setIfInBounds b o }:=by simp[setObj,Sem.run,he]
theorem a5b(r:HRel E.G I K ρ h w){b:Nat}{m:Pl}{o0:AObj}(hb:h b=some o0)(hm:ρ b=some m){es em:Array MapEntry}{cl iK:Nat}(he:w.heap[m.blk]?=some (.map es cl))
 {ks vs:List AV}{bs:List Nat}(hk:VRels I w ρ ks (em.toList.map (·.key)))(hv:VRels I w ρ vs (em.toList.map (·.val)))(qD:em.toList.map (·.born)=bs) :
 Stepped E.G I K ρ w I ρ (h.eff n (.set b (.map ks vs bs iK))) { w with heap:=w.heap.setIfInBounds m.blk (.map em iK) }:=by
 have aq:m.blk<w.heap.size:=(e54.1 he).1;obtain⟨m',bz,eu,_,_⟩:=r.live b _ hb;obtain rfl:m=m':=z9o (hm.symm.trans bz);have bX:∀c,c≠m.blk→({ w with heap:=w.heap.setIfInBounds m.blk (.map em iK) }:World).heap[c]?=w.heap[c]?:=by intro c hc;show(w.heap.setIfInBounds _ _)[c]?=_;rw[e56,e2i (λh=>hc h.symm)]
 have dm:∀c,I c→({ w with heap:=w.heap.setIfInBounds m.blk (.map em iK) }:World).heap[c]?=w.heap[c]?:=λc hc=>bX c (λe=>eu (e▸hc));refine a2c r hb hm (by simp) bX rfl rfl rfl ?_;refine⟨em,?_,VRels.mono (λ_ h=>h) dm ks (λ_ _ h=>h) hk,VRels.mono (λ_ h=>h) dm vs (λ_ _ h=>h) hv,qD⟩;show(w.heap.setIfInBounds _ _)[_]?=_;rw[e56,e3g rfl,e3g aq]
theorem b09(ok:EnvOk E)(r:HRel E.G I K ρ h w){t:TypeId}{m k:AV}{c ck:Value}{b cl:Nat}{ks vs:List AV}{bs:List Nat}{oi:Option Nat}
 (hp:b4g E h t m k=some (b,ks,vs,bs,cl,oi))(hm:VRel I w ρ m c)(hk:VRel I w ρ k ck) :
 ∃(pl:Pl) (es:Array MapEntry) (kt et:TypeId),c = .map (some pl.blk)∧h b=some (.map ks vs bs cl)∧ρ b=some pl∧w.heap[pl.blk]?=some (.map es cl)∧
  VRels I w ρ ks (es.toList.map (·.key))∧VRels I w ρ vs (es.toList.map (·.val))∧es.toList.map (·.born)=bs∧(underlying t).run E.P w = .ok (.map kt et) w∧E.und t=some (.map kt et)∧
  (Instr.checkKey false 10000 kt ck).run E.P w = .ok () w∧
  (Instr.findKey kt ck es.toList).run E.P w = .ok (oi.map λj=>(j,((es.toList[j]?).map (·.val)).getD undef)) w∧
  (∀i,oi=some i→∃e,es[i]?=some e∧e.key=ck∧Instr.sameBits 10000 e.key ck=true):=by
 unfold b4g at hp;split at hp
 case h_2=>cases hp
 rename_i kt et b' hu;rw[cond_eq_ite]at hp;split at hp
 case isFalse=>cases hp
 rename_i dO;simp only[b46]at dO;split at hp
 case h_2=>cases hp
 rename_i m8 fC uN iK hb;simp only[VRel]at hm;obtain⟨pl,eg,rfl⟩:=hm;obtain⟨m',bz,_,_,ho⟩:=r.live b' _ hb;obtain rfl:pl=m':=z9o (eg.symm.trans bz);obtain⟨es,he,h1,h2,h3⟩:=ho;have fA:=b42 (w:=w) ok dO.1 hk dO.2 false;split at hp
 ·rename_i i hf;split at hp
  case h_2=>cases hp
  rename_i k0 eR;rw[cond_eq_ite]at hp;split at hp
  case isFalse=>cases hp
  rename_i hs;cases hp;obtain⟨ic,aq⟩:=b19 ok dO.1 hk hf h1;obtain⟨cv,bC,jK⟩:=VRels.get i h1 eR;obtain⟨ew,mA⟩:=c8z hs jK hk;rw[e2e]at bC;cases jO:es.toList[i]? with
  |none=>rw[jO]at bC;cases bC
  |some e=>rw[jO]at bC;simp only[e2a,Option.some.injEq]at bC;refine⟨pl,es,kt,et,rfl,hb,eg,he,h1,h2,h3,a0k ok w hu,hu,fA,ic,?_⟩;intro i' kn;cases kn;exact⟨e,by simpa using jO,by rw[bC];exact ew,by rw[bC];exact mA⟩
 ·rename_i hf;cases hp;obtain⟨ic,aq⟩:=b19 ok dO.1 hk hf h1;exact⟨pl,es,kt,et,rfl,hb,eg,he,h1,h2,h3,a0k ok w hu,hu,fA,ic,λi hi=>by cases hi⟩
 ·cases hp
theorem b0a(ok:EnvOk E)(r:HRel E.G I K ρ h w){t:TypeId}{m k v:AV}{c ck cv:Value}{e:Eff}(hu:a0c E h t m k v=some e)(hm:VRel I w ρ m c)(hk:VRel I w ρ k ck)(hv:VRel I w ρ v cv) :
 d8c E I K ρ h n w (Instr.mapUpdate t c ck cv) e:=by
 unfold a0c at hu;split at hu
 ·rename_i b ks vs bs cl i hp;cases hu;obtain⟨pl,es,kt,et,rfl,hb,eg,he,h1,h2,h3,g9,_,fA,ic,hi⟩:=b09 ok r hp hm hk;obtain⟨e,jO,qs,mA⟩:=hi i rfl;refine⟨_,ρ,?_,a5b (em:=es.modify i λe=>{ e with key:=ck,val:=cv }) r hb eg he ?_ ?_ ?_,Moves.same _ _ _⟩
  ·have:((es[i]?).map (·.key)).getD ck=e.key:=by simp[jO]
   simp only[Instr.mapUpdate,Sem.run_bind,g9,Result.andThen_ok,getObj,Sem.run,he,fA,ic,e2a,this,Instr.keyThatStays,mA,e78,Sem.run_pure,a3e _ he]
  ·exact a4a i _ (λe' gK=>by rw[jO]at gK;cases gK;exact qs.symm) h1
  ·exact a62 i _ (λ_=>rfl) hv h2
  ·exact(a86 (es:=es) i (λe=>{ e with key:=ck,val:=cv }) (λ_=>rfl)).trans h3
 ·rename_i b ks vs bs cl hp;cases hu;obtain⟨pl,es,kt,et,rfl,hb,eg,he,h1,h2,h3,g9,_,fA,ic,_⟩:=b09 ok r hp hm hk;refine⟨_,ρ,?_,a5b (em:=es.push { key:=ck,val:=cv,born:=cl }) (iK:=cl+1) r hb eg he ?_ ?_ ?_,Moves.same _ _ _⟩
  ·simp only[Instr.mapUpdate,Sem.run_bind,g9,Result.andThen_ok,getObj,Sem.run,he,fA,ic,Option.map_none,a3e _ he]
  ·simp only[e6r,e3j,e2b,e3a];exact VRels.append h1 (by simp only[VRels];exact⟨_,_,rfl,hk,rfl⟩)
  ·simp only[e6r,e3j,e2b,e3a];exact VRels.append h2 (by simp only[VRels];exact⟨_,_,rfl,hv,rfl⟩)
  ·simp[h3]
 ·cases hu
def b9x(d:TypeDesc)(z:List AV):Option AV:=bif a2l d then some (.agg z)else match z with|[v]=>some v|_=>none
def b0b(E:Env)(h:FHeap)(t:TypeId)(m k:AV):Option (AV×Eff):=
 match b4g E h t m k with
 |some (b,ks,vs,bs,cl,some i)=>match vs[i]?,bs[i]? with
  |some v,some s=>some (.tuple [v,.int .i64 s],.set b (.map ks vs bs cl))
  |_,_=>none
 |some (b,ks,vs,bs,cl,none)=>match E.und t with
  |some (.map _ et)=>match E.zero et,E.und et with
   |some z,some d=>match b9x d z with
    |some v=>some (.tuple [v,.int .i64 cl],.set b (.map (ks++[k]) (vs++[v]) (bs++[cl]) (cl+1)))
    |none=>none
   |_,_=>none
  |_=>none
 |none=>none
theorem c79(ok:EnvOk E){t:TypeId}{d:TypeDesc}{z:List AV}{v:AV}(hd:E.und t=some d)(hz:E.zero t=some z)
 (hv:b9x d z=some v):∃zv,(∀w',(zeroValue t).run E.P w' = .ok zv w')∧∀I w' ρ,VRel I w' ρ v zv:=by
 obtain⟨_,i,z',hi,js,_,cO⟩:=ok.zero t z hz;have ac:∀w',(zeroValue t).run E.P w' = .ok z' w':=λw'=>by simp[zeroValue,typeInfo,hi,js]
 obtain⟨s1,s2⟩:=ok.zshape t d i z' hd hi js;refine⟨z',ac,λI w' ρ=>?_⟩;have fD:VRels I w' ρ z z'.cells.toList:=VRels.noRef_any (cO I w');unfold b9x at hv;rw[cond_eq_ite]at hv;split at hv
 ·rename_i eU;obtain⟨a,rfl⟩:=s1 eU;simp only[Option.some.injEq]at hv;subst hv;simp only[VRel];exact⟨a,rfl,fD⟩
 ·rename_i eU;split at hv
  case h_2=>cases hv
  cases hv;rw[s2 (by simpa using eU)]at fD;simp only[VRels]at fD;obtain⟨c0,pn,he,h0,_⟩:=fD;simp only[List.cons.injEq]at he;rw[he.1];exact h0
theorem b9o(ok:EnvOk E)(r:HRel E.G I K ρ h w){t:TypeId}{m k v:AV}{c ck:Value}{e:Eff}(hu:b0b E h t m k=some (v,e))(hm:VRel I w ρ m c)(hk:VRel I w ρ k ck) :
 Val E I K ρ h n w (Instr.mapEntry t c ck) v e:=by
 unfold b0b at hu;split at hu
 ·rename_i b ks vs bs cl i hp;split at hu
  case h_2=>cases hu
  rename_i v0 s nB hs;cases hu;obtain⟨pl,es,kt,et,rfl,hb,eg,he,h1,h2,h3,g9,_,fA,ic,hi⟩:=b09 ok r hp hm hk;obtain⟨e,jO,qs,mA⟩:=hi i rfl;obtain⟨cv,bC,jK⟩:=VRels.get i h2 nB;have aR:(es.toList.map (·.born))[i]?=some s:=by rw[h3];exact hs
  rw[e2e]at bC aR;have qt:es.toList[i]?=some e:=by simpa using jO
  rw[qt]at bC aR;simp only[e2a,Option.some.injEq]at bC aR;have step:=a5b (n:=n) (em:=es.modify i λe=>{ e with key:=ck }) (iK:=cl) r hb eg he (a4a i _ (λe' gK=>by rw[jO]at gK;cases gK;exact qs.symm) h1)
   (show VRels I w ρ vs _ by
    have:(es.modify i λe=>{ e with key:=ck }).toList.map (·.val)=es.toList.map (·.val):=by
     apply List.ext_getElem?;intro j;simp only[e2e,e67,e5x];split
     ·rename_i hj;subst hj;cases es[i]?<;>simp
     ·rfl
    rw[this];exact h2) ((a86 (es:=es) i (λe=>{ e with key:=ck }) (λ_=>rfl)).trans h3)
  refine⟨.tuple #[cv,goInt s],_,ρ,?_,step,?_,Moves.same _ _ _⟩
  ·have h5:((es[i]?).map (·.key)).getD ck=e.key:=by simp[jO]
   have h6:((es[i]?).map (λx=>(x.born:Int))).getD 0=s:=by simp[jO,aR]
   have h7:((es.toList[i]?).map (·.val)).getD undef=cv:=by simp[jO,bC]
   simp only[Instr.mapEntry,Sem.run_bind,g9,Result.andThen_ok,getObj,Sem.run,he,fA,ic,e2a,h5,h6,h7,Instr.keyThatStays,mA,e78,Sem.run_pure,a3e _ he]
  ·refine step.vrel ?_;simp only[VRel];exact⟨_,rfl,by simp only[VRels];exact⟨_,_,rfl,jK,_,_,rfl,by simp[VRel,goInt],rfl⟩⟩
 ·rename_i b ks vs bs cl hp;split at hu
  case h_2=>cases hu
  rename_i uA et nC;split at hu
  case h_2=>cases hu
  rename_i z d hz hd;split at hu
  case h_2=>cases hu
  rename_i v0 nB;cases hu;obtain⟨pl,es,kt,uK,rfl,hb,eg,he,h1,h2,h3,g9,jX,fA,ic,_⟩:=b09 ok r hp hm hk;rw[nC]at jX;simp only[Option.some.injEq,TypeDesc.map.injEq]at jX;obtain⟨rfl,rfl⟩:=jX;obtain⟨zv,gA,fD⟩:=c79 ok hd hz nB;have step:=a5b (n:=n) (em:=es.push { key:=ck,val:=zv,born:=cl }) (iK:=cl+1) (ks:=ks++[k]) (vs:=vs++[v0]) (bs:=bs++[cl]) r hb eg he
   (by simp only[e6r,e3j,e2b,e3a];exact VRels.append h1 (by simp only[VRels];exact⟨_,_,rfl,hk,rfl⟩))
   (by simp only[e6r,e3j,e2b,e3a];exact VRels.append h2 (by simp only[VRels];exact⟨_,_,rfl,fD _ _ _,rfl⟩)) (by simp[h3])
  refine⟨.tuple #[zv,goInt cl],_,ρ,?_,step,?_,Moves.same _ _ _⟩
  ·simp only[Instr.mapEntry,Sem.run_bind,g9,Result.andThen_ok,getObj,Sem.run,he,fA,ic,Option.map_none,gA,a3e _ he,Sem.run_pure]
  ·simp only[VRel];exact⟨_,rfl,by simp only[VRels];exact⟨_,_,rfl,fD _ _ _,_,_,rfl,by simp[VRel,goInt],rfl⟩⟩
 ·cases hu
def a4f(h:FHeap)(m s v:AV):Option Eff:=
 match m,s with
 |.map b,.int _ i=>match h b with
  |some (.map ks vs bs cl)=>match bs.findIdx? (λ(x:Nat)=>(x:Int)==i)with
   |some j=>some (.set b (.map ks (vs.set j v) bs cl))
   |none=>none
  |_=>none
 |_,_=>none
theorem b4w(r:HRel E.G I K ρ h w){t:TypeId}{m s v:AV}{c cs cv:Value}{e:Eff}(hu:a4f h m s v=some e)(hm:VRel I w ρ m c)(hs:VRel I w ρ s cs)(hv:VRel I w ρ v cv) :
 d8c E I K ρ h n w (Instr.entryStore t c cs cv) e:=by
 unfold a4f at hu;split at hu
 case h_2=>cases hu
 rename_i b kk i;split at hu
 case h_2=>cases hu
 rename_i ks vs bs cl hb;split at hu
 case h_2=>cases hu
 rename_i j hj;cases hu;simp only[VRel]at hm hs;obtain⟨pl,eg,rfl⟩:=hm;subst hs;obtain⟨m',bz,_,_,ho⟩:=r.live b _ hb;obtain rfl:pl=m':=z9o (eg.symm.trans bz);obtain⟨es,he,h1,h2,h3⟩:=ho;have tE:es.findIdx? (λe=>(e.born:Int)==i)=some j:=by rw[←h3,List.findIdx?_map]at hj;rw[show es.findIdx? (λe=>(e.born:Int)==i)=es.toList.findIdx? (λe=>(e.born:Int)==i) by cases es;simp];exact hj
 refine⟨_,ρ,?_,a5b (em:=es.modify j λe=>{ e with val:=cv }) r hb eg he ?_ ?_ ?_,Moves.same _ _ _⟩
 ·simp only[Instr.entryStore,Sem.run_bind,getObj,Sem.run,he,Result.andThen_ok,asInt,asIntOf,Sem.run_pure,tE,a3e _ he]
 ·exact a4a j _ (λ_ _=>rfl) h1
 ·exact a62 j _ (λ_=>rfl) hv h2
 ·exact(a86 (es:=es) j (λe=>{ e with val:=cv }) (λ_=>rfl)).trans h3
end
end Go.Ax
/- AxSet: sets of numbers: lookup, update, delete, ranging. -/
namespace Go.Ax
section
variable {E:Env}{I K:Nat→Prop}{ρ:PMap}{h:FHeap}{n:Nat}{w:World}
def oor{α:Type}(a b:Option α):Option α:=match a with
 |some x=>some x
 |none=>b
theorem a94{α:Type}{a b:Option α}{x:α}(h:oor a b=some x):a=some x∨b=some x:=by
 cases a with
 |none=>exact .inr h
 |some y=>exact .inl h
def d6v:Option TypeDesc→Bool
 |some (.int .i64)=>true
 |_=>false
def c5l:Option TypeDesc→Bool
 |some .bool=>true
 |_=>false
def c1n:Option (List AV)→Bool
 |some [.bool b]=>!b
 |_=>false
def b6j(E:Env)(t:TypeId):Bool:=match E.und t with
 |some (.map kt et)=>d6v (E.und kt)&&(c5l (E.und et)&&c1n (E.zero et))
 |_=>false
theorem b2q{t:TypeId}(hu:b6j E t=true):∃kt et,E.und t=some (.map kt et)∧E.und kt=some (.int .i64)∧E.und et=some .bool∧E.zero et=some [.bool false]:=by
 unfold b6j at hu;split at hu
 case h_2=>cases hu
 rename_i kt et he;simp only[b46]at hu;obtain⟨h1,h2,h3⟩:=hu;refine⟨kt,et,he,?_,?_,?_⟩
 ·unfold d6v at h1;split at h1
  ·assumption
  ·cases h1
 ·unfold c5l at h2;split at h2
  ·assumption
  ·cases h2
 ·unfold c1n at h3;split at h3
  ·rename_i b hb;cases b
   ·exact hb
   ·cases h3
  ·cases h3
section
variable {ks:List Int}{es:Array MapEntry}{cl:Nat}
theorem USet.key(hs:USet ks es cl){e:MapEntry}(he:e∈es.toList):∃y∈ks,e.key = .int .i64 y:=by have h1:=hs.1.mem_iff.1 (e5r (f:=(·.key)) he);obtain⟨y,hy,h2⟩:=e6q.1 h1;exact⟨y,hy,h2.symm⟩
theorem USet.has(hs:USet ks es cl){x:Int}(hx:x∈ks):∃e∈es.toList,e.key = .int .i64 x:=by have h1:=hs.1.mem_iff.2 (e5r (f:=Value.int .i64) hx);obtain⟨e,he,h2⟩:=e6q.1 h1;exact⟨e,he,h2⟩
theorem b76{a b:Int}(h:Value.int .i64 a=Value.int .i64 b):a=b:=by cases h;rfl
theorem USet.keys_nodup(hs:USet ks es cl):(es.toList.map (·.key)).Nodup:=by rw[hs.1.nodup_iff];exact List.Pairwise.map _ (λa b mX e=>mX (b76 e)) hs.2.2.1
theorem b3t(x:Int):∀(es:List MapEntry) (i:Nat),(∀e∈es,∃y,e.key = .int .i64 y)→
 (∃j e,es[j]?=some e∧e.key = .int .i64 x∧Instr.findNow (.int .i64) (.int .i64 x) es i=some (some (i+j,e.val)))∨
  ((∀e∈es,e.key≠ .int .i64 x)∧Instr.findNow (.int .i64) (.int .i64 x) es i=some none)
 | [],i,_=>.inr ⟨by simp,rfl⟩
 |e::es,i,h=>by
  obtain⟨y,hy⟩:=h e (by simp);by_cases lG:x=y
  ·subst lG;exact .inl ⟨0,e,rfl,hy,by simp[Instr.findNow,Instr.sameNow,hy]⟩
  ·have e1:Instr.findNow (.int .i64) (.int .i64 x) (e::es) i=Instr.findNow (.int .i64) (.int .i64 x) es (i+1):=by
    have hb:(x==y)=false:=by simpa using lG
    simp[Instr.findNow,Instr.sameNow,hy,hb]
   rcases b3t x es (i+1) (λe he=>h e (by simp[he]))with ⟨j,e',h1,h2,h3⟩|⟨h1,h2⟩
   ·exact .inl ⟨j+1,e',by simpa using h1,h2,by rw[e1,h3,show i+1+j=i+(j+1) by omega]⟩
   ·refine .inr ⟨?_,by rw[e1,h2]⟩;intro e' gK;rcases e3b.1 gK with rfl|gK
    ·rw[hy];exact λe=>lG (b76 e).symm
    ·exact h1 e' gK
theorem b6p(ok:EnvOk E){kt:TypeId}(hk:E.und kt=some (.int .i64))(hs:USet ks es cl)(x:Int) :
 (∃j e,es[j]?=some e∧e.key = .int .i64 x∧x∈ks∧(Instr.findKey kt (.int .i64 x) es.toList).run E.P w = .ok (some (j,.bool true)) w)∨
  (x∉ks∧(Instr.findKey kt (.int .i64 x) es.toList).run E.P w = .ok none w):=by
 rcases b3t x es.toList 0 (λe he=>by obtain⟨y,_,h⟩:=hs.key he;exact⟨y,h⟩)with ⟨j,e,h1,h2,h3⟩|⟨h1,h2⟩
 ·refine .inl ⟨j,e,by simpa using h1,h2,?_,?_⟩
  ·obtain⟨y,hy,h4⟩:=hs.key (e25 h1);rw[h2]at h4;rw[b76 h4];exact hy
  ·unfold Instr.findKey;simp only[Sem.run_bind,a0k ok w hk,Result.andThen_ok,h3,e55,hs.2.1 e (e25 h1),Sem.run_pure]
 ·refine .inr ⟨λhx=>?_,?_⟩
  ·obtain⟨e,he,h3⟩:=hs.has hx;exact h1 e he h3
  ·unfold Instr.findKey;simp only[Sem.run_bind,a0k ok w hk,Result.andThen_ok,h2,Sem.run_pure]
end
def b56(h:FHeap):AV→Option (List Int)
 |.iset ks=>some ks
 |.map b=>match h b with
  |some (.uset ks)=>some ks
  |_=>none
 |_=>none
theorem c40(r:HRel E.G I K ρ h w){x:AV}{ks:List Int}{c:Value}(hu:b56 h x=some ks)(hx:VRel I w ρ x c) :
 ∃b es cl,c = .map (some b)∧w.heap[b]?=some (.map es cl)∧USet ks es cl:=by
 unfold b56 at hu;split at hu
 ·cases hu;simp only[VRel]at hx;obtain⟨b,es,cl,rfl,_,he,hs⟩:=hx;exact⟨b,es,cl,rfl,he,hs⟩
 ·rename_i b;split at hu
  case h_2=>cases hu
  rename_i m8 hb;cases hu;simp only[VRel]at hx;obtain⟨m,hm,rfl⟩:=hx;obtain⟨m',bz,_,_,es,cl,he,hs⟩:=r.live b _ hb;obtain rfl:m=m':=z9o (hm.symm.trans bz);exact⟨m.blk,es,cl,rfl,he,hs⟩
 ·cases hu
/-! ### lookup -/
def b4j(E:Env)(h:FHeap)(t:TypeId)(x k:AV)(ok:Bool):Option AV:=match b56 h x,k with
 |some ks,.int .i64 i=>bif b6j E t then some (bif ok then .tuple [.bool (ks.contains i),.bool (ks.contains i)]else .bool (ks.contains i))else none
 |_,_=>none
theorem c6q(ok:EnvOk E)(r:HRel E.G I K ρ h w){t:TypeId}{x k v:AV}{c ck:Value}{b:Bool}(hv:b4j E h t x k b=some v)(hx:VRel I w ρ x c)(hk:VRel I w ρ k ck) :
 Val E I K ρ h n w (Instr.lookup t c ck b) v .none:=by
 unfold b4j at hv;split at hv
 case h_2=>cases hv
 rename_i ks i hu;rw[cond_eq_ite]at hv;split at hv
 case isFalse=>cases hv
 rename_i ht;obtain⟨kt,et,h1,h2,h3,h4⟩:=b2q ht;obtain⟨bb,es,cl,rfl,he,hs⟩:=c40 r hu hx;simp only[VRel]at hk;subst hk;have fA:=a3p (w:=w) ok (d:=.int .i64) rfl h2 es.isEmpty 9999 (.int .i64 i);have fin:∀q:Bool,(Instr.lookup t (.map (some bb)) (.int .i64 i) b).run E.P w = .ok (if b then .tuple #[.bool q,.bool q]else .bool q) w→ks.contains i=q→Val E I K ρ h n w (Instr.lookup t (.map (some bb)) (.int .i64 i) b) v .none:=by
  intro q ac hq;rw[hq]at hv;refine Val.here r ac ?_;cases b
  ·simp only[e3p,Option.some.injEq]at hv;subst hv;simp[VRel]
  ·simp only[e3e,Option.some.injEq]at hv;subst hv;simp only[e78,VRel];exact⟨_,rfl,by simp only[VRels];exact⟨_,_,rfl,by simp[VRel],_,_,rfl,by simp[VRel],rfl⟩⟩
 rcases b6p (w:=w) ok h2 hs i with ⟨j,e,g1,g2,g3,g4⟩|⟨g1,g2⟩
 ·refine fin true ?_ (by simpa using g3);simp only[Instr.lookup,Sem.run_bind,a0k ok w h1,Result.andThen_ok,getObj,Sem.run,he,Sem.run_pure,fA,g4]
 ·refine fin false ?_ (by simpa using g1);obtain⟨zv,gA,_,cO⟩:=a6p ok w h4;have fD:VRels I w ρ [.bool false] zv.cells.toList:=VRels.noRef_any (cO I w);rw[(b6a ok h3 h4 gA).2 rfl]at fD;simp only[VRels]at fD;obtain⟨c0,pn,lZ,h0,_⟩:=fD;simp only[List.cons.injEq]at lZ;rw[←lZ.1]at h0;simp only[VRel]at h0;subst h0;simp only[Instr.lookup,Sem.run_bind,a0k ok w h1,Result.andThen_ok,getObj,Sem.run,he,Sem.run_pure,fA,g2,gA]
/-! ### update -/
def d9e(x:Int):List Int→List Int
 | []=>[x]
 |y::l=>bif decide (x<y)then x::y::l else y::d9e x l
theorem b8z(x:Int):∀l:List Int,(d9e x l).Perm (x::l)
 | []=>e7b _
 |y::l=>by
  simp only[d9e,cond_eq_ite];split
  ·exact e7b _
  ·exact((b8z x l).cons y).trans (List.Perm.swap ..)
theorem b10{α:Type}(g:MapEntry→α){es:Array MapEntry}(i:Nat)(f:MapEntry→MapEntry)(hf:∀e,es[i]?=some e→g (f e)=g e):(es.modify i f).toList.map g=es.toList.map g:=by
 apply List.ext_getElem?;intro j;simp only[e2e,e67,e5x];split
 ·rename_i hj;subst hj;cases he:es[i]? with
  |none=>simp
  |some e=>simp[hf e he]
 ·rfl
theorem a67{ks:List Int}{es:Array MapEntry}{cl:Nat}:USet ks es cl↔(es.toList.map (·.key)).Perm (ks.map (Value.int .i64))∧(∀v∈es.toList.map (·.val),v = .bool true)∧ks.Nodup∧(es.toList.map (·.born)).Nodup∧∀b∈es.toList.map (·.born),b<cl:=by unfold USet;simp only[e6q,forall_exists_index,and_imp,forall_apply_eq_imp_iff₂]
theorem a5n(r:HRel E.G I K ρ h w){b:Nat}{m:Pl}{o0:AObj}(hb:h b=some o0)(hm:ρ b=some m){es em:Array MapEntry}{cl iK:Nat}(he:w.heap[m.blk]?=some (.map es cl)){ks:List Int}(hs:USet ks em iK) :
 Stepped E.G I K ρ w I ρ (h.eff n (.set b (.uset ks))) { w with heap:=w.heap.setIfInBounds m.blk (.map em iK) }:=by
 have aq:m.blk<w.heap.size:=(e54.1 he).1;have bX:∀c,c≠m.blk→({ w with heap:=w.heap.setIfInBounds m.blk (.map em iK) }:World).heap[c]?=w.heap[c]?:=by intro c hc;show(w.heap.setIfInBounds _ _)[c]?=_;rw[e56,e2i (λh=>hc h.symm)]
 refine a2c r hb hm (by simp) bX rfl rfl rfl ⟨em,iK,?_,hs⟩;show(w.heap.setIfInBounds _ _)[_]?=_;rw[e56,e3g rfl,e3g aq]
def b4u(E:Env)(h:FHeap)(t:TypeId)(m k v:AV):Option Eff:=match m,k,v with
 |.map b,.int .i64 i,.bool q=>match h b with
  |some (.uset ks)=>bif b6j E t&&q then some (.set b (.uset (bif ks.contains i then ks else d9e i ks)))else none
  |_=>none
 |_,_,_=>none
theorem c26(ok:EnvOk E)(r:HRel E.G I K ρ h w){t:TypeId}{m k v:AV}{c ck cv:Value}{e:Eff}(hu:b4u E h t m k v=some e)(hm:VRel I w ρ m c)(hk:VRel I w ρ k ck)(hv:VRel I w ρ v cv) :
 d8c E I K ρ h n w (Instr.mapUpdate t c ck cv) e:=by
 unfold b4u at hu;split at hu
 case h_2=>cases hu
 rename_i b i q;split at hu
 case h_2=>cases hu
 rename_i ks hb;rw[cond_eq_ite]at hu;split at hu
 case isFalse=>cases hu
 rename_i ht;simp only[b46]at ht;obtain⟨ht,rfl⟩:=ht;cases hu;obtain⟨kt,et,h1,h2,h3,h4⟩:=b2q ht;simp only[VRel]at hm hk hv;subst hk hv;obtain⟨pl,eg,rfl⟩:=hm;obtain⟨m',bz,_,_,es,cl,he,hs⟩:=r.live b _ hb;obtain rfl:pl=m':=z9o (eg.symm.trans bz);have fA:=a3p (w:=w) ok (d:=.int .i64) rfl h2 false 9999 (.int .i64 i);rcases b6p (w:=w) ok h2 hs i with ⟨j,e,g1,g2,g3,g4⟩|⟨g1,g2⟩
 ·have hc:ks.contains i=true:=by simpa using g3
  rw[hc,e3e];obtain⟨s1,s2,s3,s4,s5⟩:=a67.1 hs;have k1:(es.modify j λe=>{ e with key:=.int .i64 i,val:=.bool true }).toList.map (·.key)=es.toList.map (·.key):=b10 _ j _ (λe' gK=>by rw[g1]at gK;cases gK;exact g2.symm);have k2:(es.modify j λe=>{ e with key:=.int .i64 i,val:=.bool true }).toList.map (·.val)=es.toList.map (·.val):=b10 _ j _ (λe' gK=>(hs.2.1 e' (by simpa using Array.mem_of_getElem? gK)).symm);have k3:(es.modify j λe=>{ e with key:=.int .i64 i,val:=.bool true }).toList.map (·.born)=es.toList.map (·.born):=b10 _ j _ (λe' gK=>rfl);refine⟨_,ρ,?_,a5n (em:=es.modify j λe=>{ e with key:=.int .i64 i,val:=.bool true }) r hb eg he (a67.2 ⟨by rw[k1];exact s1,by rw[k2];exact s2,s3,by rw[k3];exact s4,by rw[k3];exact s5⟩),Moves.same _ _ _⟩;have h5:((es[j]?).map (·.key)).getD (.int .i64 i) = .int .i64 i:=by simp[g1,g2]
  have h6:Instr.sameBits 10000 (.int .i64 i) (.int .i64 i)=true:=by simp[Instr.sameBits]
  simp only[Instr.mapUpdate,Sem.run_bind,a0k ok w h1,Result.andThen_ok,getObj,Sem.run,he,fA,g4,h5,Instr.keyThatStays,h6,e78,Sem.run_pure,a3e _ he]
 ·have hc:ks.contains i=false:=by simpa using g1
  rw[hc,e3p];obtain⟨s1,s2,s3,s4,s5⟩:=a67.1 hs;have hp:=b8z i ks;refine⟨_,ρ,?_,a5n (em:=es.push { key:=.int .i64 i,val:=.bool true,born:=cl }) (iK:=cl+1) r hb eg he (a67.2 ⟨?_,?_,?_,?_,?_⟩),Moves.same _ _ _⟩
  ·simp only[Instr.mapUpdate,Sem.run_bind,a0k ok w h1,Result.andThen_ok,getObj,Sem.run,he,fA,g2,a3e _ he]
  ·rw[e6r,e3j];refine(List.perm_append_comm.trans ?_).trans (hp.map _).symm;simpa using s1
  ·intro v hv;rw[e6r,e3j]at hv;rcases e65.1 hv with h|h
   ·exact s2 v h
   ·simpa using h
  ·rw[hp.nodup_iff,e66];exact⟨g1,s3⟩
  ·rw[e6r,e3j,List.nodup_append];refine⟨s4,by simp,?_⟩;intro a ha b' bE;have:=s5 a ha;simp only[e2b,e3a,e3r]at bE;omega
  ·intro a ha;rw[e6r,e3j]at ha;rcases e65.1 ha with h|h
   ·have:=s5 a h;omega
   ·simp only[e2b,e3a,e3r]at h;omega
/-! ### delete -/
theorem b02{α:Type}:∀{l:List α} {j:Nat} {e:α},l[j]?=some e→(e::l.eraseIdx j).Perm l
 | [],j,e,h=>by simp at h
 |a::l,0,e,h=>by simp at h;subst h;exact e7b _
 |a::l,j+1,e,h=>by have ih:=b02 (l:=l) (j:=j) (e:=e) (by simpa using h);simp only[List.eraseIdx_cons_succ];exact(List.Perm.swap ..).trans (ih.cons a)
def c3f(E:Env)(h:FHeap)(t:TypeId)(m k:AV):Option Eff:=match m,k with
 |.map b,.int .i64 i=>match h b with
  |some (.uset ks)=>bif b6j E t then some (.set b (.uset (ks.filter λy=>!decide (y=i))))else none
  |_=>none
 |_,_=>none
theorem c98(ok:EnvOk E)(r:HRel E.G I K ρ h w){t sC:TypeId}{m k:AV}{c ck:Value}{e:Eff}(ty:TypeId)(hu:c3f E h t m k=some e)(hm:VRel I w ρ m c)(hk:VRel I w ρ k ck) :
 Val E I K ρ h n w (Builtin.delete_ #[t,sC] ty #[c,ck]) (.tuple []) e:=by
 unfold c3f at hu;split at hu
 case h_2=>cases hu
 rename_i b i;split at hu
 case h_2=>cases hu
 rename_i ks hb;rw[cond_eq_ite]at hu;split at hu
 case isFalse=>cases hu
 rename_i ht;cases hu;obtain⟨kt,et,h1,h2,h3,h4⟩:=b2q ht;simp only[VRel]at hm hk;subst hk;obtain⟨pl,eg,rfl⟩:=hm;obtain⟨m',bz,_,_,es,cl,he,hs⟩:=r.live b _ hb;obtain rfl:pl=m':=z9o (eg.symm.trans bz);have fA:=a3p (w:=w) ok (d:=.int .i64) rfl h2 es.isEmpty 9999 (.int .i64 i);have lJ:∀(w':World) (ρ':PMap),VRel I w' ρ' (.tuple []) (.tuple #[]):=λw' ρ'=>by simp only[VRel];exact⟨#[],rfl,by simp[VRels]⟩
 obtain⟨s1,s2,s3,s4,s5⟩:=a67.1 hs;rcases b6p (w:=w) ok h2 hs i with ⟨j,e,g1,g2,g3,g4⟩|⟨g1,g2⟩
 ·have hj:j<es.toList.length:=by simpa using(e54.1 g1).1
  have lz:(es.eraseIdxIfInBounds j).toList=es.toList.eraseIdx j:=by unfold Array.eraseIdxIfInBounds;rw[dif_pos (by simpa using hj)];simp
  have kb:(e::es.toList.eraseIdx j).Perm es.toList:=b02 (by simpa using g1);have nP:(i::ks.filter λy=>!decide (y=i)).Perm ks:=by
   refine(List.perm_ext_iff_of_nodup ?_ s3).2 λz=>?_
   ·rw[e66];exact⟨by simp,s3.filter _⟩
   ·simp only[e3b,List.mem_filter,e5i,decide_eq_false_iff_not];constructor
    ·rintro(rfl|h)
     ·exact g3
     ·exact h.1
    ·intro hz;by_cases q0:z=i
     ·exact .inl q0
     ·exact .inr ⟨hz,q0⟩
  refine⟨.tuple #[],_,ρ,?_,a5n (em:=es.eraseIdxIfInBounds j) (iK:=cl) r hb eg he (a67.2 ⟨?_,?_,?_,?_,?_⟩),lJ _ _,Moves.same _ _ _⟩
  ·have cW:(getObj pl.blk).run E.P w = .ok (.map es cl) w:=by simp[getObj,Sem.run,he]
   have bt:=a3e (E:=E) (.map (es.eraseIdxIfInBounds j) cl) he;simp[Builtin.delete_,a0k ok w h1,cW,fA,g4,bt]
  ·rw[lz];have h5:=(kb.map (·.key)).trans (s1.trans (nP.map (Value.int .i64)).symm);simp only[e2b,g2]at h5;exact h5.cons_inv
  ·intro v hv;rw[lz]at hv;exact s2 v ((kb.map (·.val)).subset (by simp only[e2b];exact List.mem_cons_of_mem _ hv))
  ·exact s3.filter _
  ·rw[lz];have:=(kb.map (·.born)).nodup_iff.2 s4;simp only[e2b,e66]at this;exact this.2
  ·intro v hv;rw[lz]at hv;exact s5 v ((kb.map (·.born)).subset (by simp only[e2b];exact List.mem_cons_of_mem _ hv))
 ·have hf:(ks.filter λy=>!decide (y=i))=ks:=List.filter_eq_self.2 λy hy=>by simp;rintro rfl;exact g1 hy
  rw[hf];refine⟨.tuple #[],_,ρ,?_,a5n (em:=es) (iK:=cl) r hb eg he hs,lJ _ _,Moves.same _ _ _⟩;have cW:(getObj pl.blk).run E.P w = .ok (.map es cl) w:=by simp[getObj,Sem.run,he]
  have bt:=a3e (E:=E) (.map es cl) he;simp[Builtin.delete_,a0k ok w h1,cW,fA,g2,bt]
end
end Go.Ax
/- AxSet2: ranging over a set of numbers. -/
namespace Go.Ax
section
variable {E:Env}{I K:Nat→Prop}{ρ:PMap}{h:FHeap}{n:Nat}{w:World}
def c1m:Option TypeDesc→Bool
 |some (.map _ _)=>true
 |_=>false
theorem b5s{d:Option TypeDesc}(h:c1m d=true):∃kt et,d=some (.map kt et):=by
 unfold c1m at h;split at h
 ·exact⟨_,_,rfl⟩
 ·cases h
def b4e(E:Env)(n:Nat)(t:TypeId)(x:AV):Option (AV×Eff):=match x with
 |.iset ks=>bif c1m (E.und t)then some (.ptr n 0 0,.new (.miter ks [] none))else none
 |.nilmap=>bif c1m (E.und t)then some (.ptr n 0 0,.new (.miter [] [] none))else none
 |_=>none
theorem c3a(ok:EnvOk E)(r:HRel E.G I K ρ h w)(hn:h n=none)(hρ:ρ n=none){t:TypeId}{x v:AV}{c:Value}{e:Eff}(ha:b4e E n t x=some (v,e))(hx:VRel I w ρ x c) :
 Val E I K ρ h n w (Instr.range t c) v e:=by
 unfold b4e at ha;split at ha
 ·rename_i ks;rw[cond_eq_ite]at ha;split at ha
  case isFalse=>cases ha
  rename_i hu;cases ha;obtain⟨kt,et,hu⟩:=b5s hu;simp only[VRel]at hx;obtain⟨b,es,cl,rfl,hI,he,hs⟩:=hx;have aq:b<w.heap.size:=(e54.1 he).1;refine⟨.pointer (some ⟨w.heap.size,0,none⟩),{ w with heap:=w.heap.push (.mapIter (some b) cl #[] cl) },ρ.set n ⟨w.heap.size,0,0,0⟩,?_,?_,?_,Moves.set _ _ _ rfl⟩
  ·simp[Instr.range,a0k ok w hu,getObj,Sem.run,he,newObj]
  ·refine a2d (ob:=.mapIter (some b) cl #[] cl) r hn hρ rfl rfl rfl rfl rfl ?_;refine⟨rfl,.inr ⟨b,es,cl,#[],hI,?_,hs,by simp,[],by simp,by simp,by simp⟩⟩;show(w.heap.push _)[b]?=_;rw[e5k,e2i (by omega)];exact he
  ·simp only[VRel];exact⟨_,by simp[PMap.set];rfl,by simp⟩
 ·rw[cond_eq_ite]at ha;split at ha
  case isFalse=>cases ha
  rename_i hu;cases ha;obtain⟨kt,et,hu⟩:=b5s hu;simp only[VRel]at hx;subst hx;refine⟨.pointer (some ⟨w.heap.size,0,none⟩),{ w with heap:=w.heap.push (.mapIter none 0 #[] 0) },ρ.set n ⟨w.heap.size,0,0,0⟩,?_,?_,?_,Moves.set _ _ _ rfl⟩
  ·simp[Instr.range,a0k ok w hu,newObj,Sem.run]
  ·exact a2d (ob:=.mapIter none 0 #[] 0) r hn hρ rfl rfl rfl rfl rfl ⟨rfl,.inl ⟨rfl,rfl,by simp⟩⟩
  ·simp only[VRel];exact⟨_,by simp[PMap.set];rfl,by simp⟩
 ·cases ha
def b1h(h:FHeap)(it:AV):Option AV:=match it with
 |.ptr b 0 0=>match h b with
  |some (.miter _ eh _)=>match eh.getLast? with
   |some i=>some (.tuple [.int .i64 i,.bool true])
   |none=>none
  |_=>none
 |_=>none
theorem c3e(r:HRel E.G I K ρ h w){it v:AV}{c:Value}(ha:b1h h it=some v)(hx:VRel I w ρ it c):Val E I K ρ h n w (Instr.entry c) v .none:=by
 unfold b1h at ha;split at ha
 case h_2=>cases ha
 rename_i b;split at ha
 case h_2=>cases ha
 rename_i ks eh eK hb;split at ha
 case h_2=>cases ha
 rename_i i hi;cases ha;simp only[VRel]at hx;obtain⟨m,hm,rfl⟩:=hx;obtain⟨m',bz,_,_,h0,ho⟩:=r.live b _ hb;obtain rfl:m=m':=z9o (hm.symm.trans bz);rcases ho with ⟨_,h2,_⟩|⟨c,es,cl,seen,hI,he,hs,nh,em,g1,g2,g3⟩
 ·rw[h2]at hi;cases hi
 ·have hl:(em.map (·.key)).getLast?=some (.int .i64 i):=by rw[g3,List.getLast?_map,hi];rfl
  rw[List.getLast?_map]at hl;cases aN:em.getLast? with
  |none=>rw[aN]at hl;cases hl
  |some e=>
   rw[aN]at hl;simp only[e2a,Option.some.injEq]at hl;have ou:=g1 e (List.mem_of_getLast? aN);have dD:seen.back?=some e.born:=by rw[←Array.getLast?_toList,←g2,List.getLast?_map,aN];rfl
   have oo:es.find? (λx=>x.born==e.born)=some e:=by
    rw[←Array.find?_toList];have dl:=hs.2.2.2.1;have:∀l:List MapEntry,(l.map (·.born)).Nodup→e∈l→l.find? (λx=>x.born==e.born)=some e:=by
     intro l
     induction l with
     |nil=>intro _ h;cases h
     |cons a l ih=>
      intro hn hm;simp only[e2b,e66]at hn;rcases e3b.1 hm with rfl|hm
      ·simp
      ·have aK:(a.born==e.born)=false:=by
        rw[e3o];intro h;exact hn.1 (h▸e5r (f:=(·.born)) hm)
       rw[List.find?_cons,aK];exact ih hn.2 hm
    exact this _ dl ou
   refine Val.here (c:=.tuple #[.int .i64 i,.bool true]) r ?_ ?_
   ·simp[Instr.entry,h0,getObj,Sem.run,nh,he,dD,oo,hl,hs.2.1 e ou]
   ·simp only[VRel];exact⟨_,rfl,by simp only[VRels];exact⟨_,_,rfl,by simp[VRel],_,_,rfl,by simp[VRel],rfl⟩⟩
theorem c0s(k:Nat)(hk:0<k):∃i d,i<k∧(choose (.mapNext k)).run E.P w = .ok i { w with drawn:=d }:=by
 simp only[choose,Sem.run];by_cases h:(Question.mapNext k).forced=true
 ·rw[e3g h];exact⟨0,w.drawn,hk,rfl⟩
 ·rw[e2i h];exact⟨_,w.drawn+1,Nat.mod_lt _ hk,rfl⟩
theorem c25{es:List MapEntry}{α:Type}(f:MapEntry→α)(hn:(es.map f).Nodup){a b:MapEntry}(ha:a∈es)(hb:b∈es)(h:f a=f b):a=b:=by
 induction es with
 |nil=>cases ha
 |cons x l ih=>
  simp only[e2b,e66]at hn;rcases e3b.1 ha with rfl|ha
  ·rcases e3b.1 hb with rfl|hb
   ·rfl
   ·exact absurd (h▸e5r (f:=f) hb) hn.1
  ·rcases e3b.1 hb with rfl|hb
   ·exact absurd (show f b∈l.map f from h▸e5r (f:=f) (by assumption)) hn.1
   ·exact ih hn.2 ha hb
theorem c85(r:HRel E.G I K ρ h w){b:Nat}{m:Pl}{ks eh:List Int}{eK:Option (Option Int)}(hb:h b=some (.miter ks eh eK))(hm:ρ b=some m)(ty:TypeId) :
 (∃i,i∈ks∧i∉eh∧∃w',(Instr.next (.pointer (some ⟨m.blk,0,none⟩)) false ty).run E.P w = .ok (.tuple #[.bool true,.int .i64 i,.bool true]) w'∧Stepped E.G I K ρ w I ρ (h.eff n (.set b (.miter ks (eh++[i]) none))) w')∨
  ((∀i∈ks,i∈eh)∧∃w',(Instr.next (.pointer (some ⟨m.blk,0,none⟩)) false ty).run E.P w = .ok (.tuple #[.bool false]) w'∧Stepped E.G I K ρ w I ρ (h.eff n (.set b (.miter ks eh none))) w'):=by
 obtain⟨m',bz,eu,_,h0,ho⟩:=r.live b _ hb;obtain rfl:m=m':=z9o (hm.symm.trans bz);rcases ho with ⟨h1,h2,h3⟩|⟨c,es,cl,seen,hI,he,hs,nh,em,g1,g2,g3⟩
 ·subst h1 h2;exact .inr ⟨by simp,w,by simp[Instr.next,getObj,Sem.run,h3],a2c r hb hm rfl (λ_ _=>rfl) rfl rfl rfl ⟨h0,.inl ⟨rfl,rfl,h3⟩⟩⟩
 ·have lY:(getObj m.blk).run E.P w = .ok (.mapIter (some c) cl seen cl) w:=by simp[getObj,Sem.run,nh]
  have lX:(getObj c).run E.P w = .ok (.map es cl) w:=by simp[getObj,Sem.run,he]
  have kC:∀e∈es,e.born<cl:=λe he=>hs.2.2.2.2 e (by simpa using he);have iB:(!seen.isEmpty && !es.isEmpty&&es.all (λe=>decide (e.born≥cl)))=false:=by
   rw[Bool.and_eq_false_iff];by_cases ou:es.isEmpty=true
   ·left;simp[ou]
   ·right;have aK:es≠ #[]:=by simpa using ou
    rw[←e5q,Array.all_eq_true_iff_forall_mem];intro aH;obtain⟨e,jP⟩:=Array.exists_mem_of_ne_empty es aK;have:=aH e jP;have:=kC e jP;simp only[e2d]at *;omega
  obtain⟨left,kl⟩:∃left,left=es.filter (λe=>!seen.contains e.born):=⟨_,rfl⟩
  have hY:∀e,e∈left↔e∈es∧e.born∉seen:=by intro e;rw[kl,Array.mem_filter];simp
  have a8:left.filter (λe=>decide (e.born<cl))=left:=by rw[Array.filter_eq_self];intro e hm;simpa using kC e ((hY e).1 hm).1
  have bu:left.filter (λe=>decide (e.born≥cl)) = #[]:=by rw[Array.filter_eq_empty_iff];intro e hm;have:=kC e ((hY e).1 hm).1;simp;omega
  have lM:∀e∈es,∀i,e.key = .int .i64 i→(e.born∈seen↔i∈eh):=by
   intro e jP i hi;have qa:=hs.2.2.2.1;have lq:=hs.keys_nodup;have lz:e∈es.toList:=by simpa using jP
   constructor
   ·intro h;have h1:e.born∈em.map (·.born):=by rw[g2];simpa using h
    obtain⟨e',gK,h2⟩:=e6q.1 h1;have:=c25 (·.born) qa (g1 e' gK) lz h2;subst this;have h3:=e5r (f:=(·.key)) gK;rw[g3,hi]at h3;obtain⟨j,hj,h4⟩:=e6q.1 h3;rw[b76 h4]at hj;exact hj
   ·intro h;have h1:Value.int .i64 i∈em.map (·.key):=by rw[g3];exact e5r h
    obtain⟨e',gK,h2⟩:=e6q.1 h1;have:=c25 (·.key) lq (g1 e' gK) lz (h2.trans hi.symm);subst this;have h3:=e5r (f:=(·.born)) gK;rw[g2]at h3;simpa using h3
  by_cases hl:left.isEmpty=true
  ·refine .inr ⟨λi hi=>?_,w,?_,a2c r hb hm rfl (λ_ _=>rfl) rfl rfl rfl ⟨h0,.inr ⟨c,es,cl,seen,hI,he,hs,nh,em,g1,g2,g3⟩⟩⟩
   ·obtain⟨e,jP,hk⟩:=hs.has hi;have jP:e∈es:=by simpa using jP
    refine(lM e jP i hk).1 (Decidable.byContradiction λhn=>?_);have:=(hY e).2 ⟨jP,hn⟩;have h0:left = #[]:=by simpa using hl
    rw[h0]at this;simp at this
   ·have h0:left = #[]:=by simpa using hl
    simp only[Instr.next,Sem.run_bind,lY,Result.andThen_ok,lX,iB,←kl,a8,bu];simp[h0,choose,Sem.run,Question.forced]
  ·have dX:0<left.size:=by
    rcases Nat.eq_zero_or_pos left.size with h|h
    ·exact absurd (by simpa using Array.eq_empty_of_size_eq_zero h) hl
    ·exact h
   obtain⟨ix,d,kO,tQ⟩:=c0s (E:=E) (w:=w) left.size dX;obtain⟨e,jP⟩:∃e,left[ix]?=some e:=⟨_,e73 kO⟩
   obtain⟨lA,jN⟩:=(hY e).1 (Array.mem_of_getElem? jP);obtain⟨i,hi,hk⟩:=hs.key (e:=e) (by simpa using lA);have dB:=hs.2.1 e (by simpa using lA);have ek:m.blk<w.heap.size:=(e54.1 nh).1;have tR:c≠m.blk:=λe=>eu (e▸hI);refine .inl ⟨i,hi,λhv=>jN ((lM e lA i hk).2 hv),{ w with heap:=w.heap.setIfInBounds m.blk (.mapIter (some c) cl (seen.push e.born) cl),drawn:=d },?_,?_⟩
   ·have bt:(setObj m.blk (.mapIter (some c) cl (seen.push e.born) cl)).run E.P { w with drawn:=d } = .ok () { w with heap:=w.heap.setIfInBounds m.blk (.mapIter (some c) cl (seen.push e.born) cl),drawn:=d }:=by
     simp[setObj,Sem.run,nh]
    have nd:left.isEmpty=false:=by simpa using hl
    simp only[Instr.next,Sem.run_bind,lY,Result.andThen_ok,lX,iB,←kl,a8,bu,nd,e5d,e76,Array.empty_append,Array.append_empty,Array.size_map,tQ,Array.getElem?_map,jP,e2a,bt,Sem.run_pure,hk,dB]
   ·refine a2c r hb hm (by simp) ?_ rfl rfl rfl ⟨h0,.inr ⟨c,es,cl,seen.push e.born,hI,?_,hs,?_,em++[e],?_,?_,?_⟩⟩
    ·intro x hx;show(w.heap.setIfInBounds _ _)[x]?=_;rw[e56,e2i (λh=>hx h.symm)]
    ·show(w.heap.setIfInBounds _ _)[c]?=_;rw[e56,e2i (λh=>tR h.symm)];exact he
    ·show(w.heap.setIfInBounds _ _)[_]?=_;rw[e56,e3g rfl,e3g ek]
    ·intro x hx;rcases e65.1 hx with h|h
     ·exact g1 x h
     ·simp only[e3r]at h;subst h;simpa using lA
    ·rw[e3j,g2,e6r];rfl
    ·rw[e3j,g3,e3j];simp[hk]
end
end Go.Ax
/- AxStr: ranging over a string. -/
namespace Go.Ax
section
variable {E:Env}{I K:Nat→Prop}{ρ:PMap}{h:FHeap}{n:Nat}{w:World}
def b4f(E:Env)(n:Nat)(t:TypeId)(x:AV):Option (AV×Eff):=
 match E.und t,x with
 |some .string,.str s=>some (.ptr n 0 0,.new (.siter s 0))
 |_,_=>none
theorem c6j(ok:EnvOk E)(r:HRel E.G I K ρ h w)(hn:h n=none)(hρ:ρ n=none){t:TypeId}{x v:AV}{c:Value}{e:Eff}(ha:b4f E n t x=some (v,e))(hx:VRel I w ρ x c) :
 Val E I K ρ h n w (Instr.range t c) v e:=by
 unfold b4f at ha;split at ha
 case h_2=>cases ha
 rename_i s hu;cases ha;simp only[VRel]at hx;obtain⟨tb,rfl,ht⟩:=hx;refine⟨.pointer (some ⟨w.heap.size,0,none⟩),{ w with heap:=w.heap.push (.stringIter tb 0) },ρ.set n ⟨w.heap.size,0,0,0⟩,?_,?_,?_,Moves.set _ _ _ rfl⟩
 ·simp[Instr.range,a0k ok w hu]
 ·refine a2d (ob:=.stringIter tb 0) r hn hρ rfl rfl rfl rfl rfl ?_;exact⟨rfl,tb,by simp,ht⟩
 ·simp only[VRel];exact⟨_,by simp[PMap.set];rfl,by simp⟩
def b1e(h:FHeap)(it:AV)(jU:Bool):Option (AV×Eff):=
 match it with
 |.ptr b 0 0=>bif jU then match h b with
  |some (.siter s pos)=>bif Nat.blt pos s.length then
   some (.tuple [.bool true,.int .i64 pos,.int .i32 (Utf8.decode ⟨s.toArray⟩ pos).1],.set b (.siter s (pos+(Utf8.decode ⟨s.toArray⟩ pos).2)))
   else some (.tuple [.bool false],.none)
  |_=>none
  else none
 |_=>none
theorem c93(r:HRel E.G I K ρ h w){it v:AV}{b:Bool}{c:Value}{e:Eff}(ty:TypeId)(ha:b1e h it b=some (v,e))(hx:VRel I w ρ it c) :
 Val E I K ρ h n w (Instr.next c b ty) v e:=by
 unfold b1e at ha;split at ha
 case h_2=>cases ha
 rename_i bb;rw[cond_eq_ite]at ha;split at ha
 case isFalse=>cases ha
 rename_i hs;subst hs;split at ha
 case h_2=>cases ha
 rename_i s pos hb;simp only[VRel]at hx;obtain⟨m,hm,rfl⟩:=hx;obtain⟨m',bz,eu,_,h0,tb,he,ht⟩:=r.live bb _ hb;obtain rfl:m=m':=z9o (hm.symm.trans bz);have lK:tb=⟨s.toArray⟩:=by cases tb;simp only[ByteArray.mk.injEq]at ht⊢;apply e6c;simpa using ht
 have bA:tb.size=s.length:=by rw[lK];simp[ByteArray.size]
 have cW:(getObj m.blk).run E.P w = .ok (.stringIter tb pos) w:=by simp[getObj,Sem.run,he]
 rw[cond_eq_ite]at ha;split at ha
 ·rename_i aq;simp only[e3f]at aq;cases ha;have ek:m.blk<w.heap.size:=(e54.1 he).1;refine⟨.tuple #[.bool true,goInt pos,.int .i32 (Utf8.decode tb pos).1],{ w with heap:=w.heap.setIfInBounds m.blk (.stringIter tb (pos+(Utf8.decode tb pos).2)) },ρ,?_,?_,?_,Moves.same _ _ _⟩
  ·have bt:(setObj m.blk (.stringIter tb (pos+(Utf8.decode tb pos).2))).run E.P w = .ok () { w with heap:=w.heap.setIfInBounds m.blk (.stringIter tb (pos+(Utf8.decode tb pos).2)) }:=by
    simp[setObj,Sem.run,he]
   simp only[Instr.next,h0,Nat.zero_mul,e5y,Sem.run_bind,cW,Result.andThen_ok];simp[bA,aq,bt]
  ·refine a2c r hb hm (by simp) ?_ rfl rfl rfl ?_
   ·intro c hc;show(w.heap.setIfInBounds _ _)[c]?=_;rw[e56,e2i (λh=>hc h.symm)]
   ·refine⟨h0,tb,?_,ht⟩;show(w.heap.setIfInBounds _ _)[_]?=_;rw[e56,e3g rfl,e3g ek,lK]
  ·simp only[VRel];exact⟨_,rfl,by simp only[VRels];exact⟨_,_,rfl,by simp[VRel],_,_,rfl,by simp[VRel,goInt],_,_,rfl,by simp[VRel,lK],rfl⟩⟩
 ·rename_i aq;cases ha;have aq:¬pos<s.length:=by simpa[e3f]using aq
  refine Val.here (c:=.tuple #[.bool false]) r ?_ ?_
  ·simp only[Instr.next,h0,Nat.zero_mul,e5y,Sem.run_bind,cW,Result.andThen_ok];simp[bA,aq]
  ·simp only[VRel];exact⟨_,rfl,by simp only[VRels];exact⟨_,_,rfl,by simp[VRel],rfl⟩⟩
end
end Go.Ax
/- AxAppZ: append of so many zero elements to nil (slices.Grow). -/
namespace Go.Ax
section
variable {E:Env}{I K:Nat→Prop}{ρ:PMap}{h:FHeap}{n:Nat}{w:World}
def a3j(E:Env)(n:Nat)(st xt:TypeId)(s x:AV):Option (AV×Eff):=match s,x with
 |.nilslice,.int _ l=>match E.und st,E.und xt with
  |some (.slice af),some dx=>bif a2s dx&&decide (0≤l)then match E.zero af with
   |some z=>bif Nat.blt 0 (E.sz af)then(match l.toNat with
    |0=>some (.nilslice,.none)
    |m+1=>bif a2j E af (m+1)then some (.slice n 0 (m+1) none,.new (.row (E.sz af) (List.replicate (m+1) z)))else none)else none
   |none=>none
   else none
  |_,_=>none
 |_,_=>none
theorem c0z{st xt:TypeId}{s x:AV}{r:AV×Eff}(h:a3j E n st xt s x=some r)(n':Nat)(hp:FHeap):a44 E hp n' st xt s x=none:=by
 unfold a3j at h;split at h
 case h_2=>cases h
 split at h
 case h_2=>cases h
 rename_i af dx hu ff;rw[cond_eq_ite]at h;split at h
 case isFalse=>cases h
 rename_i hc;simp only[b46]at hc;unfold a44;simp only[hu,ff,hc.1,Bool.true_or,e3e]
theorem c0y(ok:EnvOk E)(r:HRel E.G I K ρ h w)(hn:h n=none)(hρ:ρ n=none){st xt:TypeId}{s x v:AV}{e:Eff}{cs cx:Value}(ty:TypeId)
 (ha:a3j E n st xt s x=some (v,e))(hs:VRel I w ρ s cs)(hx:VRel I w ρ x cx):Val E I K ρ h n w (Builtin.append_ #[st,xt] ty #[cs,cx]) v e:=by
 unfold a3j at ha;split at ha
 case h_2=>cases ha
 rename_i k l;split at ha
 case h_2=>cases ha
 rename_i af dx hu ff;rw[cond_eq_ite]at ha;split at ha
 case isFalse=>cases ha
 rename_i hc;simp only[b46,e2d]at hc;obtain⟨lw,fx⟩:=hc;split at ha
 case h_2=>cases ha
 rename_i z hz;rw[cond_eq_ite]at ha;split at ha
 case isFalse=>cases ha
 rename_i bA;have bA:0<E.sz af:=by simpa[e3f]using bA
 obtain⟨⟨de,cq⟩,i',z',kn,js,k9,k8⟩:=ok.zero af z hz;have ij:∀w',(zeroValue af).run E.P w' = .ok z' w':=by intro w';simp[zeroValue,typeInfo,kn,js]
 have fk:z'.cells.toList.length=E.sz af:=by rw[←k9,VRels.length (k8 (λ_=>False) w)]
 obtain⟨i,hi,_,fh⟩:=b29 ok w cq;have iy:∀w',(typeInfo af).run E.P w' = .ok i w':=by intro w';have:=hi;simp[typeInfo,kn]at this⊢;exact this
 obtain⟨ki,rfl⟩:∃ki,dx = .int ki:=by cases dx<;>simp[a2s]at lw;exact⟨_,rfl⟩
 simp only[VRel]at hs hx;subst hs;subst hx;have rb:∀w',(underlying xt).run E.P w' = .ok (.int ki) w':=λw'=>a0k ok w' ff;have ra:∀w',(underlying st).run E.P w' = .ok (.slice af) w':=λw'=>a0k ok w' hu;have be:∀w',(sizeOf af).run E.P w' = .ok (E.sz af) w':=λw'=>a2z ok w' cq;obtain⟨m0,rfl⟩:∃m0:Nat,l=m0:=⟨l.toNat,by omega⟩
 rw[Int.toNat_natCast]at ha;have lw:∀(q:Nat) w',(asInt (.int k (q:Int))).run E.P w' = .ok (q:Int) w':=λq w'=>rfl;cases m0 with
 |zero=>
  cases ha;refine Val.here (c:=.slice none 0 0) r ?_ (by simp[VRel]);have fl:IntKind.i64.wrap ((0:Nat):Int)=0:=by rfl
  unfold Builtin.append_;simp only[e5v,e29,e51,Sem.run_bind,ra,Result.andThen_ok,be,rb,Sem.run_pure,e78,lw,fl];simp[iy]
 |succ m=>
  dsimp only at ha;rw[cond_eq_ite]at ha;split at ha
  case isFalse=>cases ha
  rename_i aJ;cases ha;have pR:=aJ;simp only[a2j,b46,e2d]at aJ;have sJ:IntKind.i64.wrap ((m+1:Nat):Int)=((m+1:Nat):Int):=b0j (by omega) (by omega);have bD:=a7u (e8:=m+1) (eW:=0) (by omega);have qS:¬(Builtin.nextslicecap (m+1) 0*i.bytes>2^48):=by rw[fh];have:Builtin.nextslicecap (m+1) 0*E.bytes af≤(2*(m+1)+192)*E.bytes af:=e5z _ bD;rw[Nat.mul_comm (2*(m+1)+192)]at this;omega
  have te:(m+1)*E.bytes af≤281474976710656:=by have:E.bytes af*(m+1)≤E.bytes af*(2*(m+1)+192):=Nat.mul_le_mul_left _ (by omega);rw[Nat.mul_comm];omega
  have qR:¬(((m+1:Nat):Int)*(i.bytes:Int)>2^48):=by
   rw[fh];have:((m+1:Nat):Int)*(E.bytes af:Int)=(((m+1)*E.bytes af:Nat):Int):=by simp
   rw[this];omega
  have dN:¬(((m+1:Nat):Int)<0):=by omega
  have kg:¬(((m+1:Nat):Int)>IntKind.i64.max):=by simp only[IntKind.max,IntKind.signed,IntKind.bits];simp;omega
  have aN:¬(m+1≤0):=by omega
  have tf:¬((m+1)*E.sz af=0):=Nat.mul_ne_zero (by omega) (by omega);generalize hcap2:m+1+(w.tape w.drawn (.appendCap (m+1) 0 af))%(2^63-(m+1))=bG;have a8:∀w',(Builtin.firstCells (E.sz af) 0 (.slice none 0 0)).run E.P w' = .ok #[] w':=λw'=>rfl;have ac:(Builtin.append_ #[st,xt] ty #[.slice none 0 0,.int k ((m+1:Nat):Int)]).run E.P w =
   .ok (.slice (some ⟨w.heap.size,0,none⟩) (m+1) bG) { w with drawn:=w.drawn+1,heap:=w.heap.push (.cells (Builtin.zeroCells z'.cells (m+1)++Builtin.zeroCells z'.cells (bG-(m+1))) af) }:=by
   unfold Builtin.append_;simp only[e5v,e29,e51,Sem.run_bind,ra,Result.andThen_ok,be,rb,Sem.run_pure,e78,lw,sJ,dN,e76,iy,qR];have jH:((m+1:Nat):Int).toNat=m+1:=rfl;simp only[jH,e55,aN,e76,Sem.run_bind,iy,Result.andThen_ok,kg,false_and,qS,run_choose,run_askRoom,Question.forced,Question.cut,a8,e6i,e5d,tf,ij,a3g,Sem.run_pure];rw[hcap2];simp
  have l9:m+1≤bG:=by omega
  have oS:∀q:Nat,(Builtin.zeroCells z'.cells q).size=q*E.sz af:=by
   intro q;rw[←e3i,a4i]
   induction q with
   |zero=>simp
   |succ q ih=>rw[e6p,e5h,e2f,ih,fk,e7e,Nat.add_comm]
  generalize bx:Builtin.zeroCells z'.cells (m+1)++Builtin.zeroCells z'.cells (bG-(m+1))=cells at ac;have kA:cells.size=bG*E.sz af:=by
   subst bx;rw[Array.size_append,oS,oS,←e6j]
   congr 1;omega
  have oU:∀c,I c→({ w with drawn:=w.drawn+1,heap:=w.heap.push (.cells cells af) }:World).heap[c]?=w.heap[c]?:=by intro c hc;have:=r.imm c hc;show(w.heap.push _)[c]?=_;rw[e5k,e2i (by omega)]
  have iu:({ w with drawn:=w.drawn+1,heap:=w.heap.push (.cells cells af) }:World).heap[w.heap.size]?=some (.cells cells af (0,0)):=by show(w.heap.push _)[_]?=_;simp
  have bt:=PMap.set_old (m:=⟨w.heap.size,0,E.sz af,cells.size⟩) hρ;have g8:∀x∈List.replicate (m+1) z,x.length=E.sz af:=λx hx=>by rw[e77 hx];exact k9
  have ho:ORel E.G I { w with drawn:=w.drawn+1,heap:=w.heap.push (.cells cells af) } (ρ.set n ⟨w.heap.size,0,E.sz af,cells.size⟩) ⟨w.heap.size,0,E.sz af,cells.size⟩ (.row (E.sz af) (List.replicate (m+1) z)):=by
   refine⟨rfl,bA,⟨cells,af,iu,rfl,?_⟩,?_⟩
   ·show 0+(List.replicate (m+1) z).length*E.sz af≤cells.size;rw[e74,kA,e55];exact e5z _ l9
   ·rw[VRows.iff];refine⟨g8,?_⟩;refine VAt.of_cells (cs:=(Builtin.zeroCells z'.cells (m+1)).toList) (CellsAt.of_heap iu (λj v hj=>?_)) ?_
    ·subst bx;have iY:=(e26.1 hj).1;simp only[e3i]at iY;rw[e55,e5s iY,←e67];exact hj
    ·rw[a4i];exact VRels.flatten_replicate (VRels.noRef_any (k8 I _)) _
  refine⟨_,_,ρ.set n ⟨w.heap.size,0,E.sz af,cells.size⟩,ac,?_,?_,Moves.set _ _ _ rfl⟩
  ·exact a2d (ob:=.cells cells af) r hn hρ rfl rfl rfl rfl rfl ho
  ·simp only[VRel];refine⟨_,bG,rfl,l9,(λq hq=>by cases hq),.inr ⟨_,by simp[PMap.set];rfl,by simp,?_⟩⟩;show 0+(0+bG)*E.sz af≤cells.size;rw[kA,e55,e55];exact e2c _
end
end Go.Ax
/- AxAop: one operation that calls no function of the program, on abstract values; that the model does just that. -/
namespace Go.Ax
set_option maxHeartbeats 200000000
section
variable {E:Env}{I K:Nat→Prop}{ρ:PMap}{h:FHeap}{n:Nat}{w:World}
def b4v(t:Bool)(a b:AV):AV:=
 match a,b with
 |.bool x,.bool y=>.bool (bif t then x else y)
 |a,b=>bif t then a else b
theorem c91{t:Bool}{a b:AV}{ca cb:Value}(ha:VRel I w ρ a ca)(hb:VRel I w ρ b cb):VRel I w ρ (b4v t a b) (if t then ca else cb):=by
 unfold b4v;split
 ·simp only[VRel]at ha hb;subst ha hb;cases t<;>simp[VRel]
 ·cases t<;>simpa
def b67:List (List AV)→Option (List UInt8)
 | []=>some []
 | [.int .u8 n]::r=>match b67 r with|some l=>some (UInt8.ofNat n.toNat::l)|none=>none
 |_::_=>none
def a8x(E:Env)(h:FHeap)(kL dst:TypeId)(x:AV):Option AV:=
 match E.und kL,E.und dst,x with
 |some (.slice _),some .string,.str _=>none
 |some (.slice e),some .string,x=>match E.und e with
  |some (.int .u8)=>match a3b h 1 x with
   |some aa=>match b67 aa with
    |some l=>some (.str l)
    |none=>none
   |none=>none
  |_=>none
 |_,_,x=>c9b E kL dst x
theorem b66:∀{aa:List (List AV)} {l:List UInt8} {cv:List Value} (bj:ByteArray),b67 aa=some l→VRels I w ρ aa.flatten cv→
 ∃s:ByteArray,(∀px:String,(forIn cv bj (λc s=>match c with
  |.int .u8 n=>pure (ForInStep.yield (s.push (UInt8.ofNat n.toNat)))
  |_=>do
   stuck px
   pure (ForInStep.yield s):Value→ByteArray→Sem (ForInStep ByteArray))).run E.P w = .ok s w)∧s.data.toList=bj.data.toList++l
 | [],l,cv,bj,ha,hv=>by simp only[b67,Option.some.injEq]at ha;subst ha;simp only[List.flatten_nil,VRels]at hv;subst hv;exact⟨bj,λ_=>by simp,by simp⟩
 |r::aa,l,cv,bj,ha,hv=>by
  unfold b67 at ha;split at ha
  ·rename_i h;cases h
  ·rename_i n r' he;cases he;split at ha
   case h_2=>cases ha
   rename_i l' hl;cases ha;simp only[e5h,b82,b43,VRels]at hv;obtain⟨c,cs,rfl,hc,dp⟩:=hv;simp only[VRel]at hc;subst hc;obtain⟨s,h1,h2⟩:=b66 (bj.push (UInt8.ofNat n.toNat)) hl dp;refine⟨s,λpx=>?_,?_⟩
   ·rw[List.forIn_cons];simp only[Sem.run_bind,Sem.run_pure,Result.andThen_ok];exact h1 px
   ·rw[h2];simp
  ·cases ha
theorem c6y(ok:EnvOk E)(r:HRel E.G I K ρ h w){kL dst:TypeId}{x v:AV}{c:Value}(hv:a8x E h kL dst x=some v)(hx:VRel I w ρ x c) :
 ∃d,(convert kL dst c).run E.P w = .ok d w∧VRel I w ρ v d:=by
 unfold a8x at hv;split at hv
 ·cases hv
 ·rename_i y e hs hd kM;split at hv
  case h_2=>cases hv
  rename_i he;split at hv
  case h_2=>cases hv
  rename_i aa hr;split at hv
  case h_2=>cases hv
  rename_i l hl;cases hv;obtain⟨ak,⟨cv,ac,cO⟩,hk⟩:=a4e r hr hx;obtain⟨s,h1,h2⟩:=b66 (E:=E) (w:=w) .empty hl cO;have il:=ac w ⟨rfl,rfl,rfl,rfl⟩;refine⟨.string s,?_,by simp only[VRel];exact⟨s,rfl,by simpa using h2⟩⟩;unfold a3b at hr;split at hr
  ·simp only[VRel]at hx;subst hx;cases hr;simp only[b67,Option.some.injEq]at hl;subst hl;have:s = .empty:=by
    cases s;simp only[e2h]at h2;have:=Array.toList_inj.1 h2;subst this;rfl
   subst this;simp[convert,a0k ok w hs,a0k ok w hd,a0k ok w he,Conv.bytesToString]
  ·simp only[VRel]at hx;obtain⟨a,cc,k,rfl,_⟩:=hx;rw[cond_eq_ite]at hr;split at hr
   case isFalse=>cases hr
   cases hr;simp only[Builtin.firstCells,Nat.mul_one]at il;simp only[convert,Sem.run_bind,a0k ok w hs,a0k ok w hd,a0k ok w he,Result.andThen_ok,Conv.bytesToString,il];rw[←Array.forIn_toList];exact(congrArg (λr=>r.andThen (λa w'=>(pure (Value.string a):Sem Value).run E.P w')) (h1 _)).trans rfl
  ·simp only[VRel]at hx;obtain⟨a,cc,rfl,_⟩:=hx;simp only[Builtin.lenOf,Sem.run_pure,Result.ok.injEq,and_true]at ak;rw[←ak]at il;simp only[Builtin.firstCells,Nat.mul_one]at il;simp only[convert,Sem.run_bind,a0k ok w hs,a0k ok w hd,a0k ok w he,Result.andThen_ok,Conv.bytesToString,il];rw[←Array.forIn_toList];exact(congrArg (λr=>r.andThen (λa w'=>(pure (Value.string a):Sem Value).run E.P w')) (h1 _)).trans rfl
  ·exact absurd rfl (kM _)
  ·cases hr
 ·exact c9a ok hv hx
def b5l(E:Env)(t:TypeId):AObj:=bif b6j E t then .uset []else .map [] [] [] 0
theorem b8g(r:HRel E.G I K ρ h w)(hn:h n=none)(hρ:ρ n=none){t:TypeId}{s:Sem Value}
 (hs:s.run E.P w = .ok (.map (some w.heap.size)) { w with heap:=w.heap.push (.map #[] 0) }):Val E I K ρ h n w s (.map n) (.new (b5l E t)):=by
 unfold b5l;cases b6j E t with
 |false=>exact d3c r hn hρ hs
 |true=>refine⟨_,_,ρ.set n ⟨w.heap.size,0,0,0⟩,hs,?_,by simp only[VRel];exact⟨_,by simp[PMap.set];rfl,rfl⟩,Moves.set _ _ _ rfl⟩;refine a2d (ob:=.map #[] 0) r hn hρ rfl rfl rfl rfl rfl ?_;exact⟨#[],0,by simp,by simp,by simp,by simp,by simp,by simp⟩
def c9d(E:Env)(n:Nat)(h:FHeap)(b:Builtin)(ts:List TypeId)(args:List AV):Option (AV×Eff):=
 match b,ts,args with
 |.len,[t],[x]=>(b9v E h t x).map (·,.none)
 |.cap,[t],[x]=>(e1w E t x).map (·,.none)
 |.append,[st,xt],[s,x]=>oor (a44 E h n st xt s x) (a3j E n st xt s x)
 |.copy,[dt,_],[d,x]=>c3g E h dt d x
 |.clear,[t],[x]=>b0d E h t x
 |.delete,[t,_],[m,k]=>(c3f E h t m k).map (.tuple [],·)
 |.min,_,x::xs=>(d4r x xs).map (·,.none)
 |.max,_,x::xs=>(d83 x xs).map (·,.none)
 |_,_,_=>none
def aop(E:Env)(n:Nat)(h:FHeap)(op:Op)(v:Operand→AV):Option (AV×Eff):=
 match op with
 |.move x=>some (v x,.none)
 |.assign x=>some (v x,.none)
 |.pick c a b=>match v c with
  |.bool t=>some (b4v t (v a) (v b),.none)
  |_=>none
 |.alloc t=>d3b E n t
 |.box _ x=>d3k n (v x)
 |.build t ps=>(b68 E t (ps.toList.map λp=>(p.1,v p.2))).map (·,.none)
 |.buildSlice t len ps=>a3c E n t len (ps.toList.map λp=>(p.1,v p.2))
 |.load t a=>(a7a E h t (v a)).map (·,.none)
 |.store t a x=>(a7f E h t (v a) (v x)).map (.tuple [],·)
 |.nilCheck x=>match v x with
  |.ptr b i o=>some (.ptr b i o,.none)
  |.iptr cs=>some (.iptr cs,.none)
  |.func (.func f) fs cs=>some (.func (.func f) fs cs,.none)
  |_=>none
 |.binOp op t x y _=>(b1i E op t (v x) (v y) (a41 x||a41 y)).map (·,.none)
 |.unOp op _ x=>(aun op (v x)).map (·,.none)
 |.convert s d x=>(a8x E h s d (v x)).map (·,.none)
 |.makeInterface t x=>match E.und t with
  |some (.interface _)=>none
  |some _=>some (.iface t (v x),.none)
  |none=>none
 |.makeFunc fn first cap=>some (.func fn (first.toList.map v) (cap.toList.map v),.none)
 |.makeMap t r=>match r with
  |none=>some (.map n,.new (b5l E t))
  |some x=>match E.und t,v x with
   |some (.map _ _),.int _ _=>some (.map n,.new (b5l E t))
   |_,_=>none
 |.makeSlice t l c=>a3x E n t (v l) (v c)
 |.slice t x lo hi mx=>(a3q E h t (v x) (lo.map v) (hi.map v) (mx.map v)).map (·,.none)
 |.fieldAddr s x f=>(a5a E s (v x) f).map (·,.none)
 |.field t x f=>(c6u E t (v x) f).map (·,.none)
 |.indexAddr t x ix=>(a1x E h t (v x) (v ix)).map (·,.none)
 |.index t x ix=>(b65 E t (v x) (v ix)).map (·,.none)
 |.lookup t x k ok=>(oor (a28 E h t (v x) (v k) ok) (b4j E h t (v x) (v k) ok)).map (·,.none)
 |.mapUpdate t m k x=>(oor (a0c E h t (v m) (v k) (v x)) (b4u E h t (v m) (v k) (v x))).map (.tuple [],·)
 |.insert t m k x=>(oor (a0c E h t (v m) (v k) (v x)) (b4u E h t (v m) (v k) (v x))).map (.tuple [],·)
 |.mapEntry t m k=>b0b E h t (v m) (v k)
 |.entryStore _ m s x=>(a4f h (v m) (v s) (v x)).map (.tuple [],·)
 |.extract t i=>match v t with
  |.tuple vs=>match vs[i]? with
   |some x=>some (x,.none)
   |none=>none
  |_=>none
 |.range t x=>oor (b4f E n t (v x)) (b4e E n t (v x))
 |.next it b=>b1e h (v it) b
 |.entry it=>(b1h h (v it)).map (·,.none)
 |.call { callee:=.builtin b,args,argTypes }=>c9d E n h b argTypes.toList (args.toList.map v)
 |_=>none
def OpOk(E:Env)(I K:Nat→Prop)(ρ:PMap)(h:FHeap)(n:Nat)(a:Act)(w:World)(o:Oper)(v:AV)(e:Eff):Prop:=∃x w' c ρ',(execOp a.eval o).run E.P w = .ok x w'∧(x = .value c∨(x = .skip∧c=undef))∧Stepped E.G I K ρ w I ρ' (h.eff n e) w'∧VRel I w' ρ' v c∧Moves ρ ρ' n e
theorem OpOk.val{a:Act}{o:Oper}{v:AV}{e:Eff}{s:Sem Value}(hs:execOp a.eval o=(do pure (.value (←s))))(hv:Val E I K ρ h n w s v e):OpOk E I K ρ h n a w o v e:=by obtain⟨c,w',ρ',h1,h2,h3,h4⟩:=hv;exact⟨.value c,w',c,ρ',by rw[hs];simp[h1],.inl rfl,h2,h3,h4⟩
theorem OpOk.done{a:Act}{o:Oper}{e:Eff}{s:Sem Unit}(hs:execOp a.eval o=(do s;pure .skip))(hv:d8c E I K ρ h n w s e):OpOk E I K ρ h n a w o (.tuple []) e:=by obtain⟨w',ρ',h1,h2,h4⟩:=hv;exact⟨.skip,w',undef,ρ',by rw[hs];simp[h1],.inr ⟨rfl,rfl⟩,h2,by simp only[VRel,undef];exact⟨#[],rfl,by simp[VRels]⟩,h4⟩
theorem a0g{α β:Type}{x:Option α}{f:α→β}{y:β}(h:x.map f=some y):∃a,x=some a∧f a=y:=by
 cases x with
 |none=>cases h
 |some a=>simp only[e2a,Option.some.injEq]at h;exact⟨a,rfl,h⟩
theorem a39{a:Act}{v:Operand→AV}(hv:∀x,VRel I w ρ (v x) (a.eval x)):∀l:List Operand,VRels I w ρ (l.map v) (l.map a.eval)
 | []=>by simp[VRels]
 |x::l=>by simp only[e2b,VRels];exact⟨_,_,rfl,hv x,a39 hv l⟩
theorem b35{a:Act}{v:Operand→AV}(hv:∀x,VRel I w ρ (v x) (a.eval x)):∀l:List (Nat×Operand),a56 I w ρ (l.map λp=>(p.1,v p.2)) (l.map λp=>(p.1,a.eval p.2))
 | []=>by simp[a56]
 |x::l=>by simp only[e2b,a56];exact⟨_,_,rfl,hv x.2,b35 hv l⟩
theorem b0y{a:Act}{v:Operand→AV}(hv:∀x,VRel I w ρ (v x) (a.eval x))(x:Option Operand):a2x I w ρ (x.map v) (x.map a.eval):=by
 cases x with
 |none=>simp[a2x]
 |some x=>simp only[e2a,a2x];exact⟨_,rfl,hv x⟩
theorem d3l(ok:EnvOk E)(r:HRel E.G I K ρ h w)(hn:h n=none)(hρ:ρ n=none){b:Builtin}{ts:List TypeId}{args:List AV}{ah:List Value}{v:AV}{e:Eff}(ty:TypeId)(pm:Array Bool)
 (ha:c9d E n h b ts args=some (v,e))(hv:VRels I w ρ args ah):∃s:Sem Value,builtin b ts.toArray ty pm ah.toArray=(do pure (.value (←s)))∧Val E I K ρ h n w s v e:=by
 unfold c9d at ha;split at ha
 ·simp only[VRels]at hv;obtain⟨c,_,rfl,hx,rfl⟩:=hv;obtain⟨a,h1,h2⟩:=a0g ha;cases h2;exact⟨_,rfl,d3d ok r ty h1 hx⟩
 ·simp only[VRels]at hv;obtain⟨c,_,rfl,hx,rfl⟩:=hv;obtain⟨a,h1,h2⟩:=a0g ha;cases h2;exact⟨_,rfl,d3i ok r ty h1 hx⟩
 ·simp only[VRels]at hv;obtain⟨c,_,rfl,hx,c2,_,rfl,hy,rfl⟩:=hv;refine⟨_,rfl,?_⟩;rcases a94 ha with ha|ha
  ·exact c3i ok r hn hρ ty ha hx hy
  ·exact c0y ok r hn hρ ty ha hx hy
 ·simp only[VRels]at hv;obtain⟨c,_,rfl,hx,c2,_,rfl,hy,rfl⟩:=hv;exact⟨_,rfl,c99 ok r ty ha hx hy⟩
 ·simp only[VRels]at hv;obtain⟨c,_,rfl,hx,rfl⟩:=hv;exact⟨_,rfl,c6z ok r ty ha hx⟩
 ·simp only[VRels]at hv;obtain⟨c,_,rfl,hx,c2,_,rfl,hy,rfl⟩:=hv;obtain⟨a,h1,h2⟩:=a0g ha;cases h2;exact⟨_,rfl,c98 ok r ty h1 hx hy⟩
 ·simp only[VRels]at hv;obtain⟨c,cs,rfl,hx,cP⟩:=hv;obtain⟨a,h1,h2⟩:=a0g ha;cases h2;obtain⟨d,h3,h4⟩:=c6n (E:=E) (w:=w) h1 hx cP;exact⟨_,rfl,Val.here r (by simpa[Builtin.min_]using h3) h4⟩
 ·simp only[VRels]at hv;obtain⟨c,cs,rfl,hx,cP⟩:=hv;obtain⟨a,h1,h2⟩:=a0g ha;cases h2;obtain⟨d,h3,h4⟩:=c6o (E:=E) (w:=w) h1 hx cP;exact⟨_,rfl,Val.here r (by simpa[Builtin.max_]using h3) h4⟩
 ·cases ha
theorem d0n(ok:EnvOk E)(r:HRel E.G I K ρ h w)(hn:h n=none)(hρ:ρ n=none){a:Act}{o:Oper}{v:Operand→AV}{x:AV}{e:Eff}(ha:aop E n h o.op v=some (x,e))
 (hv:∀x,VRel I w ρ (v x) (a.eval x)):OpOk E I K ρ h n a w o x e:=by
 obtain⟨dst,op,type,pos,after,guard⟩:=o;simp only at ha;unfold aop at ha;split at ha
 ·cases ha;exact⟨_,w,_,ρ,rfl,.inl rfl,Stepped.refl r,hv _,Moves.same _ _ _⟩
 ·cases ha;exact⟨_,w,_,ρ,rfl,.inl rfl,Stepped.refl r,hv _,Moves.same _ _ _⟩
 ·rename_i c p q;split at ha
  case h_2=>cases ha
  rename_i t hc;cases ha;have bC:=hv c;rw[hc]at bC;simp only[VRel]at bC;refine⟨.value (if t then a.eval p else a.eval q),w,_,ρ,?_,.inl rfl,Stepped.refl r,c91 (hv p) (hv q),Moves.same _ _ _⟩;simp[execOp,bC,asBool]
 ·exact OpOk.val rfl (d3a ok r hn hρ ha _)
 ·exact OpOk.val rfl (d3j r hn hρ ha (hv _))
 ·obtain⟨y,h1,h2⟩:=a0g ha;cases h2;rename_i t ps;have:=c70 (n:=n) ok r h1 (b35 hv ps.toList);refine OpOk.val (s:=Instr.build t (ps.toList.map λp=>(p.1,a.eval p.2)).toArray) ?_ this;show(do pure (Next.value (←Instr.build t (ps.map λ(i,x)=>(i,a.eval x)))))=_
  congr 2
  apply e6c;simp
 ·rename_i t len ps;have:=b4x (n:=n) ok r hn hρ ha (b35 hv ps.toList);refine OpOk.val (s:=Instr.buildSlice t len (ps.toList.map λp=>(p.1,a.eval p.2)).toArray) ?_ this;show(do pure (Next.value (←Instr.buildSlice t len (ps.map λ(i,x)=>(i,a.eval x)))))=_
  congr 2
  apply e6c;simp
 ·obtain⟨y,h1,h2⟩:=a0g ha;cases h2;exact OpOk.val rfl (c96 ok r h1 (hv _))
 ·obtain⟨y,h1,h2⟩:=a0g ha;cases h2;exact OpOk.done rfl (c6g ok r h1 (hv _) (hv _))
 ·rename_i y;have hy:=hv y;split at ha
  ·rename_i b i o hq;cases ha;rw[hq]at hy;have jV:=hy;simp only[VRel]at jV;obtain⟨m,hm,hc⟩:=jV;exact⟨.value (a.eval y),w,_,ρ,by simp[execOp,hc],.inl rfl,Stepped.refl r,hy,Moves.same _ _ _⟩
  ·rename_i cs hq;cases ha;rw[hq]at hy;have jV:=hy;simp only[VRel]at jV;obtain⟨b,off,hc,_⟩:=jV;exact⟨.value (a.eval y),w,_,ρ,by simp[execOp,hc],.inl rfl,Stepped.refl r,hy,Moves.same _ _ _⟩
  ·rename_i f fs cs hq;cases ha;rw[hq]at hy;have jV:=hy;simp only[VRel]at jV;obtain⟨di,aT,hc,_⟩:=jV;exact⟨.value (a.eval y),w,_,ρ,by simp[execOp,hc],.inl rfl,Stepped.refl r,hy,Moves.same _ _ _⟩
  ·cases ha
 ·obtain⟨y,h1,h2⟩:=a0g ha;cases h2;obtain⟨c,h3,h4⟩:=d3m (E:=E) (w:=w) ok h1 (hv _) (hv _);exact OpOk.val rfl (Val.here r h3 h4)
 ·obtain⟨y,h1,h2⟩:=a0g ha;cases h2;obtain⟨c,h3,h4⟩:=d7x (E:=E) (w:=w) h1 (hv _);exact OpOk.val rfl (Val.here r h3 h4)
 ·obtain⟨y,h1,h2⟩:=a0g ha;cases h2;obtain⟨c,h3,h4⟩:=c6y ok r h1 (hv _);exact OpOk.val rfl (Val.here r h3 h4)
 ·rename_i t y;split at ha
  ·cases ha
  ·rename_i d aK hd;cases ha;refine OpOk.val (s:=Instr.makeInterface t (a.eval y)) rfl (Val.here (c:=.iface t (a.eval y)) r ?_ (by simp only[VRel];exact⟨_,rfl,hv y⟩));simp only[Instr.makeInterface,Sem.run_bind,a0k ok w hd,Result.andThen_ok];cases d<;>first|rfl|(exact absurd rfl (aK _))
  ·cases ha
 ·rename_i fn first cap
  cases ha;refine OpOk.val (s:=Instr.makeFunc fn (first.map a.eval) (cap.map a.eval)) rfl (Val.here r rfl ?_);simp only[VRel];exact⟨_,_,rfl,by rw[e5t];exact a39 hv _,by rw[e5t];exact a39 hv _⟩
 ·rename_i t rr;split at ha
  ·cases ha;exact OpOk.val (s:=Instr.makeMap t none) rfl (b8g r hn hρ (by simp[Instr.makeMap]))
  ·rename_i y;split at ha
   case h_2=>cases ha
   rename_i hd hy;cases ha;have pD:=hv y;rw[hy]at pD;simp only[VRel]at pD;refine OpOk.val (s:=Instr.makeMap t (some (a.eval y))) rfl (b8g r hn hρ ?_);simp[Instr.makeMap,a0k ok w hd,pD,asInt,asIntOf]
 ·exact OpOk.val rfl (b7i ok r hn hρ ha (hv _) (hv _))
 ·obtain⟨y,h1,h2⟩:=a0g ha;cases h2;exact OpOk.val rfl (c6h ok r h1 (hv _) (b0y hv _) (b0y hv _) (b0y hv _))
 ·obtain⟨y,h1,h2⟩:=a0g ha;cases h2;exact OpOk.val rfl (b7m ok r h1 (hv _))
 ·obtain⟨y,h1,h2⟩:=a0g ha;cases h2;exact OpOk.val rfl (c6t ok r h1 (hv _))
 ·obtain⟨y,h1,h2⟩:=a0g ha;cases h2;exact OpOk.val rfl (b7k ok r h1 (hv _) (hv _))
 ·obtain⟨y,h1,h2⟩:=a0g ha;cases h2;exact OpOk.val rfl (c6s ok r h1 (hv _) (hv _))
 ·obtain⟨y,h1,h2⟩:=a0g ha;cases h2;rcases a94 h1 with h1|h1
  ·exact OpOk.val rfl (c3b ok r h1 (hv _) (hv _))
  ·exact OpOk.val rfl (c6q ok r h1 (hv _) (hv _))
 ·obtain⟨y,h1,h2⟩:=a0g ha;cases h2;rcases a94 h1 with h1|h1
  ·exact OpOk.done rfl (b0a ok r h1 (hv _) (hv _) (hv _))
  ·exact OpOk.done rfl (c26 ok r h1 (hv _) (hv _) (hv _))
 ·obtain⟨y,h1,h2⟩:=a0g ha;cases h2;rcases a94 h1 with h1|h1
  ·exact OpOk.done rfl (b0a ok r h1 (hv _) (hv _) (hv _))
  ·exact OpOk.done rfl (c26 ok r h1 (hv _) (hv _) (hv _))
 ·exact OpOk.val rfl (b9o ok r ha (hv _) (hv _))
 ·obtain⟨y,h1,h2⟩:=a0g ha;cases h2;exact OpOk.done rfl (b4w r h1 (hv _) (hv _) (hv _))
 ·rename_i t i;split at ha
  case h_2=>cases ha
  rename_i vs ht;split at ha
  case h_2=>cases ha
  rename_i y hy;cases ha;have ik:=hv t;rw[ht]at ik;simp only[VRel]at ik;obtain⟨cs,hc,dp⟩:=ik;obtain⟨c,fi,hr⟩:=VRels.get i dp hy;refine OpOk.val (s:=Instr.extract (a.eval t) i) rfl (Val.here (c:=c) r ?_ hr);have:cs[i]?=some c:=by simpa using fi
  simp[Instr.extract,hc,this]
 ·rcases a94 ha with ha|ha
  ·exact OpOk.val rfl (c6j ok r hn hρ ha (hv _))
  ·exact OpOk.val rfl (c3a ok r hn hρ ha (hv _))
 ·exact OpOk.val rfl (c93 r type ha (hv _))
 ·obtain⟨y,h1,h2⟩:=a0g ha;cases h2;exact OpOk.val rfl (c3e r h1 (hv _))
 ·rename_i b args ts;obtain⟨s,hs,dB⟩:=d3l (E:=E) ok r hn hρ type (args.map λ|.const _=>true|_=>false) ha (a39 hv args.toList);refine OpOk.val ?_ dB;have ht:ts.toList.toArray=ts:=by apply e6c;simp
  rw[ht]at hs;rw[←hs];have hm:(args.toList.map a.eval).toArray=args.map a.eval:=by apply e6c;simp
  rw[hm];rfl
 ·cases ha
end
end Go.Ax
/- AxRen: block numbers that are renamed; what is frozen. -/
namespace Go.Ax
section
variable {G:GTab (List AV)}{I K:Nat→Prop}{ρ ρ':PMap}{h h':FHeap}{w:World}
theorem HRel.rename(r:HRel G I K ρ h w){π:Nat→Option Nat}(hπ:∀b b' m,π b=some b'→ρ b=some m→ρ' b'=some m)
 (hh:∀b' o',h' b'=some o'→∃b o,h b=some o∧π b=some b'∧o'=a0t π o)(kx:∀b' m,ρ' b'=some m→m.blk<w.heap.size):HRel G I K ρ' h' w:={
 live b' o' bE:=by obtain⟨b,o,hb,hp,rfl⟩:=hh b' o' bE;obtain⟨m,h1,h2,h3,h4⟩:=r.live b o hb;exact⟨m,hπ b b' m hp h1,h2,h3,ORel.ren hπ o h4⟩
 inj b1 b2 m1 m2 h1 h2 jl hm2 he:=by obtain⟨o1,cH⟩:=e24.1 h1;obtain⟨o2,jx⟩:=e24.1 h2;obtain⟨c1,q1,mW,lP,_⟩:=hh b1 o1 cH;obtain⟨c2,q2,gD,pY,_⟩:=hh b2 o2 jx;obtain⟨n1,aY,_⟩:=r.live c1 q1 mW;obtain⟨n2,fG,_⟩:=r.live c2 q2 gD;have e1:=hπ c1 b1 n1 lP aY;have e2:=hπ c2 b2 n2 pY fG;rw[jl]at e1;rw[hm2]at e2;cases e1;cases e2;have:=r.inj c1 c2 _ _ (by simp[mW]) (by simp[gD]) aY fG he;subst this;rw[lP]at pY;exact z9o pY
 dom:=kx
 imm:=r.imm
 kept:=r.kept
 apart:=r.apart
 glob:=r.glob}
theorem Ext.keepLess{K':Nat→Prop}{w w':World}(e:Ext I K w w')(hK:∀c,K' c→K c):Ext I K' w w':=⟨e.os,e.tape,e.output,e.size,λc hc=>e.keep c (hc.imp id (hK c))⟩
/-! ### freezing -/
def d2g(m:Nat)(top:Bool)(d:AV→Option AV)(b:Nat)(v:AV):Option AV:=bif Nat.blt b m then(bif top then some v else none)else d v
mutual
def a4w(m:Nat)(top:Bool)(d:AV→Option AV):AV→Option AV
 |.ptr b i o=>d2g m top d b (.ptr b i o)
 |.slice b off len cap=>d2g m top d b (.slice b off len cap)
 |.map b=>d2g m top d b (.map b)
 |.yfn b=>bif top&&Nat.blt b m then some (.yfn b)else none
 |.func fn fs cs=>match a7i m top d fs,a7i m top d cs with
  |some fs,some cs=>some (.func fn fs cs)
  |_,_=>none
 |.iface t x=>match a4w m top d x with
  |some x=>some (.iface t x)
  |none=>none
 |.agg cs=>match a7i m top d cs with
  |some cs=>some (.agg cs)
  |none=>none
 |.tuple cs=>match a7i m top d cs with
  |some cs=>some (.tuple cs)
  |none=>none
 |.iptr cs=>some (.iptr cs)
 |.islice aa cap=>some (.islice aa cap)
 |.imap ks vs bs co=>some (.imap ks vs bs co)
 |.iset ks=>some (.iset ks)
 |.junk=>some .junk
 |.bool b=>some (.bool b)
 |.int k n=>some (.int k n)
 |.str s=>some (.str s)
 |.nilptr=>some .nilptr
 |.nilslice=>some .nilslice
 |.nilmap=>some .nilmap
 |.nilfunc=>some .nilfunc
 |.nilifc=>some .nilifc
def a7i(m:Nat)(top:Bool)(d:AV→Option AV):List AV→Option (List AV)
 | []=>some []
 |v::vs=>match a4w m top d v,a7i m top d vs with
  |some v,some vs=>some (v::vs)
  |_,_=>none
end
def c3m(m:Nat)(d:AV→Option AV):List (List AV)→Option (List (List AV))
 | []=>some []
 |r::rs=>match a7i m false d r,c3m m d rs with
  |some r,some rs=>some (r::rs)
  |_,_=>none
def a8w(h:FHeap)(m:Nat):Nat→AV→Option AV
 |0,_=>none
 |n+1,.ptr b i o=>match h b with
  |some (.row _ aa)=>match aa[i]? with
   |some r=>match a7i m false (a8w h m n) (r.drop o)with
    |some cs=>some (.iptr cs)
    |none=>none
   |none=>none
  |_=>none
 |n+1,.slice b off len cap=>match h b with
  |some (.row _ aa)=>bif Nat.ble (off+len) aa.length then
   match c3m m (a8w h m n) ((aa.drop off).take len)with
   |some rs=>some (.islice rs cap)
   |none=>none
   else none
  |_=>none
 |n+1,.map b=>match h b with
  |some (.map ks vs bs cl)=>match a7i m false (a8w h m n) ks,a7i m false (a8w h m n) vs with
   |some ks,some vs=>some (.imap ks vs bs cl)
   |_,_=>none
  |some (.uset ks)=>some (.iset ks)
  |_=>none
 |_+1,_=>none
def a3m(I:Nat→Prop)(ρ:PMap)(h:FHeap)(m:Nat):Nat→Prop:=λc=>I c∨∃b o p,m≤b∧h b=some o∧ρ b=some p∧p.blk=c
def c10(I':Nat→Prop)(I:Nat→Prop)(w:World)(ρ:PMap)(m:Nat)(d:AV→Option AV):Prop:=∀b v v' c,(v = .map b∨(∃i o,v = .ptr b i o)∨∃off len cap,v = .slice b off len cap)→m≤b→d v=some v'→VRel I w ρ v c→VRel I' w noP v' c
def PMap.below(ρ:PMap)(m:Nat)(top:Bool):PMap:=λb=>if top=true∧b<m then ρ b else none
theorem a6v{I I':Nat→Prop}{w:World}{ρ:PMap}(_:∀c,I c→I' c){v:AV}{c:Value}(h:VRel I' w noP v c):VRel I' w ρ v c:=VRel.mono (λ_ h=>h) (λ_ _=>rfl) v (λ_ _ h=>by simp[noP]at h) h
variable {I':Nat→Prop}{m:Nat}{top:Bool}{d:AV→Option AV}
mutual
theorem b16(hI:∀c,I c→I' c)(hd:c10 I' I w ρ m d):∀(v:AV) {v':AV} {c:Value},a4w m top d v=some v'→VRel I w ρ v c→VRel I' w (ρ.below m top) v' c
 |.ptr b i o,v',c,hf,hv=>by
  simp only[a4w,d2g]at hf;rw[cond_eq_ite]at hf;split at hf
  ·rename_i hb;rw[cond_eq_ite]at hf;split at hf
   case isFalse=>cases hf
   rename_i ht;cases hf;simp only[VRel]at hv⊢;obtain⟨p,hp,rfl⟩:=hv;exact⟨p,by simp only[PMap.below];rw[e3g ⟨ht,by simpa[e3f]using hb⟩];exact hp,rfl⟩
  ·rename_i hb;exact a6v (I:=I) hI (hd b _ _ _ (.inr (.inl ⟨i,o,rfl⟩)) (by simpa[e3f]using hb) hf hv)
 |.slice b off len cap,v',c,hf,hv=>by
  simp only[a4w,d2g]at hf;rw[cond_eq_ite]at hf;split at hf
  ·rename_i hb;rw[cond_eq_ite]at hf;split at hf
   case isFalse=>cases hf
   rename_i ht;cases hf;simp only[VRel]at hv⊢;obtain⟨a,cc,rfl,h1,h2,h3⟩:=hv;refine⟨a,cc,rfl,h1,h2,h3.imp id ?_⟩
   rintro⟨p,hp,rfl,hr⟩
   exact⟨p,by simp only[PMap.below];rw[e3g ⟨ht,by simpa[e3f]using hb⟩];exact hp,rfl,hr⟩
  ·rename_i hb;exact a6v (I:=I) hI (hd b _ _ _ (.inr (.inr ⟨off,len,cap,rfl⟩)) (by simpa[e3f]using hb) hf hv)
 |.map b,v',c,hf,hv=>by
  simp only[a4w,d2g]at hf;rw[cond_eq_ite]at hf;split at hf
  ·rename_i hb;rw[cond_eq_ite]at hf;split at hf
   case isFalse=>cases hf
   rename_i ht;cases hf;simp only[VRel]at hv⊢;obtain⟨p,hp,rfl⟩:=hv;exact⟨p,by simp only[PMap.below];rw[e3g ⟨ht,by simpa[e3f]using hb⟩];exact hp,rfl⟩
  ·rename_i hb;exact a6v (I:=I) hI (hd b _ _ _ (.inl rfl) (by simpa[e3f]using hb) hf hv)
 |.yfn b,v',c,hf,hv=>by
  simp only[a4w]at hf;rw[cond_eq_ite]at hf;split at hf
  case isFalse=>cases hf
  rename_i hb;cases hf;simp only[b46,e3f]at hb;simp only[VRel]at hv⊢;obtain⟨p,hp,rfl⟩:=hv;exact⟨p,by simp only[PMap.below];rw[e3g hb];exact hp,rfl⟩
 |.func fn fs cs,v',c,hf,hv=>by
  simp only[a4w]at hf;split at hf
  case h_2=>cases hf
  rename_i di aT h1 h2;cases hf;simp only[VRel]at hv⊢;obtain⟨a,b,rfl,h3,h4⟩:=hv;exact⟨a,b,rfl,a81 hI hd fs h1 h3,a81 hI hd cs h2 h4⟩
 |.iface t x,v',c,hf,hv=>by
  simp only[a4w]at hf;split at hf
  case h_2=>cases hf
  rename_i x' h1;cases hf;simp only[VRel]at hv⊢;obtain⟨a,rfl,h3⟩:=hv;exact⟨a,rfl,b16 hI hd x h1 h3⟩
 |.agg cs,v',c,hf,hv=>by
  simp only[a4w]at hf;split at hf
  case h_2=>cases hf
  rename_i aT h1;cases hf;simp only[VRel]at hv⊢;obtain⟨a,rfl,h3⟩:=hv;exact⟨a,rfl,a81 hI hd cs h1 h3⟩
 |.tuple cs,v',c,hf,hv=>by
  simp only[a4w]at hf;split at hf
  case h_2=>cases hf
  rename_i aT h1;cases hf;simp only[VRel]at hv⊢;obtain⟨a,rfl,h3⟩:=hv;exact⟨a,rfl,a81 hI hd cs h1 h3⟩
 |.iptr cs,v',c,hf,hv=>by simp only[a4w,Option.some.injEq]at hf;subst hf;exact a6v (I:=I) hI (VRel.mono (ρ:=noP) (ρ':=noP) hI (λ_ _=>rfl) _ (λ_ _ h=>h) (by simpa only[VRel]using hv))
 |.islice aa cap,v',c,hf,hv=>by simp only[a4w,Option.some.injEq]at hf;subst hf;exact a6v (I:=I) hI (VRel.mono (ρ:=noP) (ρ':=noP) hI (λ_ _=>rfl) _ (λ_ _ h=>h) (by simpa only[VRel]using hv))
 |.imap ks vs bs co,v',c,hf,hv=>by simp only[a4w,Option.some.injEq]at hf;subst hf;exact a6v (I:=I) hI (VRel.mono (ρ:=noP) (ρ':=noP) hI (λ_ _=>rfl) _ (λ_ _ h=>h) (by simpa only[VRel]using hv))
 |.iset ks,v',c,hf,hv=>by simp only[a4w,Option.some.injEq]at hf;subst hf;exact a6v (I:=I) hI (VRel.mono (ρ:=noP) (ρ':=noP) hI (λ_ _=>rfl) _ (λ_ _ h=>h) (by simpa only[VRel]using hv))
 |.junk,v',c,hf,hv=>by simp only[a4w,Option.some.injEq]at hf;subst hf;simp[VRel]
 |.bool b,v',c,hf,hv=>by simp only[a4w,Option.some.injEq]at hf;subst hf;simpa[VRel]using hv
 |.int k n,v',c,hf,hv=>by simp only[a4w,Option.some.injEq]at hf;subst hf;simpa[VRel]using hv
 |.str s,v',c,hf,hv=>by simp only[a4w,Option.some.injEq]at hf;subst hf;simpa[VRel]using hv
 |.nilptr,v',c,hf,hv=>by simp only[a4w,Option.some.injEq]at hf;subst hf;simpa[VRel]using hv
 |.nilslice,v',c,hf,hv=>by simp only[a4w,Option.some.injEq]at hf;subst hf;simpa[VRel]using hv
 |.nilmap,v',c,hf,hv=>by simp only[a4w,Option.some.injEq]at hf;subst hf;simpa[VRel]using hv
 |.nilfunc,v',c,hf,hv=>by simp only[a4w,Option.some.injEq]at hf;subst hf;simpa[VRel]using hv
 |.nilifc,v',c,hf,hv=>by simp only[a4w,Option.some.injEq]at hf;subst hf;simpa[VRel]using hv
theorem a81(hI:∀c,I c→I' c)(hd:c10 I' I w ρ m d):∀(vs:List AV) {fC:List AV} {cs:List Value},a7i m top d vs=some fC→VRels I w ρ vs cs→VRels I' w (ρ.below m top) fC cs
 | [],fC,cs,hf,hv=>by simp only[a7i,Option.some.injEq]at hf;subst hf;simpa[VRels]using hv
 |v::vs,fC,cs,hf,hv=>by
  simp only[a7i]at hf;split at hf
  case h_2=>cases hf
  rename_i v1 mh h1 h2;cases hf;simp only[VRels]at hv⊢;obtain⟨c,aT,rfl,h3,h4⟩:=hv;exact⟨c,aT,rfl,b16 hI hd v h1 h3,a81 hI hd vs h2 h4⟩
end
theorem a78(ρ:PMap)(m:Nat):ρ.below m false=noP:=by funext b;simp[PMap.below,noP]
theorem c0q(hI:∀c,I c→I' c)(hd:c10 I' I w ρ m d):∀(vs:List AV) {fC:List AV} {b off:Nat},a7i m false d vs=some fC→VAt I w ρ vs b off→VAt I' w noP fC b off
 | [],fC,b,off,hf,_=>by simp only[a7i,Option.some.injEq]at hf;subst hf;simp[VAt]
 |v::vs,fC,b,off,hf,hv=>by
  simp only[a7i]at hf;split at hf
  case h_2=>cases hf
  rename_i v1 mh h1 h2;cases hf;simp only[VAt]at hv⊢;obtain⟨⟨c,hc,h3⟩,h4⟩:=hv;have:=b16 hI hd v h1 h3;rw[a78]at this;exact⟨⟨c,hc,this⟩,c0q hI hd vs h2 h4⟩
theorem a99{m:Nat}{top:Bool}{d:AV→Option AV}:∀{vs fC:List AV},a7i m top d vs=some fC→fC.length=vs.length
 | [],fC,hf=>by simp only[a7i,Option.some.injEq]at hf;subst hf;rfl
 |v::vs,fC,hf=>by
  simp only[a7i]at hf;split at hf
  case h_2=>cases hf
  rename_i v1 mh h1 h2;cases hf;simp[a99 h2]
theorem c5s{k:Nat}(hI:∀c,I c→I' c)(hd:c10 I' I w ρ m d):∀(rs:List (List AV)) {gF:List (List AV)} {b off:Nat},c3m m d rs=some gF→VRows I w k ρ rs b off→VRows I' w k noP gF b off
 | [],gF,b,off,hf,_=>by simp only[c3m,Option.some.injEq]at hf;subst hf;simp[VRows]
 |r::rs,gF,b,off,hf,hv=>by
  simp only[c3m]at hf;split at hf
  case h_2=>cases hf
  rename_i v1 mh h1 h2;cases hf;simp only[VRows]at hv⊢;obtain⟨h3,h4,h5⟩:=hv;exact⟨by rw[a99 h1];exact h3,c0q hI hd r h1 h4,c5s hI hd rs h2 h5⟩
def c5r(m:Nat)(d:AV→Option AV):List (List AV)→Option (List (List AV))
 | []=>some []
 |r::rs=>match a7i m true d r,c5r m d rs with
  |some r',some gF=>some (r'::gF)
  |_,_=>none
theorem c1s(hI:∀c,I c→I' c)(hd:c10 I' I w ρ m d):∀(vs:List AV) {fC:List AV} {b off:Nat},a7i m true d vs=some fC→VAt I w ρ vs b off→VAt I' w (ρ.below m true) fC b off
 | [],fC,b,off,hf,_=>by simp only[a7i,Option.some.injEq]at hf;subst hf;simp[VAt]
 |v::vs,fC,b,off,hf,hv=>by
  simp only[a7i]at hf;split at hf
  case h_2=>cases hf
  rename_i v1 mh h1 h2;cases hf;simp only[VAt]at hv⊢;obtain⟨⟨c,hc,h3⟩,h4⟩:=hv;exact⟨⟨c,hc,b16 hI hd v h1 h3⟩,c1s hI hd vs h2 h4⟩
theorem c0p{k:Nat}(hI:∀c,I c→I' c)(hd:c10 I' I w ρ m d):∀(rs:List (List AV)) {gF:List (List AV)} {b off:Nat},c5r m d rs=some gF→VRows I w k ρ rs b off→VRows I' w k (ρ.below m true) gF b off
 | [],gF,b,off,hf,_=>by simp only[c5r,Option.some.injEq]at hf;subst hf;simp[VRows]
 |r::rs,gF,b,off,hf,hv=>by
  simp only[c5r]at hf;split at hf
  case h_2=>cases hf
  rename_i v1 mh h1 h2;cases hf;simp only[VRows]at hv⊢;obtain⟨h3,h4,h5⟩:=hv;exact⟨by rw[a99 h1];exact h3,c1s hI hd r h1 h4,c0p hI hd rs h2 h5⟩
theorem a98{m:Nat}{d:AV→Option AV}:∀{rs gF:List (List AV)},c5r m d rs=some gF→gF.length=rs.length
 | [],gF,hf=>by simp only[c5r,Option.some.injEq]at hf;subst hf;rfl
 |r::rs,gF,hf=>by
  simp only[c5r]at hf;split at hf
  case h_2=>cases hf
  rename_i v1 mh h1 h2;cases hf;simp[a98 h2]
theorem b3p{m:Nat}{d:AV→Option AV}:∀{rs gF:List (List AV)},c3m m d rs=some gF→gF.length=rs.length
 | [],gF,hf=>by simp only[c3m,Option.some.injEq]at hf;subst hf;rfl
 |r::rs,gF,hf=>by
  simp only[c3m]at hf;split at hf
  case h_2=>cases hf
  rename_i v1 mh h1 h2;cases hf;simp[b3p h2]
end
end Go.Ax
/- AxFrz: a result that is frozen, with the heap that is left. -/
namespace Go.Ax
section
variable {G:GTab (List AV)}{I K:Nat→Prop}{ρ:PMap}{h:FHeap}{w:World}{m:Nat}
theorem a58(r:HRel G I K ρ h w):∀n,c10 (a3m I ρ h m) I w ρ m (a8w h m n)
 |0=>by intro b v v' c _ _ hd _;simp[a8w]at hd
 |n+1=>by
  have ih:=a58 r n;have hI:∀c,I c→a3m I ρ h m c:=λc hc=>.inl hc;intro b v v' c hv hb hd hr;rcases hv with rfl|⟨i,o,rfl⟩|⟨off,len,cap,rfl⟩
  ·simp only[a8w]at hd;split at hd
   case h_3=>cases hd
   case h_2=>rename_i ks eF;cases hd;simp only[VRel]at hr⊢;obtain⟨p,hp,rfl⟩:=hr;obtain⟨p',fF,_,_,es,cl,he,hs⟩:=r.live b _ eF;obtain rfl:p=p':=z9o (hp.symm.trans fF);exact⟨p.blk,es,cl,rfl,.inr ⟨b,_,p,hb,eF,hp,rfl⟩,he,hs⟩
   rename_i ks vs bs cl eF;split at hd
   case h_2=>cases hd
   rename_i m8 fC h1 h2;cases hd;simp only[VRel]at hr⊢;obtain⟨p,hp,rfl⟩:=hr;obtain⟨p',fF,_,_,es,he,hk,pL,qD⟩:=r.live b _ eF;obtain rfl:p=p':=z9o (hp.symm.trans fF);have e1:=a81 hI ih ks h1 hk;have e2:=a81 hI ih vs h2 pL;rw[a78]at e1 e2;exact⟨p.blk,es,rfl,.inr ⟨b,_,p,hb,eF,hp,rfl⟩,he,e1,e2,qD⟩
  ·simp only[a8w]at hd;split at hd
   case h_2=>cases hd
   rename_i k aa eF;split at hd
   case h_2=>cases hd
   rename_i rr s6;split at hd
   case h_2=>cases hd
   rename_i cs h1;cases hd;simp only[VRel]at hr⊢;obtain⟨p,hp,rfl⟩:=hr;obtain⟨p',fF,_,_,hk,_,_,aD⟩:=r.live b _ eF;obtain rfl:p=p':=z9o (hp.symm.trans fF);obtain⟨ak,ey⟩:=VRows.get i aD s6;have kE:VAt I w ρ (rr.drop o) p.blk (p.off+i*k+o):=by
    by_cases ho:o≤rr.length
    ·exact VAt.drop o ho ey
    ·rw[e6x (by omega)];simp[VAt]
   rw[hk];exact⟨p.blk,_,rfl,.inr ⟨b,_,p,hb,eF,hp,rfl⟩,c0q hI ih _ h1 kE⟩
  ·simp only[a8w]at hd;split at hd
   case h_2=>cases hd
   rename_i k aa eF;rw[cond_eq_ite]at hd;split at hd
   case isFalse=>cases hd
   rename_i cG;rw[e5e]at cG;split at hd
   case h_2=>cases hd
   rename_i rs h1;cases hd;have ak:rs.length=len:=by rw[b3p h1];simp;omega
   simp only[VRel]at hr⊢;obtain⟨a,cc,rfl,aN,bD,dU⟩:=hr;obtain⟨p',fF,_,_,hk,_,_,aD⟩:=r.live b _ eF;refine⟨a,cc,k,by rw[ak],by rw[ak];exact aN,bD,?_⟩;rcases dU with rfl|⟨p,hp,rfl,_⟩
   ·left;exact e6e.1 (by omega)
   ·right;obtain rfl:p=p':=z9o (hp.symm.trans fF);refine⟨rfl,.inr ⟨b,_,p,hb,eF,hp,rfl⟩,?_⟩;have:=c5s hI ih _ h1 (VRows.take len (VRows.drop off (by omega) aD));rw[hk];exact this
theorem HRel.grow{I':Nat→Prop}(r:HRel G I K ρ h w)(hI:∀c,I c→I' c)(n4:∀b o m,h b=some o→ρ b=some m→¬I' m.blk)(hK:∀c,I' c→¬K c)(bA:∀c,I' c→c<w.heap.size) :
 HRel G I' K ρ h w:={
 live b o hb:=by obtain⟨m,h1,h2,h3,h4⟩:=r.live b o hb;exact⟨m,h1,n4 b o m hb h1,h3,ORel.mono o hI (λ_ _=>rfl) (λ_ _ h=>h) rfl h4⟩
 inj:=r.inj
 dom:=r.dom
 imm:=bA
 kept:=r.kept
 apart:=hK
 glob g cs hg:=⟨hI _ (r.glob g cs hg).1,GAt.mono hI (λ_ _=>rfl) cs (λ_ _ h=>h) rfl (r.glob g cs hg).2⟩}
def a1v(m:Nat):Nat→Option Nat:=λb=>bif Nat.blt b m then some b else none
theorem b00(r:HRel G I K ρ h w){n:Nat}{v v':AV}{c:Value}(hf:a4w m true (a8w h m n) v=some v')(hv:VRel I w ρ v c){h':FHeap}
 (hh:∀b o',h' b=some o'→∃o,b<m∧h b=some o∧o'=a0t (a1v m) o) :
 HRel G (a3m I ρ h m) K (ρ.below m true) h' w∧VRel (a3m I ρ h m) w (ρ.below m true) v' c:=by
 have hI:∀c,I c→a3m I ρ h m c:=λc hc=>.inl hc;refine⟨?_,b16 hI (a58 r n) v hf hv⟩;have r0:HRel G I K ρ (λb=>if b<m then h b else none) w:=r.fewer (λb o hb=>by
  split at hb
  ·exact hb
  ·cases hb)
 have r1:HRel G (a3m I ρ h m) K ρ (λb=>if b<m then h b else none) w:=by
  refine r0.grow hI ?_ ?_ ?_
  ·intro b o p hb hp;split at hb
   case isFalse=>cases hb
   rename_i aq;obtain⟨p',fF,eu,_,_⟩:=r.live b o hb;obtain rfl:p=p':=z9o (hp.symm.trans fF)
   rintro(hc|⟨b',o',q,bE,ep,hq,he⟩)
   ·exact eu hc
   ·have:=r.inj b b' p q (by simp[hb]) (by simp[ep]) hp hq he.symm;omega
  ·rintro c (hc|⟨b',o',q,bE,ep,hq,rfl⟩)
   ·exact r.apart c hc
   ·obtain⟨q',jv,_,gT,_⟩:=r.live b' o' ep;obtain rfl:q=q':=z9o (hq.symm.trans jv);exact gT
  ·rintro c (hc|⟨b',o',q,bE,ep,hq,rfl⟩)
   ·exact r.imm c hc
   ·exact r.dom b' q hq
 refine r1.rename (π:=a1v m) ?_ ?_ ?_
 ·intro b b' p hp hb;simp only[a1v]at hp;rw[cond_eq_ite]at hp;split at hp
  case isFalse=>cases hp
  rename_i aq;cases hp;simp only[PMap.below];rw[e3g ⟨trivial,by simpa[e3f]using aq⟩];exact hb
 ·intro b o' hb;obtain⟨o,aq,ho,rfl⟩:=hh b o' hb;refine⟨b,o,by rw[e3g aq];exact ho,?_,rfl⟩;simp only[a1v];rw[cond_eq_ite,e3g (by simpa[e3f]using aq)]
 ·intro b p hb;simp only[PMap.below]at hb;split at hb
  ·exact r.dom b p hb
  ·cases hb
def b9c(m:Nat)(d:AV→Option AV):AObj→AObj
 |.row k aa=>match c5r m d aa with
  |some cu=>.row k cu
  |none=>a0t (a1v m) (.row k aa)
 |o=>a0t (a1v m) o
theorem c8l(m:Nat)(d:AV→Option AV)(o:AObj):b9c m d o=a0t (a1v m) o∨∃k aa cu,o = .row k aa∧c5r m d aa=some cu∧b9c m d o = .row k cu:=by
 cases o with
 |row k aa=>
  cases hf:c5r m d aa with
  |none=>left;simp[b9c,hf]
  |some cu=>right;exact⟨k,aa,cu,rfl,hf,by simp[b9c,hf]⟩
 |_=>left;rfl
theorem c0r(r:HRel G I K ρ h w){n:Nat}{h':FHeap}(hh:∀b o',h' b=some o'→∃o,b<m∧h b=some o∧o'=b9c m (a8w h m n) o) :
 HRel G (a3m I ρ h m) K (ρ.below m true) h' w:=by
 have hI:∀c,I c→a3m I ρ h m c:=λc hc=>.inl hc;have h1:=(b00 (h':=λb=>if b<m then(h b).map (a0t (a1v m))else none) r (v:=.junk) (v':=.junk) (c:=.nilFunc) (n:=n) (m:=m) rfl (by simp[VRel]) (λb o' hb=>by
  split at hb
  case isFalse=>cases hb
  rename_i aq;cases hx:h b with
  |none=>rw[hx]at hb;cases hb
  |some o=>rw[hx]at hb;cases hb;exact⟨o,aq,rfl,rfl⟩)).1
 have low:∀b,(h' b).isSome→(if b<m then(h b).map (a0t (a1v m))else none).isSome:=by intro b hb;obtain⟨o',ho⟩:=e24.1 hb;obtain⟨o,aq,hx,_⟩:=hh b o' ho;rw[e3g aq,hx];rfl
 refine⟨?_,λb b' p p' hb bE=>h1.inj b b' p p' (low b hb) (low b' bE),h1.dom,h1.imm,h1.kept,h1.apart,h1.glob⟩;intro b o' hb;obtain⟨o,aq,hx,rfl⟩:=hh b o' hb;obtain⟨p,hp,qb,gT,hO⟩:=h1.live b (a0t (a1v m) o) (by simp only[e3g aq,hx,e2a]);refine⟨p,hp,qb,gT,?_⟩;rcases c8l m (a8w h m n) o with e|⟨k,aa,cu,rfl,hf,e⟩
 ·rw[e];exact hO
 ·rw[e];obtain⟨p',fF,_,_,hk,eR,⟨b6,el,nk,oE,qL⟩,aD⟩:=r.live b _ hx;have jL:ρ b=some p:=by
   simp only[PMap.below]at hp;rw[e3g ⟨trivial,aq⟩]at hp;exact hp
  obtain rfl:p=p':=z9o (jL.symm.trans fF);exact⟨hk,eR,⟨b6,el,nk,oE,by rw[a98 hf];exact qL⟩,c0p hI (a58 r n) aa hf aD⟩
end
end Go.Ax
