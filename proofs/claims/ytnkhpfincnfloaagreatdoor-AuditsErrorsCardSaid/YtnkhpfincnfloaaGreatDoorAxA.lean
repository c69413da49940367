/- AxCore: abstract values, abstract heap objects, and what they say of a world. No condition: definitions and their monotonicity. -/
import Derived.Orders
import Derived.Scope
import Derived.Laws.Sem
import Derived.Laws.CopyRow
import GoSem.Extern.Table
import Derived.Laws.Strings
import GoSem.Builtin.Append
import GoSem.Builtin.Len
import GoSem.Builtin.Cap
import GoSem.Builtin.Min
import GoSem.Builtin.Max
import GoSem.Builtin.Copy
import GoSem.Builtin.Clear
import GoSem.Instr.MapUpdate
import GoSem.Instr.MapEntry
import GoSem.Builtin.Delete
import GoSem.Instr.Range
import GoSem.Instr.Next
import GoSem.Instr.Entry
import GoSem.Dispatch
set_option linter.unusedSimpArgs false
set_option linter.unusedVariables false
namespace Go.Ax
inductive AV where
 |junk
 |bool (b:Bool)
 |int (k:IntKind)(n:Int)
 |str (s:List UInt8)
 |nilptr
 |nilslice
 |nilmap
 |nilfunc
 |nilifc
 |ptr (b i o:Nat)
 |iptr (cells:List AV)
 |slice (b off len:Nat)(cap:Option Nat)
 |islice (rows:List (List AV))(cap:Option Nat)
 |map (b:Nat)
 |imap (ks vs:List AV)(bs:List Nat)(clock:Nat)
 |iset (ks:List Int)
 |yfn (b:Nat)
 |func (fn:Fn)(first captured:List AV)
 |iface (t:TypeId)(v:AV)
 |agg (cells:List AV)
 |tuple (vs:List AV)
 deriving Inhabited
structure Pl where
 blk:Nat
 off:Nat
 k:Nat
 room:Nat
abbrev PMap:=Nat→Option Pl
def noP:PMap:=λ_=>none
def USet(ks:List Int)(es:Array MapEntry)(cl:Nat):Prop:=(es.toList.map (·.key)).Perm (ks.map (Value.int .i64))∧(∀e∈es.toList,e.val = .bool true)∧ks.Nodup∧(es.toList.map (·.born)).Nodup∧∀e∈es.toList,e.born<cl
mutual
def VRel(I:Nat→Prop)(w:World):PMap→AV→Value→Prop
 |_,.junk,_=>True
 |_,.bool b,v=>v = .bool b
 |_,.int k n,v=>v = .int k n
 |_,.str s,v=>∃t:ByteArray,v = .string t∧t.data.toList=s
 |_,.nilptr,v=>v = .pointer none
 |_,.nilslice,v=>v = .slice none 0 0
 |_,.nilmap,v=>v = .map none
 |_,.nilfunc,v=>v = .nilFunc
 |_,.nilifc,v=>v = .nilIface
 |ρ,.ptr b i o,v=>∃m,ρ b=some m∧v = .pointer (some ⟨m.blk,m.off+i*m.k+o,none⟩)
 |_,.iptr cs,v=>∃c off,v = .pointer (some ⟨c,off,none⟩)∧I c∧VAt I w noP cs c off
 |ρ,.slice b off len cap,v=>∃a c,v = .slice (some a) len c∧len≤c∧(∀n,cap=some n→c=n)∧
  (c=0∨∃m,ρ b=some m∧a=⟨m.blk,m.off+off*m.k,none⟩∧m.off+(off+c)*m.k≤m.room)
 |_,.islice rows cap,v=>∃a c k,v = .slice (some a) rows.length c∧rows.length≤c∧(∀n,cap=some n→c=n)∧
  (rows=[]∨(a.spot=none∧I a.block∧VRows I w k noP rows a.block a.off))
 |ρ,.map b,v=>∃m,ρ b=some m∧v = .map (some m.blk)
 |_,.imap ks vs bs clock,v=>∃c es,v = .map (some c)∧I c∧w.heap[c]?=some (.map es clock)∧
  VRels I w noP ks (es.toList.map (·.key))∧VRels I w noP vs (es.toList.map (·.val))∧es.toList.map (·.born)=bs
 |_,.iset ks,v=>∃c es cl,v = .map (some c)∧I c∧w.heap[c]?=some (.map es cl)∧USet ks es cl
 |ρ,.yfn b,v=>∃m,ρ b=some m∧v = .func (.yield m.blk) #[] #[]
 |ρ,.func fn fs cs,v=>∃fs' cs':Array Value,v = .func fn fs' cs'∧VRels I w ρ fs fs'.toList∧VRels I w ρ cs cs'.toList
 |ρ,.iface t x,v=>∃x',v = .iface t x'∧VRel I w ρ x x'
 |ρ,.agg cs,v=>∃cs':Array Value,v = .agg cs'∧VRels I w ρ cs cs'.toList
 |ρ,.tuple cs,v=>∃cs':Array Value,v = .tuple cs'∧VRels I w ρ cs cs'.toList
def VRels(I:Nat→Prop)(w:World):PMap→List AV→List Value→Prop
 |_,[],l=>l=[]
 |ρ,v::vs,l=>∃c cs,l=c::cs∧VRel I w ρ v c∧VRels I w ρ vs cs
def VAt(I:Nat→Prop)(w:World):PMap→List AV→Nat→Nat→Prop
 |_,[],_,_=>True
 |ρ,v::vs,b,off=>(∃c,w.cell? ⟨b,off,none⟩=some c∧VRel I w ρ v c)∧VAt I w ρ vs b (off+1)
def VRows(I:Nat→Prop)(w:World)(k:Nat):PMap→List (List AV)→Nat→Nat→Prop
 |_,[],_,_=>True
 |ρ,r::rs,b,off=>r.length=k∧VAt I w ρ r b off∧VRows I w k ρ rs b (off+k)
end
theorem cell?_congr{w w':World}{b o:Nat}(h:w'.heap[b]?=w.heap[b]?):w'.cell? ⟨b,o,none⟩=w.cell? ⟨b,o,none⟩:=by simp[World.cell?,h]
section
variable {I I':Nat→Prop}{w w':World}
mutual
theorem VRel.mono(hI:∀c,I c→I' c)(hw:∀c,I c→w'.heap[c]?=w.heap[c]?) :
 ∀{ρ ρ':PMap} (v:AV) {c:Value},(∀b m,ρ b=some m→ρ' b=some m)→VRel I w ρ v c→VRel I' w' ρ' v c
 |ρ,ρ',v,c,hρ,h=>by
  cases v with
  |junk=>simp[VRel]
  |bool b=>simpa[VRel]using h
  |int k n=>simpa[VRel]using h
  |str s=>simpa[VRel]using h
  |nilptr=>simpa[VRel]using h
  |nilslice=>simpa[VRel]using h
  |nilmap=>simpa[VRel]using h
  |nilfunc=>simpa[VRel]using h
  |nilifc=>simpa[VRel]using h
  |ptr b i o=>simp only[VRel]at h⊢;obtain⟨m,hm,rfl⟩:=h;exact⟨m,hρ b m hm,rfl⟩
  |iptr cs=>simp only[VRel]at h⊢;obtain⟨b,off,rfl,hb,h⟩:=h;exact⟨b,off,rfl,hI _ hb,VAt.mono hI hw cs (λ_ _ h=>h) (hw _ hb) h⟩
  |slice b off len cap=>
   simp only[VRel]at h⊢;obtain⟨a,n,rfl,h1,h2,h3⟩:=h;refine⟨a,n,rfl,h1,h2,h3.imp id ?_⟩
   rintro⟨m,hm,rfl,hr⟩
   exact⟨m,hρ b m hm,rfl,hr⟩
  |islice rows cap=>
   simp only[VRel]at h⊢;obtain⟨a,n,k,rfl,h1,h2,h3⟩:=h;refine⟨a,n,k,rfl,h1,h2,h3.imp id ?_⟩
   rintro⟨hs,hb,h⟩
   exact⟨hs,hI _ hb,VRows.mono hI hw rows (λ_ _ h=>h) (hw _ hb) h⟩
  |map b=>simp only[VRel]at h⊢;obtain⟨m,hm,rfl⟩:=h;exact⟨m,hρ b m hm,rfl⟩
  |imap ks vs bs clock=>simp only[VRel]at h⊢;obtain⟨b,es,rfl,hb,he,h1,h2,h3⟩:=h;exact⟨b,es,rfl,hI _ hb,by rw[hw _ hb,he],VRels.mono hI hw ks (λ_ _ h=>h) h1,VRels.mono hI hw vs (λ_ _ h=>h) h2,h3⟩
  |iset ks=>simp only[VRel]at h⊢;obtain⟨b,es,cl,rfl,hb,he,h1⟩:=h;exact⟨b,es,cl,rfl,hI _ hb,by rw[hw _ hb,he],h1⟩
  |yfn b=>simp only[VRel]at h⊢;obtain⟨m,hm,rfl⟩:=h;exact⟨m,hρ b m hm,rfl⟩
  |func fn fs cs=>simp only[VRel]at h⊢;obtain⟨fs',cs',rfl,h1,h2⟩:=h;exact⟨fs',cs',rfl,VRels.mono hI hw fs hρ h1,VRels.mono hI hw cs hρ h2⟩
  |iface t x=>simp only[VRel]at h⊢;obtain⟨x',rfl,h⟩:=h;exact⟨x',rfl,VRel.mono hI hw x hρ h⟩
  |agg cs=>simp only[VRel]at h⊢;obtain⟨cs',rfl,h⟩:=h;exact⟨cs',rfl,VRels.mono hI hw cs hρ h⟩
  |tuple cs=>simp only[VRel]at h⊢;obtain⟨cs',rfl,h⟩:=h;exact⟨cs',rfl,VRels.mono hI hw cs hρ h⟩
theorem VRels.mono(hI:∀c,I c→I' c)(hw:∀c,I c→w'.heap[c]?=w.heap[c]?) :
 ∀{ρ ρ':PMap} (vs:List AV) {cs:List Value},(∀b m,ρ b=some m→ρ' b=some m)→VRels I w ρ vs cs→VRels I' w' ρ' vs cs
 |ρ,ρ',[],cs,hρ,h=>by simpa[VRels]using h
 |ρ,ρ',v::vs,cs,hρ,h=>by simp only[VRels]at h⊢;obtain⟨c,cs',rfl,h1,h2⟩:=h;exact⟨c,cs',rfl,VRel.mono hI hw v hρ h1,VRels.mono hI hw vs hρ h2⟩
theorem VAt.mono(hI:∀c,I c→I' c)(hw:∀c,I c→w'.heap[c]?=w.heap[c]?) :
 ∀{ρ ρ':PMap} (vs:List AV) {b off:Nat},(∀b m,ρ b=some m→ρ' b=some m)→w'.heap[b]?=w.heap[b]?→VAt I w ρ vs b off→VAt I' w' ρ' vs b off
 |ρ,ρ',[],b,off,hρ,hb,h=>by simp[VAt]
 |ρ,ρ',v::vs,b,off,hρ,hb,h=>by simp only[VAt]at h⊢;obtain⟨⟨c,hc,h1⟩,h2⟩:=h;exact⟨⟨c,by rw[cell?_congr hb,hc],VRel.mono hI hw v hρ h1⟩,VAt.mono hI hw vs hρ hb h2⟩
theorem VRows.mono{k:Nat}(hI:∀c,I c→I' c)(hw:∀c,I c→w'.heap[c]?=w.heap[c]?) :
 ∀{ρ ρ':PMap} (rs:List (List AV)) {b off:Nat},(∀b m,ρ b=some m→ρ' b=some m)→w'.heap[b]?=w.heap[b]?→VRows I w k ρ rs b off→VRows I' w' k ρ' rs b off
 |ρ,ρ',[],b,off,hρ,hb,h=>by simp[VRows]
 |ρ,ρ',r::rs,b,off,hρ,hb,h=>by simp only[VRows]at h⊢;obtain⟨h0,h1,h2⟩:=h;exact⟨h0,VAt.mono hI hw r hρ hb h1,VRows.mono hI hw rs hρ hb h2⟩
end
end
end Go.Ax
/- AxRel: abstract heaps against worlds; what a step may change; renaming of block numbers. -/
namespace Go.Ax
inductive YSt where
 |ready
 |busy
 |done (id:Option Nat)
 deriving Inhabited,DecidableEq
structure RInfo where
 N:Nat
 ps:List Nat
 asg:Code
 body:Code
 fid:Nat
structure GTab(α:Type) where
 glob:Nat→Option α
 rnd:Nat→Option RInfo
instance {α:Type}:CoeFun (GTab α) (λ_=>Nat→Option α):=⟨GTab.glob⟩
def noRF:Code→Bool
 |.rangeFunc _ _ _ _=>false
 |.seq a b=>noRF a&&noRF b
 |.cond _ a b=>noRF a&&noRF b
 |.block _ b=>noRF b
 |.loop b=>noRF b
 |.scope b=>noRF b
 |_=>true
def jumpOf:Option Nat→Code
 |none=>.ret
 |some id=>.exit id
inductive AObj where
 |row (k:Nat)(rows:List (List AV))
 |map (ks vs:List AV)(bs:List Nat)(clock:Nat)
 |siter (s:List UInt8)(pos:Nat)
 |uset (ks:List Int)
 |miter (ks vis:List Int)(arm:Option (Option Int))
 |yloop (y:Nat)(F:List (Nat×AV))(st:YSt)
 |trow (t:Nat)(x:Bool)(k:Nat)(rows:List (List AV))
 deriving Inhabited
def slotF:List (Nat×AV)→Nat→AV
 | [],_=>.junk
 |(s,v)::r,t=>bif Nat.beq s t then v else slotF r t
def YRel(G:GTab (List AV))(I:Nat→Prop)(w:World)(ρ:PMap)(l:Nat)(y:Nat)(F:List (Nat×AV))(st:YSt):Prop:=
 ∃(ri:RInfo) (r:Loop),G.rnd y=some ri∧w.heap[l]?=some (.loop r)∧r.tmps.size=ri.N∧r.params.toList=ri.ps∧r.assign=ri.asg∧r.body=ri.body∧(∀s,VRel I w ρ (slotF F s) (r.tmps.getD s undef))∧
  (match st with
   |.ready=>r.state = .ready∧r.pending=none
   |.busy=>r.state = .busy
   |.done j=>r.state = .done∧r.pending=some (jumpOf j))
def Seen(es:Array MapEntry)(seen:Array Nat)(vis:List Int):Prop:=∃es':List MapEntry,(∀e∈es',e∈es.toList)∧es'.map (·.born)=seen.toList∧es'.map (·.key)=vis.map (Value.int .i64)
abbrev FHeap:=Nat→Option AObj
def ORel(G:GTab (List AV))(I:Nat→Prop)(w:World)(ρ:PMap)(m:Pl):AObj→Prop
 |.row k rows=>m.k=k∧0<k∧(∃arr e,w.heap[m.blk]?=some (.cells arr e (0,0))∧arr.size=m.room∧m.off+rows.length*k≤m.room)∧VRows I w k ρ rows m.blk m.off
 |.map ks vs bs clock=>∃es,w.heap[m.blk]?=some (.map es clock)∧VRels I w ρ ks (es.toList.map (·.key))∧VRels I w ρ vs (es.toList.map (·.val))∧es.toList.map (·.born)=bs
 |.siter s pos=>m.off=0∧∃t,w.heap[m.blk]?=some (.stringIter t pos)∧t.data.toList=s
 |.uset ks=>∃es cl,w.heap[m.blk]?=some (.map es cl)∧USet ks es cl
 |.miter ks vis _=>m.off=0∧((ks=[]∧vis=[]∧w.heap[m.blk]?=some (.mapIter none 0 #[] 0))∨
  ∃c es cl seen,I c∧w.heap[c]?=some (.map es cl)∧USet ks es cl∧w.heap[m.blk]?=some (.mapIter (some c) cl seen cl)∧Seen es seen vis)
 |.yloop y F st=>YRel G I w ρ m.blk y F st
 |.trow t x k rows=>m.off=0∧m.k=k∧0<k∧(∃arr,w.heap[m.blk]?=some (.cells arr t (0,0))∧arr.size=m.room∧rows.length*k≤m.room∧(x=true→m.room=rows.length*k))∧VRows I w k ρ rows m.blk 0
def GAt(I:Nat→Prop)(w:World)(cs:List AV)(g:Nat):Prop:=VAt I w noP cs g 0∧(cs≠[]→w.cell? ⟨g,cs.length,none⟩=none)
theorem GAt.mono{I I':Nat→Prop}{w w':World}(hI:∀c,I c→I' c)(hw:∀c,I c→w'.heap[c]?=w.heap[c]?)(cs:List AV){g:Nat}(hρ:∀(b:Nat) (m:Pl),noP b=some m→noP b=some m)(hb:w'.heap[g]?=w.heap[g]?)(h:GAt I w cs g):GAt I' w' cs g:=⟨VAt.mono hI hw cs hρ hb h.1,λhn=>by rw[cell?_congr hb];exact h.2 hn⟩
structure HRel(G:GTab (List AV))(I K:Nat→Prop)(ρ:PMap)(h:FHeap)(w:World):Prop where
 live:∀b o,h b=some o→∃m,ρ b=some m∧¬I m.blk∧¬K m.blk∧ORel G I w ρ m o
 inj:∀b b' m m',(h b).isSome→(h b').isSome→ρ b=some m→ρ b'=some m'→m.blk=m'.blk→b=b'
 dom:∀b m,ρ b=some m→m.blk<w.heap.size
 imm:∀c,I c→c<w.heap.size
 kept:∀c,K c→c<w.heap.size
 apart:∀c,I c→¬K c
 glob:∀g cs,G g=some cs→I g∧GAt I w cs g
structure Ext(I K:Nat→Prop)(w w':World):Prop where
 os:w'.os=w.os
 tape:w'.tape=w.tape
 output:w'.output=w.output
 size:w.heap.size≤w'.heap.size
 keep:∀c,I c∨K c→w'.heap[c]?=w.heap[c]?
theorem Ext.refl(I K:Nat→Prop)(w:World):Ext I K w w:=⟨rfl,rfl,rfl,Nat.le_refl _,λ_ _=>rfl⟩
theorem Ext.trans{I I' K:Nat→Prop}{w w' w'':World}(hI:∀c,I c→I' c)(h:Ext I K w w')(k:Ext I' K w' w''):Ext I K w w'':=
 ⟨k.os.trans h.os,k.tape.trans h.tape,k.output.trans h.output,Nat.le_trans h.size k.size,
  λc hc=>(k.keep c (hc.imp (hI c) id)).trans (h.keep c hc)⟩
theorem ORel.mono{G:GTab (List AV)}{I I':Nat→Prop}{w w':World}{ρ ρ':PMap}{m:Pl}(o:AObj)(hI:∀c,I c→I' c)(hw:∀c,I c→w'.heap[c]?=w.heap[c]?)
 (hρ:∀b m,ρ b=some m→ρ' b=some m)(hb:w'.heap[m.blk]?=w.heap[m.blk]?)(h:ORel G I w ρ m o):ORel G I' w' ρ' m o:=by
 cases o with
 |row k rows=>obtain⟨h1,h2,⟨arr,e,h3,h4⟩,h5⟩:=h;exact⟨h1,h2,⟨arr,e,by rw[hb,h3],h4⟩,VRows.mono hI hw rows hρ hb h5⟩
 |map ks vs bs clock=>obtain⟨es,h1,h2,h3,h4⟩:=h;exact⟨es,by rw[hb,h1],VRels.mono hI hw ks hρ h2,VRels.mono hI hw vs hρ h3,h4⟩
 |siter s pos=>obtain⟨h0,t,h1,h2⟩:=h;exact⟨h0,t,by rw[hb,h1],h2⟩
 |uset ks=>obtain⟨es,cl,h1,h2⟩:=h;exact⟨es,cl,by rw[hb,h1],h2⟩
 |miter ks vis arm=>
  obtain⟨h0,h⟩:=h;rcases h with ⟨h1,h2,h3⟩|⟨c,es,cl,seen,h1,h2,h3,h4,h5⟩
  ·exact⟨h0,.inl ⟨h1,h2,by rw[hb,h3]⟩⟩
  ·exact⟨h0,.inr ⟨c,es,cl,seen,hI c h1,by rw[hw c h1,h2],h3,by rw[hb,h4],h5⟩⟩
 |yloop y F st=>obtain⟨ri,r,h0,h1,h2,h3,h4,h5,h6,h7⟩:=h;exact⟨ri,r,h0,by rw[hb,h1],h2,h3,h4,h5,λs=>VRel.mono hI hw _ hρ (h6 s),h7⟩
 |trow t x k rows=>obtain⟨h0,h1,h2,⟨arr,h3,h4⟩,h5⟩:=h;exact⟨h0,h1,h2,⟨arr,by rw[hb,h3],h4⟩,VRows.mono hI hw rows hρ hb h5⟩
structure Stepped(G:GTab (List AV))(I K:Nat→Prop)(ρ:PMap)(w:World)(I':Nat→Prop)(ρ':PMap)(h':FHeap)(w':World):Prop where
 imm:∀c,I c→I' c
 map:∀b m,ρ b=some m→ρ' b=some m
 ext:Ext I K w w'
 rel:HRel G I' K ρ' h' w'
theorem Stepped.vrel{G I K ρ w I' ρ' h' w'}(s:Stepped G I K ρ w I' ρ' h' w'){v:AV}{c:Value}(h:VRel I w ρ v c):VRel I' w' ρ' v c:=VRel.mono s.imm (λc hc=>s.ext.keep c (.inl hc)) v s.map h
theorem Stepped.vrels{G I K ρ w I' ρ' h' w'}(s:Stepped G I K ρ w I' ρ' h' w'){v:List AV}{c:List Value}(h:VRels I w ρ v c):VRels I' w' ρ' v c:=VRels.mono s.imm (λc hc=>s.ext.keep c (.inl hc)) v s.map h
theorem Stepped.refl{G I K ρ h w}(r:HRel G I K ρ h w):Stepped G I K ρ w I ρ h w:=⟨λ_ h=>h,λ_ _ h=>h,Ext.refl _ _ _,r⟩
def SameMem(w w':World):Prop:=w'.heap=w.heap∧w'.tape=w.tape∧w'.os=w.os∧w'.output=w.output
section same
variable {I:Nat→Prop}{w w':World}
theorem SameMem.ext(s:SameMem w w')(I K:Nat→Prop):Ext I K w w':=⟨s.2.2.1,s.2.1,s.2.2.2,by rw[s.1];exact Nat.le_refl _,λ_ _=>by rw[s.1]⟩
theorem HRel.same{G I K ρ h w w'}(r:HRel G I K ρ h w)(s:SameMem w w'):HRel G I K ρ h w':={
 live b o hb:=by obtain⟨m,h1,h2,h3,h4⟩:=r.live b o hb;exact⟨m,h1,h2,h3,ORel.mono o (λ_ h=>h) (λ_ _=>by rw[s.1]) (λ_ _ h=>h) (by rw[s.1]) h4⟩
 inj:=r.inj
 dom b m hb:=by rw[s.1];exact r.dom b m hb
 imm c hc:=by rw[s.1];exact r.imm c hc
 kept c hc:=by rw[s.1];exact r.kept c hc
 apart:=r.apart
 glob g cs hg:=⟨(r.glob g cs hg).1,GAt.mono (λ_ h=>h) (λ_ _=>by rw[s.1]) cs (λ_ _ h=>h) (by rw[s.1]) (r.glob g cs hg).2⟩}
theorem Stepped.same{G I K ρ h w w'}(r:HRel G I K ρ h w)(s:SameMem w w'):Stepped G I K ρ w I ρ h w':=⟨λ_ h=>h,λ_ _ h=>h,s.ext _ _,r.same s⟩
end same
theorem HRel.fewer{G I K ρ h h' w}(r:HRel G I K ρ h w)(hh:∀b o,h' b=some o→h b=some o):HRel G I K ρ h' w:={
 live b o hb:=r.live b o (hh b o hb)
 inj b b' m m' hb hb':=by
  refine r.inj b b' m m' ?_ ?_
  ·obtain⟨o,ho⟩:=Option.isSome_iff_exists.1 hb;rw[hh b o ho];rfl
  ·obtain⟨o,ho⟩:=Option.isSome_iff_exists.1 hb';rw[hh b' o ho];rfl
 dom:=r.dom
 imm:=r.imm
 kept:=r.kept
 apart:=r.apart
 glob:=r.glob}
/-! ### renaming -/
mutual
def ren(π:Nat→Option Nat):AV→AV
 |.ptr b i o=>match π b with|some b'=>.ptr b' i o|none=>.junk
 |.slice b off len cap=>match π b with|some b'=>.slice b' off len cap|none=>.junk
 |.map b=>match π b with|some b'=>.map b'|none=>.junk
 |.func fn fs cs=>.func fn (renL π fs) (renL π cs)
 |.iface t x=>.iface t (ren π x)
 |.agg cs=>.agg (renL π cs)
 |.tuple cs=>.tuple (renL π cs)
 |.iptr cs=>.iptr cs
 |.islice rows cap=>.islice rows cap
 |.imap ks vs bs clock=>.imap ks vs bs clock
 |.iset ks=>.iset ks
 |.yfn b=>match π b with|some b'=>.yfn b'|none=>.junk
 |.junk=>.junk
 |.bool b=>.bool b
 |.int k n=>.int k n
 |.str s=>.str s
 |.nilptr=>.nilptr
 |.nilslice=>.nilslice
 |.nilmap=>.nilmap
 |.nilfunc=>.nilfunc
 |.nilifc=>.nilifc
def renL(π:Nat→Option Nat):List AV→List AV
 | []=>[]
 |v::vs=>ren π v::renL π vs
end
theorem renL_eq(π:Nat→Option Nat):∀l:List AV,renL π l=l.map (ren π)
 | []=>rfl
 |v::vs=>by simp[renL,renL_eq π vs]
def renObj(π:Nat→Option Nat):AObj→AObj
 |.row k rows=>.row k (rows.map λr=>r.map (ren π))
 |.map ks vs bs clock=>.map (ks.map (ren π)) (vs.map (ren π)) bs clock
 |.siter s pos=>.siter s pos
 |.uset ks=>.uset ks
 |.miter ks vis arm=>.miter ks vis arm
 |.yloop y F st=>.yloop y (F.map λx=>(x.1,ren π x.2)) st
 |.trow t x k rows=>.trow t x k (rows.map λr=>r.map (ren π))
section
variable {I:Nat→Prop}{w:World}{π:Nat→Option Nat}{ρ ρ':PMap}
mutual
theorem VRel.ren(hπ:∀b b' m,π b=some b'→ρ b=some m→ρ' b'=some m):∀(v:AV) {c:Value},VRel I w ρ v c→VRel I w ρ' (Ax.ren π v) c
 |.ptr b i o,c,h=>by
  simp only[VRel]at h;obtain⟨m,hm,rfl⟩:=h;cases hb:π b with
  |none=>simp[Ax.ren,hb,VRel]
  |some b'=>simp only[Ax.ren,hb,VRel];exact⟨m,hπ b b' m hb hm,rfl⟩
 |.slice b off len cap,c,h=>by
  simp only[VRel]at h;obtain⟨a,n,rfl,h1,h2,h3⟩:=h;cases hb:π b with
  |none=>simp[Ax.ren,hb,VRel]
  |some b'=>
   simp only[Ax.ren,hb,VRel];refine⟨a,n,rfl,h1,h2,h3.imp id ?_⟩
   rintro⟨m,hm,rfl,hr⟩
   exact⟨m,hπ b b' m hb hm,rfl,hr⟩
 |.map b,c,h=>by
  simp only[VRel]at h;obtain⟨m,hm,rfl⟩:=h;cases hb:π b with
  |none=>simp[Ax.ren,hb,VRel]
  |some b'=>simp only[Ax.ren,hb,VRel];exact⟨m,hπ b b' m hb hm,rfl⟩
 |.func fn fs cs,c,h=>by simp only[VRel,Ax.ren]at h⊢;obtain⟨fs',cs',rfl,h1,h2⟩:=h;exact⟨fs',cs',rfl,VRels.ren hπ fs h1,VRels.ren hπ cs h2⟩
 |.iface t x,c,h=>by simp only[VRel,Ax.ren]at h⊢;obtain⟨x',rfl,h⟩:=h;exact⟨x',rfl,VRel.ren hπ x h⟩
 |.agg cs,c,h=>by simp only[VRel,Ax.ren]at h⊢;obtain⟨cs',rfl,h⟩:=h;exact⟨cs',rfl,VRels.ren hπ cs h⟩
 |.tuple cs,c,h=>by simp only[VRel,Ax.ren]at h⊢;obtain⟨cs',rfl,h⟩:=h;exact⟨cs',rfl,VRels.ren hπ cs h⟩
 |.iptr cs,c,h=>by simpa[VRel,Ax.ren]using h
 |.islice rows cap,c,h=>by simpa only[VRel,Ax.ren]using h
 |.imap ks vs bs clock,c,h=>by simpa only[VRel,Ax.ren]using h
 |.iset ks,c,h=>by simpa only[VRel,Ax.ren]using h
 |.yfn b,c,h=>by
  simp only[VRel]at h;obtain⟨m,hm,rfl⟩:=h;cases hb:π b with
  |none=>simp[Ax.ren,hb,VRel]
  |some b'=>simp only[Ax.ren,hb,VRel];exact⟨m,hπ b b' m hb hm,rfl⟩
 |.junk,c,h=>by simp[VRel,Ax.ren]
 |.bool b,c,h=>by simpa[VRel,Ax.ren]using h
 |.int k n,c,h=>by simpa[VRel,Ax.ren]using h
 |.str s,c,h=>by simpa[VRel,Ax.ren]using h
 |.nilptr,c,h=>by simpa[VRel,Ax.ren]using h
 |.nilslice,c,h=>by simpa[VRel,Ax.ren]using h
 |.nilmap,c,h=>by simpa[VRel,Ax.ren]using h
 |.nilfunc,c,h=>by simpa[VRel,Ax.ren]using h
 |.nilifc,c,h=>by simpa[VRel,Ax.ren]using h
theorem VRels.ren(hπ:∀b b' m,π b=some b'→ρ b=some m→ρ' b'=some m):∀(vs:List AV) {cs:List Value},VRels I w ρ vs cs→VRels I w ρ' (renL π vs) cs
 | [],cs,h=>by simpa[VRels,renL]using h
 |v::vs,cs,h=>by simp only[VRels,renL]at h⊢;obtain⟨c,cs',rfl,h1,h2⟩:=h;exact⟨c,cs',rfl,VRel.ren hπ v h1,VRels.ren hπ vs h2⟩
end
theorem VAt.ren(hπ:∀b b' m,π b=some b'→ρ b=some m→ρ' b'=some m):∀(vs:List AV) {b off:Nat},VAt I w ρ vs b off→VAt I w ρ' (vs.map (Ax.ren π)) b off
 | [],b,off,h=>by simp[VAt]
 |v::vs,b,off,h=>by simp only[VAt,List.map_cons]at h⊢;obtain⟨⟨c,hc,h1⟩,h2⟩:=h;exact⟨⟨c,hc,VRel.ren hπ v h1⟩,VAt.ren hπ vs h2⟩
theorem VRows.ren{k:Nat}(hπ:∀b b' m,π b=some b'→ρ b=some m→ρ' b'=some m):∀(rs:List (List AV)) {b off:Nat},VRows I w k ρ rs b off→
 VRows I w k ρ' (rs.map λr=>r.map (Ax.ren π)) b off
 | [],b,off,h=>by simp[VRows]
 |r::rs,b,off,h=>by simp only[VRows,List.map_cons]at h⊢;obtain⟨h0,h1,h2⟩:=h;exact⟨by simpa using h0,VAt.ren hπ r h1,VRows.ren hπ rs h2⟩
theorem slotF_ren(π:Nat→Option Nat):∀(F:List (Nat×AV)) (s:Nat),slotF (F.map λx=>(x.1,Ax.ren π x.2)) s=Ax.ren π (slotF F s)
 | [],s=>by simp[slotF,Ax.ren]
 |(t,v)::F,s=>by simp only[List.map_cons,slotF,slotF_ren π F s];cases Nat.beq t s<;>rfl
theorem ORel.ren{G:GTab (List AV)}{m:Pl}(hπ:∀b b' m,π b=some b'→ρ b=some m→ρ' b'=some m)(o:AObj)(h:ORel G I w ρ m o):ORel G I w ρ' m (renObj π o):=by
 cases o with
 |row k rows=>obtain⟨h1,h2,h3,h5⟩:=h;exact⟨h1,h2,by simpa using h3,VRows.ren hπ rows h5⟩
 |map ks vs bs clock=>obtain⟨es,h1,h2,h3,h4⟩:=h;exact⟨es,h1,by rw[←renL_eq];exact VRels.ren hπ ks h2,by rw[←renL_eq];exact VRels.ren hπ vs h3,h4⟩
 |siter s pos=>exact h
 |uset ks=>exact h
 |miter ks vis arm=>exact h
 |yloop y F st=>obtain⟨ri,r,h0,h1,h2,h3,h4,h5,h6,h7⟩:=h;refine⟨ri,r,h0,h1,h2,h3,h4,h5,λs=>?_,h7⟩;rw[slotF_ren];exact VRel.ren hπ _ (h6 s)
 |trow t x k rows=>obtain⟨h0,h1,h2,h3,h5⟩:=h;exact⟨h0,h1,h2,by simpa using h3,VRows.ren hπ rows h5⟩
end
end Go.Ax
/- AxEff: what an operation may do to the abstract heap, and that the relation follows. -/
namespace Go.Ax
inductive Eff where
 |none
 |new (o:AObj)
 |set (b:Nat)(o:AObj)
 |kill (b:Nat)(o:AObj)
def PMap.set(ρ:PMap)(n:Nat)(m:Pl):PMap:=λb=>if b=n then some m else ρ b
def FHeap.set(h:FHeap)(n:Nat)(o:Option AObj):FHeap:=λb=>if b=n then o else h b
def FHeap.eff(h:FHeap)(n:Nat):Eff→FHeap
 |.none=>h
 |.new o=>h.set n (some o)
 |.set b o=>h.set b (some o)
 |.kill b o=>(h.set b Option.none).set n (some o)
def Eff.fresh:Eff→Bool
 |.new _|.kill _ _=>true
 |_=>false
def Moves(ρ ρ':PMap)(n:Nat)(e:Eff):Prop:=(∀b,b≠n→ρ' b=ρ b)∧(e.fresh=false→ρ'=ρ)
theorem Moves.same(ρ:PMap)(n:Nat)(e:Eff):Moves ρ ρ n e:=⟨λ_ _=>rfl,λ_=>rfl⟩
theorem Moves.set(ρ:PMap)(n:Nat){e:Eff}(m:Pl)(he:e.fresh=true):Moves ρ (ρ.set n m) n e:=⟨λb hb=>by simp[PMap.set,hb],λh=>by simp[he]at h⟩
theorem PMap.set_old{ρ:PMap}{n:Nat}{m:Pl}(hn:ρ n=Option.none):∀b m',ρ b=some m'→ρ.set n m b=some m':=by
 intro b m' h;unfold PMap.set;split
 ·subst b;simp[hn]at h
 ·exact h
section
variable {G:GTab (List AV)}{I K:Nat→Prop}{ρ:PMap}{h:FHeap}{w w':World}{n:Nat}
theorem stepped_new(r:HRel G I K ρ h w)(_:h n=none)(hρ:ρ n=none){ob:Obj}{o:AObj}{m:Pl}
 (hw:w'.heap=w.heap.push ob)(ht:w'.tape=w.tape)(hos:w'.os=w.os)(hout:w'.output=w.output)
 (hm:m.blk=w.heap.size)(ho:ORel G I w' (ρ.set n m) m o):Stepped G I K ρ w I (ρ.set n m) (h.eff n (.new o)) w':=by
 have hold:∀c,c<w.heap.size→w'.heap[c]?=w.heap[c]?:=by intro c hc;rw[hw,Array.getElem?_push,if_neg (by omega)]
 have hset:=PMap.set_old (m:=m) hρ;refine⟨λ_ h=>h,hset,⟨hos,ht,hout,by rw[hw];simp,?_⟩,?_⟩
 ·rintro c (hc|hc)
  ·exact hold c (r.imm c hc)
  ·exact hold c (r.kept c hc)
 ·refine⟨?_,?_,?_,?_,?_,r.apart,?_⟩
  ·intro b o' hb;simp only[FHeap.eff,FHeap.set]at hb;split at hb
   ·subst b;cases hb;refine⟨m,by simp[PMap.set],λhc=>?_,λhc=>?_,ho⟩
    ·have:=r.imm _ hc;omega
    ·have:=r.kept _ hc;omega
   ·obtain⟨m',h1,h2,h3,h4⟩:=r.live b o' hb;exact⟨m',hset b m' h1,h2,h3,ORel.mono o' (λ_ h=>h) (λc hc=>hold c (r.imm c hc)) hset (hold _ (r.dom b m' h1)) h4⟩
  ·intro b b' m1 m2 hb hb' h1 h2 he;simp only[FHeap.eff,FHeap.set,PMap.set]at hb hb' h1 h2;split at hb<;>split at hb'
   ·omega
   ·rename_i hbn hb'n;rw[if_pos hbn]at h1;rw[if_neg hb'n]at h2;cases h1;have:=r.dom b' m2 h2;omega
   ·rename_i hbn hb'n;rw[if_neg hbn]at h1;rw[if_pos hb'n]at h2;cases h2;have:=r.dom b m1 h1;omega
   ·rename_i hbn hb'n;rw[if_neg hbn]at h1;rw[if_neg hb'n]at h2;exact r.inj b b' m1 m2 hb hb' h1 h2 he
  ·intro b m' hb;rw[hw];simp only[Array.size_push];simp only[PMap.set]at hb;split at hb
   ·cases hb;omega
   ·have:=r.dom b m' hb;omega
  ·intro c hc;rw[hw];simp only[Array.size_push];have:=r.imm c hc;omega
  ·intro c hc;rw[hw];simp only[Array.size_push];have:=r.kept c hc;omega
  ·intro g cs hg;obtain⟨h1,h2⟩:=r.glob g cs hg;exact⟨h1,GAt.mono (λ_ h=>h) (λc hc=>hold c (r.imm c hc)) cs (λ_ _ h=>h) (hold g (r.imm g h1)) h2⟩
theorem stepped_set(r:HRel G I K ρ h w){b:Nat}{o0 o:AObj}{m:Pl}(hb:h b=some o0)(hρ:ρ b=some m)
 (hsize:w'.heap.size=w.heap.size)(hw:∀c,c≠m.blk→w'.heap[c]?=w.heap[c]?)(ht:w'.tape=w.tape)(hos:w'.os=w.os)(hout:w'.output=w.output)
 (ho:ORel G I w' ρ m o):Stepped G I K ρ w I ρ (h.eff n (.set b o)) w':=by
 obtain⟨m',hm',hnI,hnK,_⟩:=r.live b o0 hb;obtain rfl:m=m':=Option.some.inj (hρ.symm.trans hm');have hIw:∀c,I c→w'.heap[c]?=w.heap[c]?:=λc hc=>hw c (λe=>hnI (e▸hc));refine⟨λ_ h=>h,λ_ _ h=>h,⟨hos,ht,hout,by omega,?_⟩,?_⟩
 ·rintro c (hc|hc)
  ·exact hIw c hc
  ·exact hw c (λe=>hnK (e▸hc))
 ·refine⟨?_,?_,?_,?_,?_,r.apart,?_⟩
  ·intro b' o' hb';simp only[FHeap.eff,FHeap.set]at hb';split at hb'
   ·rename_i he;cases hb';subst he;exact⟨m,hρ,hnI,hnK,ho⟩
   ·rename_i hne;obtain⟨m',h1,h2,h3,h4⟩:=r.live b' o' hb';refine⟨m',h1,h2,h3,ORel.mono o' (λ_ h=>h) hIw (λ_ _ h=>h) (hw _ ?_) h4⟩;intro e;exact hne (r.inj b' b m' m (by simp[hb']) (by simp[hb]) h1 hρ e)
  ·intro b1 b2 m1 m2 h1 h2;refine r.inj b1 b2 m1 m2 ?_ ?_
   ·simp only[FHeap.eff,FHeap.set]at h1;split at h1
    ·subst b1;simp[hb]
    ·exact h1
   ·simp only[FHeap.eff,FHeap.set]at h2;split at h2
    ·subst b2;simp[hb]
    ·exact h2
  ·intro b' m' hb';rw[hsize];exact r.dom b' m' hb'
  ·intro c hc;rw[hsize];exact r.imm c hc
  ·intro c hc;rw[hsize];exact r.kept c hc
  ·intro g cs hg;obtain⟨h1,h2⟩:=r.glob g cs hg;exact⟨h1,GAt.mono (λ_ h=>h) hIw cs (λ_ _ h=>h) (hIw g h1) h2⟩
theorem stepped_kill_new(r:HRel G I K ρ h w)(hh:h n=none)(hρ:ρ n=none)(b:Nat){ob:Obj}{o:AObj}{m:Pl}
 (hw:w'.heap=w.heap.push ob)(ht:w'.tape=w.tape)(hos:w'.os=w.os)(hout:w'.output=w.output)
 (hm:m.blk=w.heap.size)(ho:ORel G I w' (ρ.set n m) m o):Stepped G I K ρ w I (ρ.set n m) (h.eff n (.kill b o)) w':=by
 have r':HRel G I K ρ (h.set b none) w:=r.fewer (by
  intro b' o' hb';simp only[FHeap.set]at hb';split at hb'
  ·cases hb'
  ·exact hb')
 have:=stepped_new (h:=h.set b none) (n:=n) (o:=o) r' (by simp only[FHeap.set];split<;>simp_all) hρ hw ht hos hout hm ho;exact this
theorem stepped_kill_same(r:HRel G I K ρ h w)(hh:h n=none)(hρ:ρ n=none){b:Nat}{o0 o:AObj}{mb m:Pl}(hb:h b=some o0)(hρb:ρ b=some mb)
 (hm:m.blk=mb.blk)(hsize:w'.heap.size=w.heap.size)(hw:∀c,c≠mb.blk→w'.heap[c]?=w.heap[c]?)(ht:w'.tape=w.tape)(hos:w'.os=w.os)(hout:w'.output=w.output)
 (ho:ORel G I w' (ρ.set n m) m o):Stepped G I K ρ w I (ρ.set n m) (h.eff n (.kill b o)) w':=by
 obtain⟨m',hm',hnI,hnK,_⟩:=r.live b o0 hb;obtain rfl:mb=m':=Option.some.inj (hρb.symm.trans hm');have hset:=PMap.set_old (m:=m) hρ;have hIw:∀c,I c→w'.heap[c]?=w.heap[c]?:=λc hc=>hw c (λe=>hnI (e▸hc));have hbn:b≠n:=λe=>by subst e;simp[hh]at hb
 have hlt:=r.dom b mb hρb;refine⟨λ_ h=>h,hset,⟨hos,ht,hout,by omega,?_⟩,?_⟩
 ·rintro c (hc|hc)
  ·exact hIw c hc
  ·exact hw c (λe=>hnK (e▸hc))
 ·refine⟨?_,?_,?_,?_,?_,r.apart,?_⟩
  ·intro b' o' hb';simp only[FHeap.eff,FHeap.set]at hb';split at hb'
   ·rename_i he;cases hb';subst he;exact⟨m,by simp[PMap.set],by rw[hm];exact hnI,by rw[hm];exact hnK,ho⟩
   ·rename_i hne;split at hb'
    ·cases hb'
    ·rename_i hne2;obtain⟨m',h1,h2,h3,h4⟩:=r.live b' o' hb';refine⟨m',hset b' m' h1,h2,h3,ORel.mono o' (λ_ h=>h) hIw hset (hw _ ?_) h4⟩;intro e;exact hne2 (r.inj b' b m' mb (by simp[hb']) (by simp[hb]) h1 hρb e)
  ·intro b1 b2 m1 m2 hb1 hb2 h1 h2 he;simp only[FHeap.eff,FHeap.set,PMap.set]at hb1 hb2 h1 h2;by_cases e1:b1=n<;>by_cases e2:b2=n
   ·omega
   ·rw[if_pos e1]at h1;rw[if_neg e2]at h2;rw[if_neg e2]at hb2;cases h1;split at hb2
    ·cases hb2
    ·rename_i hne;exact absurd (r.inj b2 b m2 mb hb2 (by simp[hb]) h2 hρb (by omega)) hne
   ·rw[if_neg e1]at h1;rw[if_pos e2]at h2;rw[if_neg e1]at hb1;cases h2;split at hb1
    ·cases hb1
    ·rename_i hne;exact absurd (r.inj b1 b m1 mb hb1 (by simp[hb]) h1 hρb (by omega)) hne
   ·rw[if_neg e1]at h1;rw[if_neg e2]at h2;rw[if_neg e1]at hb1;rw[if_neg e2]at hb2;split at hb1
    ·cases hb1
    ·split at hb2
     ·cases hb2
     ·exact r.inj b1 b2 m1 m2 hb1 hb2 h1 h2 he
  ·intro b' m' hb';rw[hsize];simp only[PMap.set]at hb';split at hb'
   ·cases hb';omega
   ·exact r.dom b' m' hb'
  ·intro c hc;rw[hsize];exact r.imm c hc
  ·intro c hc;rw[hsize];exact r.kept c hc
  ·intro g cs hg;obtain⟨h1,h2⟩:=r.glob g cs hg;exact⟨h1,GAt.mono (λ_ h=>h) hIw cs (λ_ _ h=>h) (hIw g h1) h2⟩
end
end Go.Ax
/- AxVal: lists of cells: splitting, reading, replacing. -/
namespace Go.Ax
section
variable {I I':Nat→Prop}{w w':World}{ρ ρ':PMap}
theorem VRels.length:∀{vs:List AV} {cs:List Value},VRels I w ρ vs cs→vs.length=cs.length
 | [],cs,h=>by simp[VRels]at h;simp[h]
 |v::vs,cs,h=>by simp only[VRels]at h;obtain⟨c,cs',rfl,_,h⟩:=h;simp[VRels.length h]
theorem VRels.append:∀{as bs:List AV} {xs ys:List Value},VRels I w ρ as xs→VRels I w ρ bs ys→VRels I w ρ (as++bs) (xs++ys)
 | [],bs,xs,ys,h,k=>by simp[VRels]at h;simpa[h]using k
 |v::as,bs,xs,ys,h,k=>by simp only[VRels,List.cons_append]at h⊢;obtain⟨c,cs',rfl,h1,h2⟩:=h;exact⟨c,cs'++ys,rfl,h1,VRels.append h2 k⟩
theorem VRels.get:∀{vs:List AV} {cs:List Value} (i:Nat) {v:AV},VRels I w ρ vs cs→vs[i]?=some v→∃c,cs[i]?=some c∧VRel I w ρ v c
 | [],cs,i,v,h,hv=>by simp at hv
 |x::vs,cs,i,v,h,hv=>by
  simp only[VRels]at h;obtain⟨c,cs',rfl,h1,h2⟩:=h;cases i with
  |zero=>simp at hv;subst hv;exact⟨c,by simp,h1⟩
  |succ i=>simp at hv;simpa using VRels.get i h2 hv
theorem VRels.drop:∀{vs:List AV} {cs:List Value} (i:Nat),VRels I w ρ vs cs→VRels I w ρ (vs.drop i) (cs.drop i)
 |vs,cs,0,h=>by simpa using h
 | [],cs,i+1,h=>by simp[VRels]at h⊢;simp[h]
 |x::vs,cs,i+1,h=>by simp only[VRels]at h;obtain⟨c,cs',rfl,h1,h2⟩:=h;simpa using VRels.drop i h2
theorem VRels.take:∀{vs:List AV} {cs:List Value} (i:Nat),VRels I w ρ vs cs→VRels I w ρ (vs.take i) (cs.take i)
 |vs,cs,0,h=>by simp[VRels]
 | [],cs,i+1,h=>by simp[VRels]at h⊢;simp[h]
 |x::vs,cs,i+1,h=>by simp only[VRels]at h;obtain⟨c,cs',rfl,h1,h2⟩:=h;simp only[List.take_succ_cons,VRels];exact⟨c,cs'.take i,rfl,h1,VRels.take i h2⟩
theorem VRels.set:∀{vs:List AV} {cs:List Value} (i:Nat) {v:AV} {c:Value},VRels I w ρ vs cs→VRel I w ρ v c→VRels I w ρ (vs.set i v) (cs.set i c)
 | [],cs,i,v,c,h,hv=>by simp[VRels]at h⊢;simp[h]
 |x::vs,cs,i,v,c,h,hv=>by
  simp only[VRels]at h;obtain⟨c',cs',rfl,h1,h2⟩:=h;cases i with
  |zero=>simp only[List.set_cons_zero,VRels];exact⟨c,cs',rfl,hv,h2⟩
  |succ i=>simp only[List.set_cons_succ,VRels];exact⟨c',cs'.set i c,rfl,h1,VRels.set i h2 hv⟩
def CellsAt(w:World)(cs:List Value)(b off:Nat):Prop:=∀j v,cs[j]?=some v→w.cell? ⟨b,off+j,none⟩=some v
theorem VAt.of_cells:∀{vs:List AV} {cs:List Value} {b off:Nat},CellsAt w cs b off→VRels I w ρ vs cs→VAt I w ρ vs b off
 | [],cs,b,off,_,_=>by simp[VAt]
 |v::vs,cs,b,off,hc,h=>by simp only[VRels,VAt]at h⊢;obtain⟨c,cs',rfl,h1,h2⟩:=h;refine⟨⟨c,by simpa using hc 0 c (by simp),h1⟩,VAt.of_cells (λj v hv=>?_) h2⟩;have:=hc (j+1) v (by simpa using hv);rw[show off+1+j=off+(j+1) by omega];exact this
theorem VAt.cells:∀{vs:List AV} {b off:Nat},VAt I w ρ vs b off→∃cs,CellsAt w cs b off∧VRels I w ρ vs cs
 | [],b,off,_=>⟨[],λj v hv=>by simp at hv,by simp[VRels]⟩
 |v::vs,b,off,h=>by
  simp only[VAt]at h;obtain⟨⟨c,hc,h1⟩,h2⟩:=h;obtain⟨cs,k1,k2⟩:=VAt.cells h2;refine⟨c::cs,λj v hv=>?_,by simp only[VRels];exact⟨c,cs,rfl,h1,k2⟩⟩;cases j with
  |zero=>simp at hv;subst hv;simpa using hc
  |succ j=>have:=k1 j v (by simpa using hv);rw[show off+(j+1)=off+1+j by omega];exact this
theorem VAt.append:∀{as bs:List AV} {b off:Nat},VAt I w ρ (as++bs) b off↔VAt I w ρ as b off∧VAt I w ρ bs b (off+as.length)
 | [],bs,b,off=>by simp[VAt]
 |v::as,bs,b,off=>by simp only[List.cons_append,VAt,List.length_cons];rw[VAt.append,and_assoc,show off+1+as.length=off+(as.length+1) by omega]
theorem VAt.drop{vs:List AV}{b off:Nat}(i:Nat)(hi:i≤vs.length)(h:VAt I w ρ vs b off):VAt I w ρ (vs.drop i) b (off+i):=by rw[←List.take_append_drop i vs,VAt.append]at h;simpa[Nat.min_eq_left hi]using h.2
theorem VAt.take{vs:List AV}{b off:Nat}(i:Nat)(h:VAt I w ρ vs b off):VAt I w ρ (vs.take i) b off:=by rw[←List.take_append_drop i vs,VAt.append]at h;exact h.1
theorem VRows.iff{k:Nat}:∀{rs:List (List AV)} {b off:Nat},VRows I w k ρ rs b off↔(∀r∈rs,r.length=k)∧VAt I w ρ rs.flatten b off
 | [],b,off=>by simp[VRows,VAt]
 |r::rs,b,off=>by
  simp only[VRows,List.flatten_cons,VAt.append,List.mem_cons,forall_eq_or_imp];rw[VRows.iff];constructor
  ·rintro⟨h0,h1,h2,h3⟩;exact⟨⟨h0,h2⟩,h1,by rw[h0];exact h3⟩
  ·rintro⟨⟨h0,h2⟩,h1,h3⟩;exact⟨h0,h1,h2,by rw[h0]at h3;exact h3⟩
theorem flatten_length_of{k:Nat}:∀{rs:List (List AV)},(∀r∈rs,r.length=k)→rs.flatten.length=rs.length*k
 | [],_=>by simp
 |r::rs,h=>by simp only[List.flatten_cons,List.length_append,List.length_cons];rw[flatten_length_of (λr hr=>h r (by simp[hr])),h r (by simp),Nat.succ_mul,Nat.add_comm]
theorem VRows.get{k:Nat}:∀{rs:List (List AV)} {b off:Nat} (i:Nat) {r:List AV},VRows I w k ρ rs b off→rs[i]?=some r→r.length=k∧VAt I w ρ r b (off+i*k)
 | [],b,off,i,r,h,hr=>by simp at hr
 |x::rs,b,off,i,r,h,hr=>by
  simp only[VRows]at h;obtain⟨h0,h1,h2⟩:=h;cases i with
  |zero=>simp at hr;subst hr;exact⟨h0,by simpa using h1⟩
  |succ i=>have:=VRows.get i h2 (by simpa using hr);rw[show off+(i+1)*k=off+k+i*k by rw[Nat.succ_mul];omega];exact this
theorem VRows.append{k:Nat}:∀{as bs:List (List AV)} {b off:Nat},VRows I w k ρ (as++bs) b off↔VRows I w k ρ as b off∧VRows I w k ρ bs b (off+as.length*k)
 | [],bs,b,off=>by simp[VRows]
 |v::as,bs,b,off=>by simp only[List.cons_append,VRows,List.length_cons];rw[VRows.append,show off+k+as.length*k=off+(as.length+1)*k by rw[Nat.succ_mul];omega];simp only[and_assoc]
theorem VRows.drop{k:Nat}{rs:List (List AV)}{b off:Nat}(i:Nat)(hi:i≤rs.length)(h:VRows I w k ρ rs b off):VRows I w k ρ (rs.drop i) b (off+i*k):=by rw[←List.take_append_drop i rs,VRows.append]at h;simpa[Nat.min_eq_left hi]using h.2
theorem VRows.take{k:Nat}{rs:List (List AV)}{b off:Nat}(i:Nat)(h:VRows I w k ρ rs b off):VRows I w k ρ (rs.take i) b off:=by rw[←List.take_append_drop i rs,VRows.append]at h;exact h.1
theorem VAt.mono_cells(hI:∀c,I c→I' c)(hw:∀c,I c→w'.heap[c]?=w.heap[c]?)(hρ:∀b m,ρ b=some m→ρ' b=some m) :
 ∀{vs:List AV} {b off:Nat},(∀j,j<vs.length→w'.cell? ⟨b,off+j,none⟩=w.cell? ⟨b,off+j,none⟩)→VAt I w ρ vs b off→VAt I' w' ρ' vs b off
 | [],b,off,_,_=>by simp[VAt]
 |v::vs,b,off,hc,h=>by simp only[VAt]at h⊢;obtain⟨⟨c,hcc,h1⟩,h2⟩:=h;refine⟨⟨c,by rw[←hcc];simpa using hc 0 (by simp),VRel.mono hI hw v hρ h1⟩,VAt.mono_cells hI hw hρ (λj hj=>?_) h2⟩;rw[show off+1+j=off+(j+1) by omega];exact hc (j+1) (by simp;omega)
theorem VRows.mono_cells{k:Nat}(hI:∀c,I c→I' c)(hw:∀c,I c→w'.heap[c]?=w.heap[c]?)(hρ:∀b m,ρ b=some m→ρ' b=some m)
 {rs:List (List AV)}{b off:Nat}(hc:∀j,j<rs.length*k→w'.cell? ⟨b,off+j,none⟩=w.cell? ⟨b,off+j,none⟩)(h:VRows I w k ρ rs b off):VRows I' w' k ρ' rs b off:=by
 rw[VRows.iff]at h⊢;exact⟨h.1,VAt.mono_cells hI hw hρ (by rw[flatten_length_of h.1];exact hc) h.2⟩
theorem cell?_of_heap{b o:Nat}{arr:Array Value}{e:TypeId}{fz:Nat×Nat}(h:w.heap[b]?=some (.cells arr e fz)):w.cell? ⟨b,o,none⟩=arr[o]?:=by simp[World.cell?,h]
theorem CellsAt.of_heap{b off:Nat}{arr:Array Value}{e:TypeId}{fz:Nat×Nat}{cs:List Value}(h:w.heap[b]?=some (.cells arr e fz))
 (hc:∀j v,cs[j]?=some v→arr[off+j]?=some v):CellsAt w cs b off:=by
 intro j v hv;rw[cell?_of_heap h];exact hc j v hv
theorem VRels.noRef_any{vs:List AV}{cs:List Value}(h:VRels I w noP vs cs):VRels I w ρ vs cs:=VRels.mono (λ_ h=>h) (λ_ _=>rfl) vs (λ_ _ h=>by simp[noP]at h) h
theorem VRel.noRef_any{v:AV}{c:Value}(h:VRel I w noP v c):VRel I w ρ v c:=VRel.mono (λ_ h=>h) (λ_ _=>rfl) v (λ_ _ h=>by simp[noP]at h) h
theorem VAt.noRef_any{vs:List AV}{b off:Nat}(h:VAt I w noP vs b off):VAt I w ρ vs b off:=VAt.mono (λ_ h=>h) (λ_ _=>rfl) vs (λ_ _ h=>by simp[noP]at h) rfl h
end
end Go.Ax
/- AxEnv: the tables of a program that the evaluator reads; frames; operands. -/
namespace Go.Ax
structure FInfo where
 code:Code
 ntmps:Nat
 results:List ResultVar
abbrev Heap:=List (Option AObj)
structure Env where
 P:Program
 und:TypeId→Option TypeDesc
 sz:TypeId→Nat
 bytes:TypeId→Nat
 zero:TypeId→Option (List AV)
 eqok:TypeId→Bool
 G:GTab (List AV)
 fn:FuncId→Option FInfo
 keep:FuncId→Nat→List Nat
 thaw:FuncId→Bool
 ro:FuncId→Bool
 ext:FuncId→Bool
 prim:FuncId→List AV→Option (AV×Heap):=λ_ _=>none
 zf:FuncId→Bool:=λ_=>false
 zn:FuncId→Nat:=λ_=>0
 zj:FuncId→Nat:=λ_=>0
 raw:FuncId→Bool:=λ_=>false
 primH:FuncId→List AV→Heap→Option (AV×Heap):=λ_ _ _=>none
 bT:TypeId:=999999999
def primH(E:Env)(f:FuncId)(args:List AV)(H:Heap):Option (AV×Heap):=match E.prim f args with
 |none=>none
 |some (_,[none])=>E.primH f args H
 |some r=>match H with
  | []=>some r
  |_=>none
theorem primH_none{E:Env}{f:FuncId}{args:List AV}{H:Heap}(h:E.prim f args=none):primH E f args H=none:=by unfold primH;rw[h]
abbrev yId:FuncId:=999999999
def aggDesc:TypeDesc→Bool
 |.struct _|.array _ _=>true
 |_=>false
structure EnvOk(E:Env):Prop where
 und:∀t d,E.und t=some d→E.P.underlying t=some d∧∃i,E.P.info? t=some i∧i.size=E.sz t∧i.bytes=E.bytes t
 zero:∀t cs,E.zero t=some cs→(∃d,E.und t=some d)∧∃i z,E.P.info? t=some i∧i.zero=some z∧cs.length=E.sz t∧
  ∀I w,VRels I w noP cs z.cells.toList
 zshape:∀t d i z,E.und t=some d→E.P.info? t=some i→i.zero=some z→(aggDesc d=true→∃a,z = .agg a)∧(aggDesc d=false→z.cells = #[z])
 eqok:∀t,E.eqok t=true→E.P.eqGuardType E.P.depth t=false∧E.P.stoodInHeld t=false∧(∃i,E.P.info? t=some i∧i.comparable=true)∧
  ∀fs,E.und t=some (.struct fs)→∀f∈fs.toList,f.name≠ "_"
 fn:∀f i,E.fn f=some i→∃fn,E.P.funcs[f]?=some fn∧fn.body=some i.code∧fn.ntmps=i.ntmps∧fn.results.toList=i.results∧(fn.name == "runtime.NumGoroutine")=false
 ext:∀f,E.ext f=true→(E.fn f).isSome=false→∃fn,E.P.funcs[f]?=some fn∧fn.body=none∧(fn.name == "runtime.NumGoroutine")=false∧Extern.findNext fn=none∧Extern.find fn=some Extern.BytealgIndexByte.indexByte
 mixed:E.P.follows .mixedOrders=true
 yid:E.fn yId=none
section
variable {E:Env}(ok:EnvOk E){t:TypeId}{d:TypeDesc}(w:World)
include ok
theorem run_und(h:E.und t=some d):(underlying t).run E.P w = .ok d w:=run_underlying (ok.und t d h).1 w
theorem run_info(h:E.und t=some d):∃i,(typeInfo t).run E.P w = .ok i w∧i.size=E.sz t∧i.bytes=E.bytes t:=by obtain⟨_,i,hi,h1,h2⟩:=ok.und t d h;exact⟨i,by simp[typeInfo,hi],h1,h2⟩
theorem run_sz(h:E.und t=some d):(sizeOf t).run E.P w = .ok (E.sz t) w:=by obtain⟨i,hi,h1,_⟩:=run_info ok w h;simp[sizeOf,hi,h1]
theorem run_agg(h:E.und t=some d):(isAgg t).run E.P w = .ok (aggDesc d) w:=by unfold isAgg;simp only[Sem.run_bind,run_und ok w h,Result.andThen_ok];cases d<;>rfl
theorem run_zero{cs:List AV}(h:E.zero t=some cs):∃z,(zeroValue t).run E.P w = .ok z w∧cs.length=E.sz t∧∀I w',VRels I w' noP cs z.cells.toList:=by obtain⟨_,i,z,hi,hz,h1,h2⟩:=ok.zero t cs h;exact⟨z,by simp[zeroValue,typeInfo,hi,hz],h1,h2⟩
end
/-! ### frames -/
abbrev Frm:=List (Nat×AV)
def getF:Frm→Nat→AV
 | [],_=>.junk
 |(s,v)::r,t=>bif Nat.beq s t then v else getF r t
theorem nbeq(s t:Nat):Nat.beq s t=(s==t):=by
 by_cases h:s=t
 ·subst h;simp
 ·rw[beq_eq_false_iff_ne.2 h];cases hb:Nat.beq s t with
  |false=>rfl
  |true=>exact absurd (Nat.eq_of_beq_eq_true hb) h
def setF(F:Frm)(d:Option Nat)(v:AV):Frm:=
 match d with
 |some s=>(s,v)::F
 |none=>F
def FRel(I:Nat→Prop)(w:World)(ρ:PMap)(N:Nat)(F:Frm)(tmps:Array Value):Prop:=tmps.size=N∧∀s,VRel I w ρ (getF F s) (tmps.getD s undef)
def constCell:Value→AV
 |.bool b=>.bool b
 |.int k n=>.int k n
 |.string s=>.str s.data.toList
 |.pointer a=>match a with|none=>.nilptr|some _=>.junk
 |.slice a l c=>match a,l,c with|none,0,0=>.nilslice|_,_,_=>.junk
 |.map r=>match r with|none=>.nilmap|some _=>.junk
 |.nilFunc=>.nilfunc
 |.nilIface=>.nilifc
 |.tuple vs=>match vs.toList with|[]=>.tuple []|_=>.junk
 |_=>.junk
def constV:Value→AV
 |.agg cs=>.agg (cs.toList.map constCell)
 |v=>constCell v
def opv(E:Env)(F:Frm):Operand→AV
 |.tmp t=>getF F t
 |.const v=>constV v
 |.global g=>match E.G g with|some cs=>.iptr cs|none=>.junk
 |.func f=>.func (.func f) [] []
section
variable {I:Nat→Prop}{w:World}{ρ:PMap}
theorem constCell_ok(v:Value):VRel I w ρ (constCell v) v:=by
 cases v with
 |pointer a=>cases a<;>simp[constCell,VRel]
 |slice a l c=>cases a<;>cases l<;>cases c<;>simp[constCell,VRel]
 |map a=>cases a<;>simp[constCell,VRel]
 |tuple vs=>
  simp only[constCell];split
  ·rename_i h;simp only[VRel];exact⟨vs,rfl,by simp[VRels,h]⟩
  ·simp[VRel]
 |_=>simp[constCell,VRel]
theorem constCells_ok:∀l:List Value,VRels I w ρ (l.map constCell) l
 | []=>by simp[VRels]
 |v::l=>by simp only[List.map_cons,VRels];exact⟨v,l,rfl,constCell_ok v,constCells_ok l⟩
theorem constV_ok(v:Value):VRel I w ρ (constV v) v:=by
 unfold constV;split
 ·rename_i cs;simp only[VRel];exact⟨cs,rfl,constCells_ok _⟩
 ·exact constCell_ok v
theorem opv_ok{E:Env}{K:Nat→Prop}{h:FHeap}{N:Nat}{F:Frm}{a:Act}(r:HRel E.G I K ρ h w)(hF:FRel I w ρ N F a.tmps)(x:Operand) :
 VRel I w ρ (opv E F x) (a.eval x):=by
 cases x with
 |tmp t=>exact hF.2 t
 |const v=>exact constV_ok v
 |global g=>
  simp only[opv,Act.eval];cases hg:E.G g with
  |none=>simp[VRel]
  |some cs=>obtain⟨h1,h2⟩:=r.glob g cs hg;simp only[VRel];exact⟨g,0,rfl,h1,h2.1⟩
 |func f=>simp only[opv,Act.eval,VRel];exact⟨#[],#[],rfl,by simp[VRels],by simp[VRels]⟩
theorem getF_setF(F:Frm)(d s:Nat)(v:AV):getF (setF F (some d) v) s=if d=s then v else getF F s:=by
 simp only[setF,getF,nbeq];by_cases h:d=s
 ·simp[h]
 ·simp[h,beq_eq_false_iff_ne.2 h]
theorem FRel.set{N:Nat}{F:Frm}{a:Act}{d:Option Nat}{v:AV}{c:Value}(hF:FRel I w ρ N F a.tmps)(hd:∀s,d=some s→s<N)(hv:VRel I w ρ v c) :
 FRel I w ρ N (setF F d v) (a.put d c).tmps:=by
 cases d with
 |none=>exact hF
 |some d=>
  have hlt:=hd d rfl;refine⟨by simp[Act.put,hF.1],λs=>?_⟩;rw[getF_setF];simp only[Act.put,Array.getD_eq_getD_getElem?,Array.getElem?_setIfInBounds,hF.1];split
  ·subst s;simpa[hlt]using hv
  ·have:=hF.2 s;simpa[Array.getD_eq_getD_getElem?]using this
theorem FRel.mono{I':Nat→Prop}{w':World}{ρ':PMap}{N:Nat}{F:Frm}{t:Array Value}(hF:FRel I w ρ N F t)
 (hv:∀(v:AV) (c:Value),VRel I w ρ v c→VRel I' w' ρ' v c):FRel I' w' ρ' N F t:=⟨hF.1,λs=>hv _ _ (hF.2 s)⟩
end
def AV.cells:AV→List AV
 |.agg cs=>cs
 |v=>[v]
def AV.storable:AV→Bool
 |.junk|.agg _|.tuple _=>false
 |_=>true
section
variable {I:Nat→Prop}{w:World}{ρ:PMap}
theorem VRel.storable{v:AV}{c:Value}(h:VRel I w ρ v c)(hs:v.storable=true):c.oneCell'=true:=by
 cases v<;>simp[AV.storable]at hs<;>simp only[VRel]at h
 all_goals first
  |(subst h;rfl)
  |(obtain⟨_,rfl,_⟩:=h;rfl)
  |(obtain⟨_,_,rfl⟩:=h;rfl)
  |(obtain⟨_,_,rfl,_⟩:=h;rfl)
  |(obtain⟨_,_,_,rfl,_⟩:=h;rfl)
theorem VRel.cells{v:AV}{c:Value}(h:VRel I w ρ v c)(hj:v≠ .junk):VRels I w ρ v.cells c.cells.toList:=by
 cases v
 case junk=>exact absurd rfl hj
 case agg cs=>simp only[VRel]at h;obtain⟨cs',rfl,h⟩:=h;exact h
 all_goals
  have hc:c.cells = #[c]:=by
   simp only[VRel]at h
   first
    |(subst h;rfl)
    |(obtain⟨_,rfl,_⟩:=h;rfl)
    |(obtain⟨_,_,rfl⟩:=h;rfl)
    |(obtain⟨_,_,rfl,_⟩:=h;rfl)
    |(obtain⟨_,_,_,rfl,_⟩:=h;rfl)
  rw[hc];simp only[AV.cells,VRels];exact⟨c,[],rfl,h,rfl⟩
theorem VRels.storable:∀{vs:List AV} {cs:List Value},VRels I w ρ vs cs→vs.all AV.storable=true→∀c∈cs,c.oneCell'=true
 | [],cs,h,_=>by simp[VRels]at h;simp[h]
 |v::vs,cs,h,hs=>by
  simp only[VRels]at h;obtain⟨c,cs',rfl,h1,h2⟩:=h;simp only[List.all_cons,Bool.and_eq_true]at hs;intro x hx;simp only[List.mem_cons]at hx;rcases hx with rfl|hx
  ·exact VRel.storable h1 hs.1
  ·exact VRels.storable h2 hs.2 x hx
end
end Go.Ax
/- AxMem: loads, stores, new variables, rows and maps, addresses: what they do to abstract values, and that the model's operations do just that. -/
namespace Go.Ax
def Val(E:Env)(I K:Nat→Prop)(ρ:PMap)(h:FHeap)(n:Nat)(w:World)(s:Sem Value)(v:AV)(e:Eff):Prop:=∃c w' ρ',s.run E.P w = .ok c w'∧Stepped E.G I K ρ w I ρ' (h.eff n e) w'∧VRel I w' ρ' v c∧Moves ρ ρ' n e
def Done(E:Env)(I K:Nat→Prop)(ρ:PMap)(h:FHeap)(n:Nat)(w:World)(s:Sem Unit)(e:Eff):Prop:=∃w' ρ',s.run E.P w = .ok () w'∧Stepped E.G I K ρ w I ρ' (h.eff n e) w'∧Moves ρ ρ' n e
section
variable {E:Env}{I K:Nat→Prop}{ρ:PMap}{h:FHeap}{n:Nat}{w:World}
theorem Val.quiet(r:HRel E.G I K ρ h w){s:Sem Value}{v:AV}{c:Value}{w':World}(hs:s.run E.P w = .ok c w')(hw:SameMem w w')(hv:VRel I w ρ v c) :
 Val E I K ρ h n w s v .none:=
 ⟨c,w',ρ,hs,Stepped.same r hw,VRel.mono (λ_ h=>h) (λ_ _=>by rw[hw.1]) v (λ_ _ h=>h) hv,Moves.same _ _ _⟩
theorem Val.here(r:HRel E.G I K ρ h w){s:Sem Value}{v:AV}{c:Value}(hs:s.run E.P w = .ok c w)(hv:VRel I w ρ v c):Val E I K ρ h n w s v .none:=Val.quiet r hs ⟨rfl,rfl,rfl,rfl⟩ hv
/-! ### loads -/
def ofCells(E:Env)(t:TypeId)(cs:List AV):Option AV:=
 bif cs.length==E.sz t then
  match E.und t with
  |some d=>bif aggDesc d then some (.agg cs)else cs.head?
  |none=>none
 else none
def aload(E:Env)(h:FHeap)(t:TypeId):AV→Option AV
 |.ptr b i o=>match h b with
  |some (.row _ rows)=>match rows[i]? with
   |some r=>ofCells E t ((r.drop o).take (E.sz t))
   |none=>none
  |_=>none
 |.iptr cs=>ofCells E t (cs.take (E.sz t))
 |_=>none
theorem run_loadVar(ok:EnvOk E){t:TypeId}{cs:List AV}{v:AV}{b off:Nat}{ρ:PMap}(hv:ofCells E t cs=some v)(hc:VAt I w ρ cs b off) :
 ∃c,(loadVar t ⟨b,off,none⟩).run E.P w = .ok c w∧VRel I w ρ v c:=by
 unfold ofCells at hv;rw[cond_eq_ite]at hv;split at hv
 case isFalse=>cases hv
 rename_i hl;have hl:cs.length=E.sz t:=by simpa using hl
 cases hd:E.und t with
 |none=>simp[hd]at hv
 |some d=>
  simp only[hd]at hv;obtain⟨cv,h1,h2⟩:=VAt.cells hc;have hlen:cv.length=E.sz t:=by rw[←hl];exact(VRels.length h2).symm
  have hadd:∀j:Nat,(⟨b,off,none⟩:Addr).add j=⟨b,off+j,none⟩:=by intro j;unfold Addr.add;split<;>simp_all
  unfold loadVar;simp only[Sem.run_bind,run_agg ok w hd,Result.andThen_ok,Sem.run_ite];cases hag:aggDesc d with
  |true=>simp only[hag,cond_true,Option.some.injEq]at hv;subst hv;have:=run_loadCells_list (P:=E.P) w ⟨b,off,none⟩ cv (λj v hj=>by rw[hadd];exact h1 j v hj);rw[hlen]at this;refine⟨.agg cv.toArray,?_,by simp only[VRel];exact⟨cv.toArray,rfl,by simpa using h2⟩⟩;simp[run_sz ok w hd,this]
  |false=>
   simp only[hag,cond_false]at hv;cases cs with
   |nil=>simp at hv
   |cons x cs=>simp at hv;subst hv;simp only[VRels]at h2;obtain⟨c,cs',rfl,h3,_⟩:=h2;have:=h1 0 c (by simp);refine⟨c,?_,h3⟩;simp at this;simp[this]
theorem aload_ok(ok:EnvOk E)(r:HRel E.G I K ρ h w){t:TypeId}{p v:AV}{c:Value}(hl:aload E h t p=some v)(hp:VRel I w ρ p c) :
 Val E I K ρ h n w (Instr.loadAt t c) v .none:=by
 cases p with
 |ptr b i o=>
  simp only[aload]at hl;cases hb:h b with
  |none=>simp[hb]at hl
  |some ob=>
   cases ob with
   |row k rows=>
    simp only[hb]at hl;cases hr:rows[i]? with
    |none=>simp[hr]at hl
    |some rw'=>
     simp only[hr]at hl;obtain⟨m,hm,_,_,ho⟩:=r.live b _ hb;obtain⟨hk,hk0,_,hrows⟩:=ho;obtain⟨hlen,hat⟩:=VRows.get i hrows hr;simp only[VRel]at hp;obtain⟨m',hm',rfl⟩:=hp;obtain rfl:m=m':=Option.some.inj (hm.symm.trans hm');by_cases hsz:o≤rw'.length
     ·have hat':VAt I w ρ ((rw'.drop o).take (E.sz t)) m.blk (m.off+i*m.k+o):=by
       rw[hk];exact VAt.take _ (VAt.drop o hsz hat)
      obtain⟨c,hc,hv⟩:=run_loadVar ok hl hat';exact Val.here r (by simp[Instr.loadAt,Instr.sureAddr,hc]) hv
     ·have:rw'.drop o=[]:=List.drop_eq_nil_of_le (by omega);rw[this]at hl;unfold ofCells at hl;have hd:∀d,E.und t=some d→True:=λ_ _=>trivial;simp only[List.take_nil,List.length_nil]at hl;rw[cond_eq_ite]at hl;split at hl
      ·rename_i h0;cases hd:E.und t with
       |none=>simp[hd]at hl
       |some d=>
        simp only[hd]at hl;have h0:E.sz t=0:=(show 0=E.sz t by simpa using h0).symm;cases hag:aggDesc d with
        |true=>simp[hag]at hl;subst hl;refine Val.here (c:=.agg #[]) r ?_ (by simp only[VRel];exact⟨#[],rfl,by simp[VRels]⟩);simp[Instr.loadAt,Instr.sureAddr,loadVar,run_agg ok w hd,hag,run_sz ok w hd,h0,loadCells,loadCellsFrom]
        |false=>simp[hag]at hl
      ·cases hl
   |map ks vs bs cl=>simp[hb]at hl
   |siter s pos=>simp[hb]at hl
   |uset ks=>simp[hb]at hl
   |miter ks vis arm=>simp[hb]at hl
   |yloop y Fy st=>simp[hb]at hl
   |trow t x k rows=>simp[hb]at hl
 |iptr cs=>simp only[aload]at hl;simp only[VRel]at hp;obtain⟨b,off,rfl,hI,hat⟩:=hp;obtain⟨c,hc,hv⟩:=run_loadVar ok hl (VAt.take _ hat);exact Val.here r (by simp[Instr.loadAt,Instr.sureAddr,hc]) (VRel.noRef_any hv)
 |_=>simp[aload]at hl
/-! ### stores -/
def splice(r:List AV)(o:Nat)(cs:List AV):List AV:=r.take o++cs++r.drop (o+cs.length)
def astore(E:Env)(h:FHeap)(t:TypeId)(p x:AV):Option Eff:=
 match p with
 |.ptr b i o=>match h b with
  |some (.row k rows)=>match rows[i]? with
   |some r=>bif x.cells.length==E.sz t&&(E.und t).isSome&&Nat.ble (o+x.cells.length) r.length&&x.cells.all AV.storable
    then some (.set b (.row k (rows.set i (splice r o x.cells))))else none
   |none=>none
  |_=>none
 |_=>none
theorem VRows.splice{k:Nat}{rows:List (List AV)}{blk off i o:Nat}{r cs:List AV}{w':World}(hIw:∀c,I c→w'.heap[c]?=w.heap[c]?)
 (hrows:VRows I w k ρ rows blk off)(hr:rows[i]?=some r)(ho:o+cs.length≤k)
 (hother:∀x,(x<off+i*k+o∨off+i*k+o+cs.length≤x)→w'.cell? ⟨blk,x,none⟩=w.cell? ⟨blk,x,none⟩)
 (hnew:VAt I w' ρ cs blk (off+i*k+o)):VRows I w' k ρ (rows.set i (Ax.splice r o cs)) blk off:=by
 have hi:i<rows.length:=(List.getElem?_eq_some_iff.1 hr).1;have hsplit:rows=rows.take i++r::rows.drop (i+1):=by
  conv=>lhs;rw[←List.take_append_drop i rows]
  congr 1
  rw[List.drop_eq_getElem_cons hi]
  congr 1
  exact(List.getElem?_eq_some_iff.1 hr).2
 have hset:rows.set i (Ax.splice r o cs)=rows.take i++Ax.splice r o cs::rows.drop (i+1):=by rw[List.set_eq_take_append_cons_drop,if_pos hi]
 rw[hset];rw[hsplit]at hrows;rw[VRows.append]at hrows⊢;obtain⟨h1,h2⟩:=hrows;have hti:(rows.take i).length=i:=by simp;omega
 simp only[VRows,hti]at h2⊢;obtain⟨h3,h4,h5⟩:=h2;have mono:=λ(vs:List AV) (b off:Nat) hc (hh:VAt I w ρ vs b off)=>VAt.mono_cells (I':=I) (w':=w') (ρ':=ρ) (λ_ h=>h) hIw (λ_ _ h=>h) hc hh;refine⟨?_,?_,?_,?_⟩
 ·refine VRows.mono_cells (λ_ h=>h) hIw (λ_ _ h=>h) (λj hj=>hother _ (.inl ?_)) h1;rw[hti]at hj;omega
 ·unfold Ax.splice;simp;omega
 ·unfold Ax.splice;rw[VAt.append,VAt.append];have hto:(r.take o).length=o:=by simp;omega
  refine⟨⟨?_,by rw[hto];exact hnew⟩,?_⟩
  ·exact mono _ _ _ (λj hj=>hother _ (.inl (by rw[hto]at hj;omega))) (VAt.take o h4)
  ·have:=VAt.drop (o+cs.length) (by omega) h4;rw[List.length_append,hto,show off+i*k+(o+cs.length)=off+i*k+o+cs.length by omega];rw[show off+i*k+(o+cs.length)=off+i*k+o+cs.length by omega]at this;exact mono _ _ _ (λj hj=>hother _ (.inr (by omega))) this
 ·refine VRows.mono_cells (λ_ h=>h) hIw (λ_ _ h=>h) (λj hj=>hother _ (.inr (by omega))) h5
theorem written{w:World}{blk o:Nat}{arr:Array Value}{e:TypeId}(cv:List Value)(hb:w.heap[blk]?=some (.cells arr e (0,0)))(hfit:o+cv.length≤arr.size)
 (hone:∀c∈cv,c.oneCell'=true)(P:Program) :
 ∃w',(storeCells ⟨blk,o,none⟩ cv).run P w = .ok () w'∧(∃arr',w'.heap[blk]?=some (.cells arr' e (0,0))∧arr'.size=arr.size)∧
  (∀c,c≠blk→w'.heap[c]?=w.heap[c]?)∧w'.heap.size=w.heap.size∧w'.tape=w.tape∧w'.os=w.os∧w'.output=w.output∧
  CellsAt w' cv blk o∧(∀x,(x<o∨o+cv.length≤x)→w'.cell? ⟨blk,x,none⟩=w.cell? ⟨blk,x,none⟩):=by
 refine⟨_,run_storeCells_at (P:=P) blk o e cv 0 arr w hb (by omega) hone,?_⟩;simp only[Nat.add_zero];generalize hnew:(arr.toList.take o++cv++arr.toList.drop (o+cv.length)).toArray=arr';have hsz:arr'.size=arr.size:=by subst hnew;simp;omega
 have hh:=setRow_heap w blk arr arr' e (0,0) hb;have hget:∀x,arr'[x]?=if x<o then arr[x]? else if x<o+cv.length then cv[x-o]? else arr[x]?:=by
  intro x;subst hnew;have hto:(arr.toList.take o).length=o:=by simp;omega
  have htake:(arr.toList.take o++cv).length=o+cv.length:=by simp;omega
  rw[List.getElem?_toArray];by_cases h1:x<o
  ·rw[List.append_assoc,List.getElem?_append_left (by rw[hto];omega)];simp[h1]
  ·by_cases h2:x<o+cv.length
   ·rw[List.getElem?_append_left (by rw[htake];omega),List.getElem?_append_right (by rw[hto];omega),hto];simp[h1,h2]
   ·rw[List.getElem?_append_right (by rw[htake];omega),htake];simp only[List.getElem?_drop,if_neg h1,if_neg h2];rw[show o+cv.length+(x-(o+cv.length))=x by omega];simp
 refine⟨⟨arr',hh,hsz⟩,λc hc=>setRow_other w blk c arr' hc,setRow_size w blk arr',rfl,rfl,rfl,?_,?_⟩
 ·refine CellsAt.of_heap hh (λj v hj=>?_);have hjl:j<cv.length:=(List.getElem?_eq_some_iff.1 hj).1;rw[hget,if_neg (by omega),if_pos (by omega),show o+j-o=j by omega];exact hj
 ·intro x hx;rw[cell?_of_heap hh,cell?_of_heap hb,hget];rcases hx with hx|hx
  ·rw[if_pos hx]
  ·rw[if_neg (by omega),if_neg (by omega)]
theorem astore_ok(ok:EnvOk E)(r:HRel E.G I K ρ h w){t:TypeId}{p x:AV}{e:Eff}{c cx:Value}(hl:astore E h t p x=some e)(hp:VRel I w ρ p c)(hx:VRel I w ρ x cx) :
 Done E I K ρ h n w (Instr.storeAt t c cx) e:=by
 cases p with
 |ptr b i o=>
  simp only[astore]at hl;cases hb:h b with
  |none=>simp[hb]at hl
  |some ob=>
   cases ob with
   |row k rows=>
    simp only[hb]at hl;cases hr:rows[i]? with
    |none=>simp[hr]at hl
    |some rr=>
     simp only[hr]at hl;rw[cond_eq_ite]at hl;split at hl
     case isFalse=>cases hl
     rename_i hc;simp only[Bool.and_eq_true,beq_iff_eq,Nat.ble_eq]at hc;obtain⟨⟨⟨hc1,hc2⟩,hc3⟩,hc4⟩:=hc;cases hl;obtain⟨d,hd⟩:=Option.isSome_iff_exists.1 hc2;obtain⟨m,hm,hnI,_,ho⟩:=r.live b _ hb;obtain⟨hk,hk0,⟨arr,el,hblk,hroom,hfit⟩,hrows⟩:=ho;obtain⟨hlen,hat⟩:=VRows.get i hrows hr;simp only[VRel]at hp;obtain⟨m',hm',rfl⟩:=hp;obtain rfl:m=m':=Option.some.inj (hm.symm.trans hm');have hj:x≠ .junk:=by rintro rfl;simp[AV.cells,AV.storable]at hc4
     have hcs:=VRel.cells hx hj;have hlc:=VRels.length hcs;have hi:i<rows.length:=(List.getElem?_eq_some_iff.1 hr).1;have hik:i*k+k≤rows.length*k:=by rw[←Nat.succ_mul];exact Nat.mul_le_mul_right k hi
     obtain⟨w',hrun,⟨arr',hb',hsz'⟩,hoth,hsz,ht,hos,hout,hnew,hcell⟩:=written (w:=w) (blk:=m.blk) (o:=m.off+i*k+o) cx.cells.toList hblk
      (by rw[←hlc];omega) (VRels.storable hcs hc4) E.P
     have hIw:∀c,I c→w'.heap[c]?=w.heap[c]?:=λc hc=>hoth c (λe=>hnI (e▸hc));refine⟨w',ρ,?_,?_,Moves.same _ _ _⟩
     ·simp only[Instr.storeAt,Instr.sureAddr,storeVar,Sem.run_bind,Sem.run_pure,Result.andThen_ok,run_sz ok w hd];have hszv:cx.cells.size=E.sz t:=by rw[←hc1,hlc];simp
      simp only[hszv,ne_eq,not_true_eq_false,if_false,hk];simpa using hrun
     ·refine stepped_set r hb hm hsz hoth ht hos hout ?_;refine⟨hk,hk0,⟨arr',el,hb',by omega,by simp only[List.length_set];omega⟩,?_⟩;refine VRows.splice hIw hrows hr (by rw[hlen]at hc3;exact hc3) (λx hx=>hcell x (by rw[←hlc];exact hx)) ?_;exact VAt.of_cells hnew (VRels.mono (λ_ h=>h) hIw _ (λ_ _ h=>h) hcs)
   |map ks vs bs cl=>simp[hb]at hl
   |siter s pos=>simp[hb]at hl
   |uset ks=>simp[hb]at hl
   |miter ks vis arm=>simp[hb]at hl
   |yloop y Fy st=>simp[hb]at hl
   |trow t x k rows=>simp[hb]at hl
 |_=>simp[astore]at hl
/-! ### new blocks -/
theorem newRow_ok(r:HRel E.G I K ρ h w)(hn:h n=none)(hρ:ρ n=none){el:TypeId}{k:Nat}(hk:0<k){rows:List (List AV)}{cells:Array Value}
 (hlen:∀x∈rows,x.length=k)(hv:VRels I w ρ rows.flatten cells.toList){s:Sem Value}{v:AV}{mk:Addr→Value}{w0:World}(hw0:SameMem w w0)
 (hs:s.run E.P w = .ok (mk ⟨w.heap.size,0,none⟩) { w0 with heap:=w0.heap.push (.cells cells el) })
 (hmk:∀w' ρ',ρ' n=some ⟨w.heap.size,0,k,cells.size⟩→VRel I w' ρ' v (mk ⟨w.heap.size,0,none⟩)) :
 Val E I K ρ h n w s v (.new (.row k rows)):=by
 have hset:=PMap.set_old (m:=⟨w.heap.size,0,k,cells.size⟩) hρ;have hold:∀c,I c→({ w0 with heap:=w0.heap.push (.cells cells el) }:World).heap[c]?=w.heap[c]?:=by intro c hc;have:=r.imm c hc;show(w0.heap.push _)[c]?=_;rw[hw0.1,Array.getElem?_push,if_neg (by omega)]
 have hnew:({ w0 with heap:=w0.heap.push (.cells cells el) }:World).heap[w.heap.size]?=some (.cells cells el (0,0)):=by show(w0.heap.push _)[_]?=_;rw[hw0.1];simp
 refine⟨_,_,ρ.set n ⟨w.heap.size,0,k,cells.size⟩,hs,?_,hmk _ _ (by simp[PMap.set]),Moves.set _ _ _ rfl⟩;refine stepped_new (ob:=.cells cells el) r hn hρ (by show w0.heap.push _=_;rw[hw0.1]) hw0.2.1 hw0.2.2.1 hw0.2.2.2 rfl ?_;refine⟨rfl,hk,⟨cells,el,hnew,rfl,?_⟩,?_⟩
 ·have:=VRels.length hv;rw[flatten_length_of hlen]at this;simp at this;simp;omega
 ·rw[VRows.iff];refine⟨hlen,VAt.of_cells (cs:=cells.toList) (CellsAt.of_heap hnew (λj v hj=>by simpa using hj)) ?_⟩;exact VRels.mono (λ_ h=>h) hold _ hset hv
theorem run_newRow(el:TypeId)(cells:Array Value)(w:World):(newRow el cells).run E.P w = .ok ⟨w.heap.size,0,none⟩ { w with heap:=w.heap.push (.cells cells el) }:=by simp[newRow]
def anew(E:Env)(n:Nat)(t:TypeId):Option (AV×Eff):=
 match E.zero t with
 |some z=>bif Nat.blt 0 z.length then some (.ptr n 0 0,.new (bif Nat.beq t E.bT then .trow t true z.length [z]else .row z.length [z]))else none
 |none=>none
theorem anew_ok(ok:EnvOk E)(r:HRel E.G I K ρ h w)(hn:h n=none)(hρ:ρ n=none){t:TypeId}{v:AV}{e:Eff}(ha:anew E n t=some (v,e))(old:Value) :
 Val E I K ρ h n w (Instr.alloc t true old) v e:=by
 unfold anew at ha;cases hz:E.zero t with
 |none=>simp[hz]at ha
 |some z=>
  simp only[hz]at ha;rw[cond_eq_ite]at ha;split at ha
  case isFalse=>cases ha
  rename_i hpos;cases ha;obtain⟨zv,hzv,hl,hrel⟩:=run_zero ok w hz;have hrow:Val E I K ρ h n w (Instr.alloc t true old) (.ptr n 0 0) (.new (.row z.length [z])):=by
   refine newRow_ok (el:=t) (cells:=zv.cells) (mk:=λa=>.pointer (some a)) r hn hρ (by simpa[Nat.blt_eq]using hpos) (by simp) (by simpa using VRels.noRef_any (hrel I w)) ⟨rfl,rfl,rfl,rfl⟩ ?_ ?_
   ·simp[Instr.alloc,hzv,newVar,run_newRow]
   ·intro w' ρ' h';simp only[VRel];exact⟨_,h',by simp⟩
  rw[cond_eq_ite];split
  case isFalse=>exact hrow
  rename_i hbt;clear hrow;obtain⟨r1,hr1⟩:∃r1,r1=VRels.noRef_any (hrel I w) (ρ:=ρ):=⟨_,rfl⟩
  have hset:=PMap.set_old (m:=⟨w.heap.size,0,z.length,zv.cells.size⟩) hρ;have hold:∀c,I c→({ w with heap:=w.heap.push (.cells zv.cells t) }:World).heap[c]?=w.heap[c]?:=by intro c hc;have:=r.imm c hc;show(w.heap.push _)[c]?=_;rw[Array.getElem?_push,if_neg (by omega)]
  have hnew:({ w with heap:=w.heap.push (.cells zv.cells t) }:World).heap[w.heap.size]?=some (.cells zv.cells t (0,0)):=by show(w.heap.push _)[_]?=_;simp
  refine⟨.pointer (some ⟨w.heap.size,0,none⟩),{ w with heap:=w.heap.push (.cells zv.cells t) },ρ.set n ⟨w.heap.size,0,z.length,zv.cells.size⟩,?_,?_,by simp only[VRel];exact⟨_,by simp[PMap.set];rfl,by simp⟩,Moves.set _ _ _ rfl⟩
  ·simp[Instr.alloc,hzv,newVar,run_newRow]
  ·refine stepped_new (ob:=.cells zv.cells t) r hn hρ rfl rfl rfl rfl rfl ?_;have hzl:=VRels.length r1;simp only[Array.length_toList]at hzl;refine⟨rfl,rfl,by simpa[Nat.blt_eq]using hpos,⟨zv.cells,hnew,rfl,by simp;omega,λ_=>by simp;omega⟩,?_⟩;rw[VRows.iff];refine⟨by simp,VAt.of_cells (cs:=zv.cells.toList) (CellsAt.of_heap hnew (λj v hj=>by simpa using hj)) ?_⟩;have:=VRels.mono (λ_ h=>h) hold _ hset r1;simpa using this
def abox(n:Nat)(x:AV):Option (AV×Eff):=
 match x with
 |.junk=>none
 |x=>bif Nat.blt 0 x.cells.length then some (.ptr n 0 0,.new (.row x.cells.length [x.cells]))else none
theorem abox_ok(r:HRel E.G I K ρ h w)(hn:h n=none)(hρ:ρ n=none){t:TypeId}{x v:AV}{c:Value}{e:Eff}(ha:abox n x=some (v,e))(hx:VRel I w ρ x c) :
 Val E I K ρ h n w (Instr.box t c) v e:=by
 have hj:x≠ .junk:=by rintro rfl;simp[abox]at ha
 have ha':(bif Nat.blt 0 x.cells.length then some (AV.ptr n 0 0,Eff.new (.row x.cells.length [x.cells]))else none)=some (v,e):=by cases x<;>first|exact absurd rfl hj|exact ha
 rw[cond_eq_ite]at ha';split at ha'
 case isFalse=>cases ha'
 rename_i hpos;cases ha';refine newRow_ok (el:=t) (cells:=c.cells) (mk:=λa=>.pointer (some a)) r hn hρ (by simpa[Nat.blt_eq]using hpos) (by simp) (by simpa using VRel.cells hx hj) ⟨rfl,rfl,rfl,rfl⟩ ?_ ?_
 ·simp[Instr.box,newVar,run_newRow]
 ·intro w' ρ' h';simp only[VRel];exact⟨_,h',by simp⟩
theorem amap_ok(r:HRel E.G I K ρ h w)(hn:h n=none)(hρ:ρ n=none){s:Sem Value}
 (hs:s.run E.P w = .ok (.map (some w.heap.size)) { w with heap:=w.heap.push (.map #[] 0) }):Val E I K ρ h n w s (.map n) (.new (.map [] [] [] 0)):=by
 refine⟨_,_,ρ.set n ⟨w.heap.size,0,0,0⟩,hs,?_,by simp only[VRel];exact⟨_,by simp[PMap.set];rfl,rfl⟩,Moves.set _ _ _ rfl⟩;refine stepped_new (ob:=.map #[] 0) r hn hρ rfl rfl rfl rfl rfl ?_;exact⟨#[],by simp,by simp[VRels],by simp[VRels],rfl⟩
end
end Go.Ax
/- AxAdr: addresses of fields and elements, parts of values, slices of slices and strings. -/
namespace Go.Ax
section
variable {E:Env}{I K:Nat→Prop}{ρ:PMap}{h:FHeap}{n:Nat}{w:World}
theorem VAt.drop'{vs:List AV}{b off:Nat}(i:Nat)(h:VAt I w ρ vs b off):VAt I w ρ (vs.drop i) b (off+i):=by
 by_cases hi:i≤vs.length
 ·exact VAt.drop i hi h
 ·rw[List.drop_eq_nil_of_le (by omega)];simp[VAt]
theorem addr_add(b o j:Nat):(⟨b,o,none⟩:Addr).add j=⟨b,o+j,none⟩:=by unfold Addr.add;split<;>simp_all
def afieldAddr(E:Env)(s:TypeId)(p:AV)(f:Nat):Option AV:=
 match E.und s with
 |some (.struct fs)=>match fs[f]? with
  |some fd=>bif !(E.sz fd.type==0)&&(E.und fd.type).isSome then
   match p with
   |.ptr b i o=>some (.ptr b i (o+fd.offset))
   |.iptr cs=>some (.iptr (cs.drop fd.offset))
   |_=>none
   else none
  |none=>none
 |_=>none
theorem afieldAddr_ok(ok:EnvOk E)(r:HRel E.G I K ρ h w){s:TypeId}{p v:AV}{f:Nat}{c:Value}(hl:afieldAddr E s p f=some v)(hp:VRel I w ρ p c) :
 Val E I K ρ h n w (Instr.fieldAt s c f) v .none:=by
 unfold afieldAddr at hl;cases hu:E.und s with
 |none=>simp[hu]at hl
 |some d=>
  cases d
  case struct fs=>
   simp only[hu]at hl;cases hf:fs[f]? with
   |none=>simp[hf]at hl
   |some fd=>
    simp only[hf]at hl;rw[cond_eq_ite]at hl;split at hl
    case isFalse=>cases hl
    rename_i hc;simp only[Bool.and_eq_true,Bool.not_eq_true',beq_eq_false_iff_ne]at hc;obtain⟨hz,hs⟩:=hc;obtain⟨fd',hfd⟩:=Option.isSome_iff_exists.1 hs;have hplace:∀b o:Nat,(fieldPlace ⟨b,o,none⟩ fd).run E.P w = .ok ⟨b,o+fd.offset,none⟩ w:=by intro b o;simp[fieldPlace,run_sz ok w hfd,hz,addr_add]
    cases p with
    |ptr b i o=>simp only[Option.some.injEq]at hl;subst hl;simp only[VRel]at hp;obtain⟨m,hm,rfl⟩:=hp;refine Val.here (c:=.pointer (some ⟨m.blk,m.off+i*m.k+o+fd.offset,none⟩)) r ?_ (by simp only[VRel];exact⟨m,hm,by rw[Nat.add_assoc _ o]⟩);simp[Instr.fieldAt,run_und ok w hu,hf,Instr.sureAddr,hplace]
    |iptr cs=>simp only[Option.some.injEq]at hl;subst hl;simp only[VRel]at hp;obtain⟨b,off,rfl,hI,hat⟩:=hp;refine Val.here (c:=.pointer (some ⟨b,off+fd.offset,none⟩)) r ?_ (by simp only[VRel];exact⟨b,_,rfl,hI,VAt.drop' _ hat⟩);simp[Instr.fieldAt,run_und ok w hu,hf,Instr.sureAddr,hplace]
    |_=>simp at hl
  all_goals simp[hu]at hl
theorem part_run(ok:EnvOk E){t:TypeId}{cs:List AV}{cv:Array Value}{off:Nat}{v:AV}(hv:ofCells E t ((cs.drop off).take (E.sz t))=some v)
 (hc:VRels I w ρ cs cv.toList):∃c,(part t cv off).run E.P w = .ok c w∧VRel I w ρ v c:=by
 unfold ofCells at hv;rw[cond_eq_ite]at hv;split at hv
 case isFalse=>cases hv
 rename_i hl;have hl:((cs.drop off).take (E.sz t)).length=E.sz t:=by simpa using hl
 cases hd:E.und t with
 |none=>simp[hd]at hv
 |some d=>
  simp only[hd]at hv;unfold part;cases hag:aggDesc d with
  |true=>simp only[hag,cond_true,Option.some.injEq]at hv;subst hv;refine⟨.agg (cv.extract off (off+E.sz t)),by simp[run_agg ok w hd,hag,run_sz ok w hd],?_⟩;simp only[VRel];refine⟨_,rfl,?_⟩;have:=VRels.take (E.sz t) (VRels.drop off hc);simpa[Array.toList_extract,List.extract_eq_take_drop,List.extract]using this
  |false=>
   simp only[hag,cond_false]at hv;have hk:=VRels.take (E.sz t) (VRels.drop off hc);have h0:((cs.drop off).take (E.sz t))[0]?=some v:=by rw[←List.head?_eq_getElem?];exact hv
   obtain⟨c,hcc,hvv⟩:=VRels.get 0 hk h0;have:cv[off]?=some c:=by
    rw[List.getElem?_take]at hcc;split at hcc
    ·simpa[List.getElem?_drop]using hcc
    ·cases hcc
   exact⟨c,by simp[run_agg ok w hd,hag,this],hvv⟩
theorem part_ok(ok:EnvOk E)(r:HRel E.G I K ρ h w){t:TypeId}{cs:List AV}{cv:Array Value}{off:Nat}{v:AV}(hv:ofCells E t ((cs.drop off).take (E.sz t))=some v)
 (hc:VRels I w ρ cs cv.toList):Val E I K ρ h n w (part t cv off) v .none:=by
 obtain⟨c,h1,h2⟩:=part_run ok hv hc;exact Val.here r h1 h2
def afield(E:Env)(t:TypeId)(x:AV)(f:Nat):Option AV:=
 match E.und t,x with
 |some (.struct fs),.agg cs=>match fs[f]? with
  |some fd=>ofCells E fd.type ((cs.drop fd.offset).take (E.sz fd.type))
  |none=>none
 |_,_=>none
theorem afield_ok(ok:EnvOk E)(r:HRel E.G I K ρ h w){t:TypeId}{x v:AV}{f:Nat}{c:Value}(hl:afield E t x f=some v)(hx:VRel I w ρ x c) :
 Val E I K ρ h n w (Instr.field t c f) v .none:=by
 unfold afield at hl;split at hl
 ·rename_i fs cs hu;cases hf:fs[f]? with
  |none=>simp[hf]at hl
  |some fd=>
   simp only[hf]at hl;simp only[VRel]at hx;obtain⟨cv,rfl,hc⟩:=hx;have hrun:(Instr.field t (.agg cv) f).run E.P w=(part fd.type cv fd.offset).run E.P w:=by simp[Instr.field,run_und ok w hu,hf,asAgg]
   obtain⟨c,w',ρ',h1,h2⟩:=part_ok ok (n:=n) r hl hc;exact⟨c,w',ρ',by rw[hrun,h1],h2⟩
 ·cases hl
def aidx(x:AV)(len:Nat):Option Nat:=
 match x with
 |.int _ i=>bif decide (0≤i)&&decide (i<(len:Int))then some i.toNat else none
 |_=>none
theorem aidx_ok{x:AV}{len j:Nat}{c:Value}(hi:aidx x len=some j)(hx:VRel I w ρ x c):∃k i,c = .int k i∧x = .int k i∧0≤i∧i<len∧i.toNat=j∧j<len:=by
 unfold aidx at hi;split at hi
 ·rename_i k i;rw[cond_eq_ite]at hi;split at hi
  ·rename_i hc;simp only[Bool.and_eq_true,decide_eq_true_eq]at hc;simp only[VRel]at hx;cases hi;exact⟨k,i,hx,rfl,hc.1,hc.2,rfl,by omega⟩
  ·cases hi
 ·cases hi
def aindexAddr(E:Env)(h:FHeap)(t:TypeId)(p ix:AV):Option AV:=
 match E.und t with
 |some (.array len elem)=>match aidx ix len with
  |some j=>bif (E.und elem).isSome then match p with
   |.ptr b i o=>some (.ptr b i (o+j*E.sz elem))
   |.iptr cs=>some (.iptr (cs.drop (j*E.sz elem)))
   |_=>none
   else none
  |none=>none
 |some (.slice elem)=>bif (E.und elem).isSome then match p with
  |.slice b off len _=>match aidx ix len with
   |some j=>match h b with
    |some (.row k _)=>bif k==E.sz elem then some (.ptr b (off+j) 0)else none
    |_=>none
   |none=>none
  |.islice rows _=>match aidx ix rows.length with
   |some j=>match rows[j]? with
    |some r=>bif r.length==E.sz elem then some (.iptr r)else none
    |none=>none
   |none=>none
  |_=>none
  else none
 |_=>none
theorem aindexAddr_ok(ok:EnvOk E)(r:HRel E.G I K ρ h w){t:TypeId}{p ix v:AV}{c ci:Value}(hl:aindexAddr E h t p ix=some v)(hp:VRel I w ρ p c)(hx:VRel I w ρ ix ci) :
 Val E I K ρ h n w (Instr.indexAt t c ci) v .none:=by
 unfold aindexAddr at hl;split at hl
 ·rename_i len elem hu;cases hi:aidx ix len with
  |none=>simp[hi]at hl
  |some j=>
   simp only[hi]at hl;obtain⟨k,i,rfl,_,h0,h1,hj,hjl⟩:=aidx_ok hi hx;rw[cond_eq_ite]at hl;split at hl
   case isFalse=>cases hl
   rename_i he;obtain⟨de,hde⟩:=Option.isSome_iff_exists.1 he;cases p with
   |ptr b i' o=>simp only[Option.some.injEq]at hl;subst hl;simp only[VRel]at hp;obtain⟨m,hm,rfl⟩:=hp;refine Val.here (c:=.pointer (some ⟨m.blk,m.off+i'*m.k+o+j*E.sz elem,none⟩)) r ?_ (by simp only[VRel];exact⟨m,hm,by rw[Nat.add_assoc _ o]⟩);simp[Instr.indexAt,asIntOf,run_und ok w hu,Instr.sureAddr,h0,h1,run_sz ok w hde,hj,addr_add]
   |iptr cs=>simp only[Option.some.injEq]at hl;subst hl;simp only[VRel]at hp;obtain⟨b,off,rfl,hI,hat⟩:=hp;refine Val.here (c:=.pointer (some ⟨b,off+j*E.sz elem,none⟩)) r ?_ (by simp only[VRel];exact⟨b,_,rfl,hI,VAt.drop' _ hat⟩);simp[Instr.indexAt,asIntOf,run_und ok w hu,Instr.sureAddr,h0,h1,run_sz ok w hde,hj,addr_add]
   |_=>simp at hl
 ·rename_i elem hu;rw[cond_eq_ite]at hl;split at hl
  case isFalse=>cases hl
  rename_i he;obtain⟨de,hde⟩:=Option.isSome_iff_exists.1 he;cases p with
  |slice b off len cap=>
   simp only at hl;cases hi:aidx ix len with
   |none=>simp[hi]at hl
   |some j=>
    simp only[hi]at hl;obtain⟨k,i,rfl,_,h0,h1,hj,hjl⟩:=aidx_ok hi hx;cases hb:h b with
    |none=>simp[hb]at hl
    |some o=>
     cases o with
     |row kk rows=>
      simp only[hb]at hl;rw[cond_eq_ite]at hl;split at hl
      case isFalse=>cases hl
      rename_i hk;have hk:kk=E.sz elem:=by simpa using hk
      cases hl;obtain⟨m,hm,_,_,ho⟩:=r.live b _ hb;simp only[VRel]at hp;obtain⟨a,cc,rfl,hle,_,hor⟩:=hp;rcases hor with hz|⟨m',hm',rfl,_⟩
      ·omega
      obtain rfl:m=m':=Option.some.inj (hm.symm.trans hm');have hmk:m.k=E.sz elem:=by rw[ho.1,hk]
      refine Val.here (c:=.pointer (some ⟨m.blk,m.off+off*m.k+j*m.k,none⟩)) r ?_ (by simp only[VRel];exact⟨m,hm,by rw[Nat.add_mul];simp;omega⟩);simp[Instr.indexAt,asIntOf,run_und ok w hu,h0,h1,run_sz ok w hde,hj,addr_add,hmk]
     |map ks vs bs cl=>simp[hb]at hl
     |siter s pos=>simp[hb]at hl
     |uset ks=>simp[hb]at hl
     |miter ks vis arm=>simp[hb]at hl
     |yloop y Fy st=>simp[hb]at hl
     |trow t x k rows=>simp[hb]at hl
  |islice rows cap=>
   simp only at hl;cases hi:aidx ix rows.length with
   |none=>simp[hi]at hl
   |some j=>
    simp only[hi]at hl;obtain⟨k,i,rfl,_,h0,h1,hj,hjl⟩:=aidx_ok hi hx;cases hr:rows[j]? with
    |none=>simp[hr]at hl
    |some rr=>
     simp only[hr]at hl;rw[cond_eq_ite]at hl;split at hl
     case isFalse=>cases hl
     rename_i hk;have hk:rr.length=E.sz elem:=by simpa using hk
     cases hl;simp only[VRel]at hp;obtain⟨a,cc,kk,rfl,hle,_,hor⟩:=hp;rcases hor with hz|⟨hs,hI,hrows⟩
     ·subst hz;simp at hjl
     obtain⟨hlen,hat⟩:=VRows.get j hrows hr;have ha:a=⟨a.block,a.off,none⟩:=by cases a;simp_all
     refine Val.here (c:=.pointer (some ⟨a.block,a.off+j*kk,none⟩)) r ?_ (by simp only[VRel];exact⟨_,_,rfl,hI,hat⟩);rw[ha];simp[Instr.indexAt,asIntOf,run_und ok w hu,h0,h1,run_sz ok w hde,hj,addr_add,←hk,hlen]
  |_=>simp at hl
 ·cases hl
def aindex(E:Env)(t:TypeId)(x ix:AV):Option AV:=
 match E.und t,x with
 |some (.array len elem),.agg cs=>match aidx ix len with
  |some j=>bif (E.und elem).isSome then ofCells E elem ((cs.drop (j*E.sz elem)).take (E.sz elem))else none
  |none=>none
 |some .string,.str s=>match aidx ix s.length with
  |some j=>match s[j]? with
   |some b=>some (.int .u8 b.toNat)
   |none=>none
  |none=>none
 |_,_=>none
theorem bytes_get(t:ByteArray)(i:Nat):t[i]?=t.data.toList[i]?:=by
 simp only[Array.getElem?_toList];by_cases hi:i<t.size
 ·have h2:i<t.data.size:=hi;rw[getElem?_pos t i hi,getElem?_pos t.data i h2];rfl
 ·have h2:¬i<t.data.size:=hi;rw[getElem?_neg t i hi,getElem?_neg t.data i h2]
theorem aindex_ok(ok:EnvOk E)(r:HRel E.G I K ρ h w){t:TypeId}{x ix v:AV}{c ci:Value}(hl:aindex E t x ix=some v)(hp:VRel I w ρ x c)(hx:VRel I w ρ ix ci) :
 Val E I K ρ h n w (Instr.index t c ci) v .none:=by
 unfold aindex at hl;split at hl
 ·rename_i len elem cs hu;cases hi:aidx ix len with
  |none=>simp[hi]at hl
  |some j=>
   simp only[hi]at hl;obtain⟨k,i,rfl,_,h0,h1,hj,hjl⟩:=aidx_ok hi hx;rw[cond_eq_ite]at hl;split at hl
   case isFalse=>cases hl
   rename_i he;obtain⟨de,hde⟩:=Option.isSome_iff_exists.1 he;simp only[VRel]at hp;obtain⟨cv,rfl,hc⟩:=hp;have hrun:(Instr.index t (.agg cv) (.int k i)).run E.P w=(part elem cv (j*E.sz elem)).run E.P w:=by simp[Instr.index,asIntOf,run_und ok w hu,h0,h1,run_sz ok w hde,hj]
   obtain⟨c,w',ρ',h1,h2⟩:=part_ok ok (n:=n) r hl hc;exact⟨c,w',ρ',by rw[hrun,h1],h2⟩
 ·rename_i s hu;cases hi:aidx ix s.length with
  |none=>simp[hi]at hl
  |some j=>
   simp only[hi]at hl;obtain⟨k,i,rfl,_,h0,h1,hj,hjl⟩:=aidx_ok hi hx;simp only[VRel]at hp;obtain⟨tb,rfl,hs⟩:=hp;cases hb:s[j]? with
   |none=>simp[hb]at hl
   |some b=>
    simp only[hb,Option.some.injEq]at hl;subst hl;have:tb[i.toNat]?=some b:=by rw[bytes_get,hs,hj,hb]
    refine Val.here (c:=.int .u8 b.toNat) r ?_ (by simp[VRel]);simp[Instr.index,asIntOf,run_und ok w hu,h0,this]
 ·cases hl
/-! ### slicing -/
def abound(x:Option AV)(y:Nat)(d:Nat):Option Nat:=
 match x with
 |none=>some d
 |some (.int _ i)=>bif decide (0≤i)&&decide (i≤(y:Int))then some i.toNat else none
 |some _=>none
def OptRel(I:Nat→Prop)(w:World)(ρ:PMap):Option AV→Option Value→Prop
 |none,c=>c=none
 |some v,c=>∃x,c=some x∧VRel I w ρ v x
theorem abound_run{x:Option AV}{c:Option Value}{y d j:Nat}(hb:abound x y d=some j)(hx:OptRel I w ρ x c)(y':Nat)(hy:y≤y')(code:BoundsCode) :
 (match c with|some v=>Instr.sliceBound v y' code|none=>pure d:Sem Nat).run E.P w = .ok j w∧(c.isSome=true→j≤y):=by
 unfold abound at hb;split at hb
 ·simp only[OptRel]at hx;subst hx;cases hb;simp
 ·rename_i k i;simp only[OptRel,VRel]at hx;obtain⟨_,rfl,rfl⟩:=hx;rw[cond_eq_ite]at hb;split at hb
  ·rename_i hc;simp only[Bool.and_eq_true,decide_eq_true_eq]at hc;cases hb;have:0≤i∧i≤(y':Int):=⟨hc.1,by omega⟩
   exact⟨by simp[Instr.sliceBound,asIntOf,this],λ_=>by omega⟩
  ·cases hb
 ·cases hb
end
end Go.Ax
/- AxSli: slices of slices and strings; composite values; rows that are made. -/
namespace Go.Ax
section
variable {E:Env}{I K:Nat→Prop}{ρ:PMap}{h:FHeap}{n:Nat}{w:World}
def capAtLeast(len:Nat)(cap:Option Nat):Nat:=match cap with|some c=>c|none=>len
def chunks(k:Nat):Nat→List AV→List (List AV)
 |0,_=>[]
 |n+1,cs=>cs.take k::chunks k n (cs.drop k)
def aslice(E:Env)(h:FHeap)(t:TypeId)(x:AV)(lo hi mx:Option AV):Option AV:=
 match E.und t,x with
 |some .string,.str s=>
  match mx,abound hi s.length s.length with
  |none,some j=>match abound lo j 0 with
   |some l=>some (.str ((s.take j).drop l))
   |none=>none
  |_,_=>none
 |some (.slice elem),.slice b off len cap=>
  bif (E.und elem).isSome then
  match h b with
  |some (.row k _)=>bif k==E.sz elem then
   match mx with
   |none=>match abound hi (capAtLeast len cap) len with
    |some j=>match abound lo j 0 with
     |some l=>some (.slice b (off+l) (j-l) (cap.map (·- l)))
     |none=>none
    |none=>none
   |some m=>match abound (some m) (capAtLeast len cap) 0 with
    |some mm=>match hi with
     |none=>none
     |some _=>match abound hi mm 0 with
      |some j=>match abound lo j 0 with
       |some l=>some (.slice b (off+l) (j-l) (some (mm-l)))
       |none=>none
      |none=>none
    |none=>none
   else none
  |_=>none
  else none
 |some (.slice elem),.islice rows cap=>
  bif (E.und elem).isSome&&rows.all (λr=>r.length==E.sz elem)then
   match mx with
   |none=>match abound hi rows.length rows.length with
    |some j=>match abound lo j 0 with
     |some l=>some (.islice ((rows.take j).drop l) (cap.map (·- l)))
     |none=>none
    |none=>none
   |some m=>match abound (some m) rows.length 0 with
    |some mm=>match hi with
     |none=>none
     |some _=>match abound hi mm 0 with
      |some j=>match abound lo j 0 with
       |some l=>some (.islice ((rows.take j).drop l) (some (mm-l)))
       |none=>none
      |none=>none
    |none=>none
  else none
 |some (.slice elem),.nilslice=>
  bif (E.und elem).isSome then
  match mx with
  |none=>match abound hi 0 0 with
   |some j=>match abound lo j 0 with
    |some _=>some .nilslice
    |none=>none
   |none=>none
  |some m=>match abound (some m) 0 0 with
   |some mm=>match hi with
    |none=>none
    |some _=>match abound hi mm 0 with
     |some j=>match abound lo j 0 with
      |some _=>some .nilslice
      |none=>none
     |none=>none
   |none=>none
  else none
 |some (.array len elem),.iptr cs=>match lo,hi,mx with
  |none,none,none=>bif (E.und elem).isSome&&(cs.length==len*E.sz elem&&Nat.blt 0 len)then some (.islice (chunks (E.sz elem) len cs) (some len))else none
  |_,_,_=>none
 |_,_=>none
theorem bounds2{lo hi:Option AV}{clo chi:Option Value}{capA lenA j l:Nat}(hj:abound hi capA lenA=some j)(hl:abound lo j 0=some l)
 (rh:OptRel I w ρ hi chi)(rl:OptRel I w ρ lo clo)(isS:Bool)(len cap:Nat)(hlen:lenA=len)(hcap:capA≤cap)(hla:lenA≤capA) :
 (Instr.sliceBounds isS len cap clo chi none).run E.P w = .ok (l,j,cap) w∧l≤j∧j≤capA:=by
 subst hlen;have hl0:=abound_run (E:=E) hl rl j (Nat.le_refl _) .sliceB;have hjl:l≤j:=by
  unfold abound at hl;split at hl
  ·cases hl;omega
  ·rw[cond_eq_ite]at hl;split at hl
   ·rename_i hc;simp only[Bool.and_eq_true,decide_eq_true_eq]at hc;cases hl;omega
   ·cases hl
  ·cases hl
 have hjc:j≤capA:=by
  unfold abound at hj;split at hj
  ·cases hj;omega
  ·rw[cond_eq_ite]at hj;split at hj
   ·rename_i hc;simp only[Bool.and_eq_true,decide_eq_true_eq]at hc;cases hj;omega
   ·cases hj
  ·cases hj
 refine⟨?_,hjl,hjc⟩;unfold Instr.sliceBounds;cases isS
 ·have hj0:=abound_run (E:=E) hj rh cap hcap .sliceAlen;cases chi<;>cases clo<;>simp at hj0 hl0<;>simp[hj0,hl0]
 ·have hj0:=abound_run (E:=E) hj rh cap hcap .sliceAcap;cases chi<;>cases clo<;>simp at hj0 hl0<;>simp[hj0,hl0]
theorem bounds3{lo hi:Option AV}{m:AV}{clo chi:Option Value}{cm:Value}{capA mm j l:Nat}(hm:abound (some m) capA 0=some mm)(hj:abound hi mm 0=some j)(hl:abound lo j 0=some l)
 (rm:VRel I w ρ m cm)(rh:OptRel I w ρ hi chi)(hhi:hi.isSome=true)(rl:OptRel I w ρ lo clo)(isS:Bool)(len cap:Nat)(hcap:capA≤cap) :
 (Instr.sliceBounds isS len cap clo chi (some cm)).run E.P w = .ok (l,j,mm) w∧l≤j∧j≤mm∧mm≤capA:=by
 have hchi:∃ch,chi=some ch:=by
  cases hi with
  |none=>simp at hhi
  |some x=>simp only[OptRel]at rh;obtain⟨y,h,_⟩:=rh;exact⟨y,h⟩
 obtain⟨ch,rfl⟩:=hchi;have hl0:=abound_run (E:=E) hl rl j (Nat.le_refl _) .slice3C;have hj0:=abound_run (E:=E) hj rh mm (Nat.le_refl _) .slice3B;have le:∀{x:Option AV} {y d z:Nat},abound x y d=some z→d≤y→z≤y:=by
  intro x y d z hz hd;unfold abound at hz;split at hz
  ·cases hz;omega
  ·rw[cond_eq_ite]at hz;split at hz
   ·rename_i hc;simp only[Bool.and_eq_true,decide_eq_true_eq]at hc;cases hz;omega
   ·cases hz
  ·cases hz
 refine⟨?_,le hl (Nat.zero_le _),le hj (Nat.zero_le _),le hm (Nat.zero_le _)⟩;unfold Instr.sliceBounds;cases isS
 ·have hm0:=abound_run (E:=E) (c:=some cm) hm (by simp only[OptRel];exact⟨cm,rfl,rm⟩) cap hcap .slice3Alen;cases clo<;>simp at hm0 hj0 hl0<;>simp[hm0,hj0,hl0]
 ·have hm0:=abound_run (E:=E) (c:=some cm) hm (by simp only[OptRel];exact⟨cm,rfl,rm⟩) cap hcap .slice3Acap;cases clo<;>simp at hm0 hj0 hl0<;>simp[hm0,hj0,hl0]
theorem run_sliceAt_slice(ok:EnvOk E){t elem:TypeId}(hu:E.und t=some (.slice elem)){de:TypeDesc}(he:E.und elem=some de){a:Option Addr}{len cap l j m:Nat}{clo chi cmx:Option Value}
 (hb:(Instr.sliceBounds true len cap clo chi cmx).run E.P w = .ok (l,j,m) w) :
 (Instr.sliceAt t (.slice a len cap) clo chi cmx).run E.P w = .ok (.slice (if m=l then a else a.map (·.add (l*E.sz elem))) (j-l) (m-l)) w:=by
 simp[Instr.sliceAt,run_und ok w hu,Instr.slice,hb,run_sz ok w he]
theorem extract_toList(s:ByteArray)(l j:Nat):(s.extract l j).data.toList=(s.data.toList.take j).drop l:=by rw[ByteArray.data_extract,Array.toList_extract,List.extract_eq_take_drop];rw[List.drop_take]
theorem vrel_slice_sub{b off len:Nat}{cap:Option Nat}{a:Addr}{c l j m:Nat}{k:Nat}{rows:List (List AV)}{capR:Option Nat}{sz:Nat}
 (r:HRel E.G I K ρ h w)(hb:h b=some (.row k rows))(hk:k=sz)(hp:VRel I w ρ (.slice b off len cap) (.slice (some a) len c))
 (hlj:l≤j)(hjm:j≤m)(hmc:m≤c)(hcap:∀n,capR=some n→m-l=n) :
 VRel I w ρ (.slice b (off+l) (j-l) capR) (.slice (if m=l then some a else(some a).map (·.add (l*sz))) (j-l) (m-l)):=by
 simp only[VRel]at hp⊢;obtain⟨a',c',he,hle,hc,hor⟩:=hp;cases he;by_cases hml:m=l
 ·rw[if_pos hml];exact⟨a,m-l,by simp,by omega,hcap,.inl (by omega)⟩
 ·rw[if_neg hml];rcases hor with h0|⟨mm,hmm,rfl,hroom⟩
  ·omega
  ·obtain⟨m',hm',_,_,ho⟩:=r.live b _ hb;obtain rfl:mm=m':=Option.some.inj (hmm.symm.trans hm');refine⟨_,m-l,rfl,by omega,hcap,.inr ⟨mm,hmm,?_,?_⟩⟩
   ·dsimp only;rw[addr_add,ho.1,hk,Nat.add_mul]
    congr 1;omega
   ·have:(off+l+(m-l))*mm.k≤(off+c)*mm.k:=Nat.mul_le_mul_right _ (by omega);omega
theorem vrel_islice_sub{rows:List (List AV)}{cap:Option Nat}{a:Addr}{c l j m sz:Nat}{capR:Option Nat}(hall:rows.all (λr=>r.length==sz)=true)
 (hp:VRel I w ρ (.islice rows cap) (.slice (some a) rows.length c))(hlj:l≤j)(hjm:j≤m)(hjr:j≤rows.length)(_:m≤c)(hcap:∀n,capR=some n→m-l=n) :
 VRel I w ρ (.islice ((rows.take j).drop l) capR) (.slice (if m=l then some a else(some a).map (·.add (l*sz))) (j-l) (m-l)):=by
 simp only[VRel]at hp⊢;obtain⟨a',c',k,he,hle,hc,hor⟩:=hp;cases he;have hlen:((rows.take j).drop l).length=j-l:=by simp;omega
 by_cases hml:m=l
 ·rw[if_pos hml];refine⟨a,m-l,k,by rw[hlen],by rw[hlen];omega,hcap,.inl ?_⟩;apply List.drop_eq_nil_of_le;simp;omega
 ·rw[if_neg hml];refine⟨_,m-l,k,by rw[hlen];rfl,by rw[hlen];omega,hcap,?_⟩;rcases hor with h0|⟨hs,hI,hrows⟩
  ·left;subst h0;simp
  ·by_cases hr:rows=[]
   ·left;subst hr;simp
   ·right;have hkk:k=sz:=by
     cases rows with
     |nil=>exact absurd rfl hr
     |cons r rs=>simp only[VRows]at hrows;simp only[List.all_cons,Bool.and_eq_true,beq_iff_eq]at hall;omega
    have ha:a=⟨a.block,a.off,none⟩:=by cases a;simp_all
    rw[ha];dsimp only;rw[addr_add];refine⟨rfl,hI,?_⟩;have h2:l≤(rows.take j).length:=by simp;omega
    have:=VRows.drop l h2 (VRows.take j hrows);rw[hkk]at this⊢;exact this
theorem chunks_len(k:Nat):∀(n:Nat) (cs:List AV),(chunks k n cs).length=n
 |0,_=>rfl
 |n+1,cs=>by simp[chunks,chunks_len k n]
theorem chunks_rows{k:Nat}:∀(n:Nat) {cs:List AV} {b off:Nat},cs.length=n*k→VAt I w ρ cs b off→VRows I w k ρ (chunks k n cs) b off
 |0,cs,b,off,_,_=>by simp[chunks,VRows]
 |n+1,cs,b,off,hl,hv=>by rw[Nat.succ_mul]at hl;simp only[chunks,VRows];refine⟨by rw[List.length_take];omega,VAt.take k hv,?_⟩;have hd:=VAt.drop (I:=I) (w:=w) (ρ:=ρ) k (by omega:k≤cs.length) hv;exact chunks_rows n (by rw[List.length_drop];omega) hd
theorem aslice_arr_ok(ok:EnvOk E)(r:HRel E.G I K ρ h w){n:Nat}{t elem:TypeId}{len:Nat}(hu:E.und t=some (.array len elem)){de:TypeDesc}(hde:E.und elem=some de){cs:List AV}{c:Value}
 (hlen:cs.length=len*E.sz elem)(hpos:0<len)(hx:VRel I w ρ (.iptr cs) c):Val E I K ρ h n w (Instr.sliceAt t c none none none) (.islice (chunks (E.sz elem) len cs) (some len)) .none:=by
 simp only[VRel]at hx;obtain⟨b,off,rfl,hI,hat⟩:=hx;have hn0:¬len=0:=by omega
 have hb:=bounds2 (E:=E) (I:=I) (ρ:=ρ) (w:=w) (lo:=none) (hi:=none) (clo:=none) (chi:=none) (capA:=len) (lenA:=len) (j:=len) (l:=0) rfl rfl (by simp[OptRel]) (by simp[OptRel]) false len len rfl (Nat.le_refl _) (Nat.le_refl _);refine Val.here (c:=.slice (some ⟨b,off,none⟩) len len) r ?_ ?_
 ·simp[Instr.sliceAt,run_und ok w hu,Instr.sureAddr,hb.1,run_sz ok w hde,hn0,addr_add]
 ·simp only[VRel];refine⟨_,len,E.sz elem,by rw[chunks_len],by rw[chunks_len];exact Nat.le_refl _,λq hq=>by cases hq;rfl,.inr ⟨rfl,hI,chunks_rows len hlen hat⟩⟩
theorem aslice_ok(ok:EnvOk E)(r:HRel E.G I K ρ h w){t:TypeId}{x v:AV}{lo hi mx:Option AV}{c:Value}{clo chi cmx:Option Value}(hl:aslice E h t x lo hi mx=some v)
 (hx:VRel I w ρ x c)(rl:OptRel I w ρ lo clo)(rh:OptRel I w ρ hi chi)(rm:OptRel I w ρ mx cmx):Val E I K ρ h n w (Instr.sliceAt t c clo chi cmx) v .none:=by
 unfold aslice at hl;split at hl
 · -- strings
  rename_i s hu;split at hl
  ·rename_i j hj;simp only[OptRel]at rm;subst rm;cases hlo:abound lo j 0 with
   |none=>simp[hlo]at hl
   |some l=>
    simp only[hlo,Option.some.injEq]at hl;subst hl;simp only[VRel]at hx;obtain⟨tb,rfl,hs⟩:=hx;have hsz:tb.size=s.length:=by rw[←hs,Array.length_toList];rfl
    obtain⟨hb,h1,h2⟩:=bounds2 (E:=E) hj hlo rh rl false tb.size tb.size hsz.symm (by omega) (Nat.le_refl _);refine Val.here (c:=.string (tb.extract l j)) r ?_ (by simp only[VRel];exact⟨_,rfl,by rw[extract_toList,hs]⟩);simp[Instr.sliceAt,run_und ok w hu,Instr.slice,hb]
  ·cases hl
 · -- a mutable block
  rename_i elem b off len cap hu;rw[cond_eq_ite]at hl;split at hl
  case isFalse=>cases hl
  rename_i he;obtain⟨de,hde⟩:=Option.isSome_iff_exists.1 he;split at hl
  case h_2=>cases hl
  rename_i k rows hb;rw[cond_eq_ite]at hl;split at hl
  case isFalse=>cases hl
  rename_i hk;have hk:k=E.sz elem:=by simpa using hk
  have hx':=hx;simp only[VRel]at hx';obtain⟨a,cc,rfl,hle,hcap,hor⟩:=hx';have hcapA:capAtLeast len cap≤cc:=by unfold capAtLeast;cases cap with|none=>exact hle|some c=>rw[hcap c rfl];exact Nat.le_refl _
  have hlenA:len≤capAtLeast len cap:=by unfold capAtLeast;cases cap with|none=>exact Nat.le_refl _|some c=>rw[←hcap c rfl];exact hle
  cases mx with
  |none=>
   simp only[OptRel]at rm;subst rm;simp only at hl;cases hj:abound hi (capAtLeast len cap) len with
   |none=>simp[hj]at hl
   |some j=>
    simp only[hj]at hl;cases hlo:abound lo j 0 with
    |none=>simp[hlo]at hl
    |some l=>
     simp only[hlo,Option.some.injEq]at hl;subst hl;obtain⟨hbd,h1,h2⟩:=bounds2 (E:=E) hj hlo rh rl true len cc rfl hcapA hlenA;refine Val.here r (run_sliceAt_slice ok hu hde hbd) (vrel_slice_sub r hb hk hx h1 (by omega) (Nat.le_refl _) ?_);intro q hq;cases cap with
     |none=>simp at hq
     |some c=>simp at hq;rw[hcap c rfl];exact hq
  |some m=>
   simp only[OptRel]at rm;obtain⟨cm,rfl,rm⟩:=rm;simp only at hl;cases hmm:abound (some m) (capAtLeast len cap) 0 with
   |none=>simp[hmm]at hl
   |some mm=>
    simp only[hmm]at hl;cases hi with
    |none=>simp at hl
    |some hi=>
     simp only at hl;cases hj:abound (some hi) mm 0 with
     |none=>simp[hj]at hl
     |some j=>
      simp only[hj]at hl;cases hlo:abound lo j 0 with
      |none=>simp[hlo]at hl
      |some l=>simp only[hlo,Option.some.injEq]at hl;subst hl;obtain⟨hbd,h1,h2,h3⟩:=bounds3 (E:=E) hmm hj hlo rm rh rfl rl true len cc hcapA;exact Val.here r (run_sliceAt_slice ok hu hde hbd) (vrel_slice_sub r hb hk hx h1 h2 (by omega) (λq hq=>by cases hq;rfl))
 · -- immutable memory
  rename_i elem rows cap hu;rw[cond_eq_ite]at hl;split at hl
  case isFalse=>cases hl
  rename_i he;simp only[Bool.and_eq_true]at he;obtain⟨de,hde⟩:=Option.isSome_iff_exists.1 he.1;have hx':=hx;simp only[VRel]at hx';obtain⟨a,cc,kk,rfl,hle,hcap,hor⟩:=hx';cases mx with
  |none=>
   simp only[OptRel]at rm;subst rm;simp only at hl;cases hj:abound hi rows.length rows.length with
   |none=>simp[hj]at hl
   |some j=>
    simp only[hj]at hl;cases hlo:abound lo j 0 with
    |none=>simp[hlo]at hl
    |some l=>
     simp only[hlo,Option.some.injEq]at hl;subst hl;obtain⟨hbd,h1,h2⟩:=bounds2 (E:=E) hj hlo rh rl true rows.length cc rfl hle (Nat.le_refl _);refine Val.here r (run_sliceAt_slice ok hu hde hbd) (vrel_islice_sub he.2 hx h1 (by omega) h2 (Nat.le_refl _) ?_);intro q hq;cases cap with
     |none=>simp at hq
     |some c=>simp at hq;rw[hcap c rfl];exact hq
  |some m=>
   simp only[OptRel]at rm;obtain⟨cm,rfl,rm⟩:=rm;simp only at hl;cases hmm:abound (some m) rows.length 0 with
   |none=>simp[hmm]at hl
   |some mm=>
    simp only[hmm]at hl;cases hi with
    |none=>simp at hl
    |some hi=>
     simp only at hl;cases hj:abound (some hi) mm 0 with
     |none=>simp[hj]at hl
     |some j=>
      simp only[hj]at hl;cases hlo:abound lo j 0 with
      |none=>simp[hlo]at hl
      |some l=>simp only[hlo,Option.some.injEq]at hl;subst hl;obtain⟨hbd,h1,h2,h3⟩:=bounds3 (E:=E) hmm hj hlo rm rh rfl rl true rows.length cc hle;exact Val.here r (run_sliceAt_slice ok hu hde hbd) (vrel_islice_sub he.2 hx h1 h2 (by omega) (by omega) (λq hq=>by cases hq;rfl))
 · -- nil
  rename_i elem hu;rw[cond_eq_ite]at hl;split at hl
  case isFalse=>cases hl
  rename_i he;obtain⟨de,hde⟩:=Option.isSome_iff_exists.1 he;simp only[VRel]at hx;subst hx;cases mx with
  |none=>
   simp only[OptRel]at rm;subst rm;simp only at hl;cases hj:abound hi 0 0 with
   |none=>simp[hj]at hl
   |some j=>
    simp only[hj]at hl;cases hlo:abound lo j 0 with
    |none=>simp[hlo]at hl
    |some l=>
     simp only[hlo,Option.some.injEq]at hl;subst hl;obtain⟨hbd,h1,h2⟩:=bounds2 (E:=E) hj hlo rh rl true 0 0 rfl (Nat.le_refl _) (Nat.le_refl _);obtain rfl:j=0:=by omega
     obtain rfl:l=0:=by omega
     exact Val.here (c:=.slice none 0 0) r (by rw[run_sliceAt_slice ok hu hde hbd];rfl) (by simp[VRel])
  |some m=>
   simp only[OptRel]at rm;obtain⟨cm,rfl,rm⟩:=rm;simp only at hl;cases hmm:abound (some m) 0 0 with
   |none=>simp[hmm]at hl
   |some mm=>
    simp only[hmm]at hl;cases hi with
    |none=>simp at hl
    |some hi=>
     simp only at hl;cases hj:abound (some hi) mm 0 with
     |none=>simp[hj]at hl
     |some j=>
      simp only[hj]at hl;cases hlo:abound lo j 0 with
      |none=>simp[hlo]at hl
      |some l=>
       simp only[hlo,Option.some.injEq]at hl;subst hl;obtain⟨hbd,h1,h2,h3⟩:=bounds3 (E:=E) hmm hj hlo rm rh rfl rl true 0 0 (Nat.le_refl _);obtain rfl:mm=0:=by omega
       obtain rfl:j=0:=by omega
       obtain rfl:l=0:=by omega
       exact Val.here (c:=.slice none 0 0) r (by rw[run_sliceAt_slice ok hu hde hbd];rfl) (by simp[VRel])
 · -- a whole array
  rename_i len elem cs hu;split at hl
  case h_2=>cases hl
  rw[cond_eq_ite]at hl;split at hl
  case isFalse=>cases hl
  rename_i he;simp only[Bool.and_eq_true,beq_iff_eq]at he;obtain⟨he,hlen,hp⟩:=he;obtain⟨de,hde⟩:=Option.isSome_iff_exists.1 he;have hp:0<len:=by simpa[Nat.blt_eq]using hp
  cases hl;simp only[OptRel]at rl rh rm;subst rl rh rm;exact aslice_arr_ok ok r hu hde hlen hp hx
 ·cases hl
end
end Go.Ax
/- AxMake: composite values, slice literals, make. -/
namespace Go.Ax
section
variable {E:Env}{I K:Nat→Prop}{ρ:PMap}{h:FHeap}{n:Nat}{w:World}
def AV.isJunk:AV→Bool
 |.junk=>true
 |_=>false
theorem AV.not_junk{v:AV}(h:v.isJunk=false):v≠ .junk:=by rintro rfl;simp[AV.isJunk]at h
def afill(place:Nat→Option (Nat×Nat))(cells:List AV):List (Nat×AV)→Option (List AV)
 | []=>some cells
 |(i,v)::rest=>match place i with
  |none=>none
  |some (off,size)=>bif !v.isJunk&&v.cells.length==size&&Nat.ble (off+size) cells.length then afill place (splice cells off v.cells) rest else none
def PartsRel(I:Nat→Prop)(w:World)(ρ:PMap):List (Nat×AV)→List (Nat×Value)→Prop
 | [],l=>l=[]
 |(i,v)::r,l=>∃c r',l=(i,c)::r'∧VRel I w ρ v c∧PartsRel I w ρ r r'
def cput(a:List Value)(off:Nat)(cs:List Value):List Value:=a.take off++cs++a.drop (off+cs.length)
theorem foldl_put(off:Nat):∀(cs:List Value) (j:Nat) (a:Array Value),off+j+cs.length≤a.size→
 (((cs.zipIdx j).foldl (λ(a:Array Value) (x:Value×Nat)=>a.setIfInBounds (off+x.2) x.1) a).toList=cput a.toList (off+j) cs)
 | [],j,a,_=>by simp[cput]
 |c::cs,j,a,hl=>by
  simp only[List.length_cons]at hl;simp only[List.zipIdx_cons,List.foldl_cons];rw[foldl_put off cs (j+1) _ (by simp;omega)];unfold cput;simp only[Array.toList_setIfInBounds,List.length_cons];rw[show off+(j+1)=(off+j)+1 by omega,show(off+j)+(cs.length+1)=(off+j)+1+cs.length by omega];have hlt:off+j<a.toList.length:=by simp;omega
  rw[List.take_succ_eq_append_getElem (by simpa using hlt),List.take_set_of_le (Nat.le_refl _),List.drop_set_of_lt (by omega)];simp
theorem VRels.splice{vs cs:List AV}{xs ys:List Value}{off:Nat}(h:VRels I w ρ vs xs)(k:VRels I w ρ cs ys):VRels I w ρ (Ax.splice vs off cs) (cput xs off ys):=by unfold Ax.splice cput;rw[VRels.length k];exact VRels.append (VRels.append (VRels.take off h) k) (VRels.drop _ h)
theorem afill_ok{place:Nat→Option (Nat×Nat)}:∀{parts:List (Nat×AV)} {cells res:List AV} {cv:Array Value} {cparts:List (Nat×Value)},
 afill place cells parts=some res→VRels I w ρ cells cv.toList→PartsRel I w ρ parts cparts→∃cv',Instr.fill place cv cparts=some cv'∧VRels I w ρ res cv'.toList
 | [],cells,res,cv,cparts,hf,hc,hp=>by simp only[PartsRel]at hp;subst hp;simp only[afill,Option.some.injEq]at hf;subst hf;exact⟨cv,rfl,hc⟩
 |(i,v)::rest,cells,res,cv,cparts,hf,hc,hp=>by
  simp only[PartsRel]at hp;obtain⟨c,r',rfl,hv,hp⟩:=hp;simp only[afill]at hf;cases hpl:place i with
  |none=>simp[hpl]at hf
  |some os=>
   obtain⟨off,size⟩:=os;simp only[hpl]at hf;rw[cond_eq_ite]at hf;split at hf
   case isFalse=>cases hf
   rename_i hcond;simp only[Bool.and_eq_true,Bool.not_eq_true',beq_iff_eq,Nat.ble_eq]at hcond;obtain⟨⟨hj,hsz⟩,hfit⟩:=hcond;have hcs:=VRel.cells hv (AV.not_junk hj);have hlc:=VRels.length hcs;have hlcell:=VRels.length hc;simp only[Array.length_toList]at hlc hlcell;have hput:=foldl_put off c.cells.toList 0 cv (by simp;omega);simp only[Nat.add_zero]at hput;have hnew:VRels I w ρ (splice cells off v.cells) ((c.cells.zipIdx.foldl (λcs (x:Value×Nat)=>cs.setIfInBounds (off+x.2) x.1) cv).toList):=by
    have e:(c.cells.zipIdx.foldl (λcs (x:Value×Nat)=>cs.setIfInBounds (off+x.2) x.1) cv) =
     (c.cells.toList.zipIdx.foldl (λcs (x:Value×Nat)=>cs.setIfInBounds (off+x.2) x.1) cv):=by
     rw[←Array.foldl_toList,Array.toList_zipIdx]
    rw[e,hput];exact VRels.splice hc hcs
   obtain⟨cv',h1,h2⟩:=afill_ok hf hnew hp;refine⟨cv',?_,h2⟩;simp only[Instr.fill,hpl];have:¬((c.cells.size≠size||decide (off+c.cells.size>cv.size))=true):=by simp only[ne_eq,Bool.or_eq_true,decide_eq_true_eq,not_or];omega
   rw[if_neg (by simpa using this)];exact h1
def abuild(E:Env)(t:TypeId)(parts:List (Nat×AV)):Option AV:=
 match E.zero t with
 |none=>none
 |some z=>match E.und t with
  |some (.struct fs)=>bif fs.toList.all (λf=>(E.und f.type).isSome)then
   match afill (λi=>(fs[i]?).map λf=>(f.offset,E.sz f.type)) z parts with
   |some cs=>some (.agg cs)
   |none=>none
   else none
  |some (.array _ elem)=>bif (E.und elem).isSome then
   match afill (λi=>some (i*E.sz elem,E.sz elem)) z parts with
   |some cs=>some (.agg cs)
   |none=>none
   else none
  |_=>none
theorem run_places(ok:EnvOk E):∀(fs:List Field) (w:World),fs.all (λf=>(E.und f.type).isSome)=true→
 (fs.mapM (λf=>do pure (f.offset,←sizeOf f.type):Field→Sem (Nat×Nat))).run E.P w = .ok (fs.map λ(f:Field)=>(f.offset,E.sz f.type)) w
 | [],w,_=>by simp
 |f::fs,w,hf=>by simp only[List.all_cons,Bool.and_eq_true]at hf;obtain⟨d,hd⟩:=Option.isSome_iff_exists.1 hf.1;have ih:=run_places ok fs w hf.2;simp only[List.mapM_cons,Sem.run_bind,run_sz ok w hd,Result.andThen_ok,Sem.run_pure,ih,List.map_cons]
theorem abuild_ok(ok:EnvOk E)(r:HRel E.G I K ρ h w){t:TypeId}{parts:List (Nat×AV)}{cparts:List (Nat×Value)}{v:AV}(hl:abuild E t parts=some v)(hp:PartsRel I w ρ parts cparts) :
 Val E I K ρ h n w (Instr.build t cparts.toArray) v .none:=by
 unfold abuild at hl;cases hz:E.zero t with
 |none=>simp[hz]at hl
 |some z=>
  simp only[hz]at hl;obtain⟨zv,hzv,_,hrel⟩:=run_zero ok w hz;have hcells:VRels I w ρ z zv.cells.toList:=VRels.noRef_any (hrel I w);split at hl
  ·rename_i fs hu;rw[cond_eq_ite]at hl;split at hl
   case isFalse=>cases hl
   rename_i hall;split at hl
   case h_2=>cases hl
   rename_i cs hf;cases hl;obtain⟨cv',h1,h2⟩:=afill_ok hf hcells hp;refine Val.here (c:=.agg cv') r ?_ (by simp only[VRel];exact⟨cv',rfl,h2⟩);have hpl:=run_places ok fs.toList w hall;have hm:(fs.mapM (λf=>do pure (f.offset,←sizeOf f.type):Field→Sem (Nat×Nat))).run E.P w = .ok (fs.map λ(f:Field)=>(f.offset,E.sz f.type)) w:=by
    rw[Array.mapM_eq_mapM_toList,Sem.run_map,hpl];simp only[Result.andThen_ok]
    congr 1
    apply Array.ext';simp
   have hplace:(λ(i:Nat)=>(fs.map λ(f:Field)=>(f.offset,E.sz f.type))[i]?)=(λ(i:Nat)=>(fs[i]?).map λ(f:Field)=>(f.offset,E.sz f.type)):=by funext i;simp
   simp only[Instr.build,Sem.run_bind,hzv,Result.andThen_ok,run_und ok w hu,hm,hplace,h1,Sem.run_pure]
  ·rename_i m elem hu;rw[cond_eq_ite]at hl;split at hl
   case isFalse=>cases hl
   rename_i he;obtain⟨de,hde⟩:=Option.isSome_iff_exists.1 he;split at hl
   case h_2=>cases hl
   rename_i cs hf;cases hl;obtain⟨cv',h1,h2⟩:=afill_ok hf hcells hp;refine Val.here (c:=.agg cv') r ?_ (by simp only[VRel];exact⟨cv',rfl,h2⟩);simp only[Instr.build,Sem.run_bind,hzv,Result.andThen_ok,run_und ok w hu,run_sz ok w hde,h1,Sem.run_pure]
  ·cases hl
/-! ### rows of equal elements -/
theorem range_mod_flatten{α:Type}[Inhabited α](zs:List α):∀c:Nat,((List.range (c*zs.length)).map λi=>zs[i%zs.length]!)=(List.replicate c zs).flatten
 |0=>by simp
 |c+1=>by
  rw[Nat.succ_mul,List.range_add,List.map_append,range_mod_flatten zs c,List.replicate_succ',List.flatten_append]
  congr 1
  simp only[List.map_map,List.flatten_cons,List.flatten_nil,List.append_nil];apply List.ext_getElem
  ·simp
  ·intro i h1 h2;simp only[List.getElem_map,List.getElem_range,Function.comp];rw[Nat.add_comm,Nat.add_mul_mod_self_right,Nat.mod_eq_of_lt h2];simp[h2]
theorem VRels.flatten_replicate{z:List AV}{zs:List Value}(hz:VRels I w ρ z zs):∀c,VRels I w ρ (List.replicate c z).flatten (List.replicate c zs).flatten
 |0=>by simp[VRels]
 |c+1=>by simp only[List.replicate_succ,List.flatten_cons];exact VRels.append hz (VRels.flatten_replicate hz c)
def amakeSlice(E:Env)(n:Nat)(t:TypeId)(len cap:AV):Option (AV×Eff):=
 match E.und t,len,cap with
 |some (.slice elem),.int _ l,.int _ c=>
  match E.zero elem with
  |some z=>bif decide (0≤l)&&decide (l≤c)&&decide (c≤281474976710656)&&decide ((E.bytes elem:Int)*c≤281474976710656)&&Nat.blt 0 z.length then
   some (.slice n 0 l.toNat (some c.toNat),.new (.row z.length (List.replicate c.toNat z)))else none
  |none=>none
 |_,_,_=>none
theorem wrap_small{x:Int}(h0:0≤x)(h1:x≤281474976710656):IntKind.i64.wrap x=x:=by simp[IntKind.wrap,IntKind.signed,IntKind.bits];omega
theorem amakeSlice_ok(ok:EnvOk E)(r:HRel E.G I K ρ h w)(hn:h n=none)(hρ:ρ n=none){t:TypeId}{len cap v:AV}{e:Eff}{cl cc:Value}(ha:amakeSlice E n t len cap=some (v,e))
 (hlen:VRel I w ρ len cl)(hcap:VRel I w ρ cap cc):Val E I K ρ h n w (Instr.makeSlice t cl cc) v e:=by
 unfold amakeSlice at ha;split at ha
 ·rename_i elem k1 l k2 c hu;cases hz:E.zero elem with
  |none=>simp[hz]at ha
  |some z=>
   simp only[hz]at ha;rw[cond_eq_ite]at ha;split at ha
   case isFalse=>cases ha
   rename_i hc;simp only[Bool.and_eq_true,decide_eq_true_eq,Nat.blt_eq]at hc;obtain⟨⟨⟨⟨h0,h1⟩,h2⟩,h3⟩,h4⟩:=hc;cases ha;simp only[VRel]at hlen hcap;subst hlen hcap;obtain⟨⟨de,hde⟩,_⟩:=ok.zero elem z hz;obtain⟨zv,hzv,hzl,hrel⟩:=run_zero ok w hz;have hzr:=hrel I w;have hzlen:=VRels.length hzr;obtain⟨i,hi,hi1,hi2⟩:=run_info ok w hde;have hwc:IntKind.i64.wrap c=c:=wrap_small (by omega) h2;have hwl:IntKind.i64.wrap l=l:=wrap_small h0 (by omega);have hbc:(i.bytes:Int)*c≤281474976710656:=by rw[hi2];exact h3
   have hbl:(i.bytes:Int)*l≤281474976710656:=Int.le_trans (Int.mul_le_mul_of_nonneg_left h1 (by omega)) hbc;have hzero:∀w',(zeroValue elem).run E.P w' = .ok zv w':=by intro w';obtain⟨_,i',z',hi',hz',_⟩:=ok.zero elem z hz;have:=hzv;simp[zeroValue,typeInfo,hi',hz']at this⊢;exact this
   refine newRow_ok (el:=elem) (k:=z.length) (rows:=List.replicate c.toNat z) (cells:=(Array.range (c.toNat*E.sz elem)).map (λi=>zv.cells[i%zv.cells.size]!))
    (mk:=λa=>.slice (some a) l.toNat c.toNat) r hn hρ h4 (by intro x hx;rw[List.eq_of_mem_replicate hx]) ?_ ⟨rfl,rfl,rfl,rfl⟩ ?_ ?_
   ·rw[show((Array.range (c.toNat*E.sz elem)).map (λi=>zv.cells[i%zv.cells.size]!)).toList=(List.replicate c.toNat zv.cells.toList).flatten by
     rw[←range_mod_flatten];simp only[Array.toList_map,Array.toList_range,Array.length_toList];rw[show E.sz elem=zv.cells.size by rw[←hzl,hzlen];simp];apply List.map_congr_left;intro a _;rw[Array.getElem!_toList]]
    exact VRels.flatten_replicate (VRels.noRef_any hzr) _
   ·have hnot:¬(c<0∨281474976710656<(i.bytes:Int)*c):=by omega
    have e1:(decide (c<0)||decide ((i.bytes:Int)*c>2^48)||decide (l<0)||decide (l>c))=false:=by simp only[Bool.or_eq_false_iff,decide_eq_false_iff_not];omega
    simp only[Instr.makeSlice,Sem.run_bind,run_und ok w hu,Result.andThen_ok,asInt,asIntOf,Sem.run_pure,hi,hwc,hwl];simp only[e1,Bool.false_eq_true,if_false];by_cases hn0:c.toNat*E.sz elem=0
    ·have:c.toNat=0:=by
      rcases Nat.mul_eq_zero.1 hn0 with h|h
      ·exact h
      ·omega
     have hr0:∀f:Nat→Value,Array.map f (Array.range 0) = #[]:=by intro f;simp
     simp[run_sz ok w hde,this,run_newRow];rw[hr0,hr0]
    ·simp[run_sz ok w hde,hn0,hzero,run_newRow]
   ·intro w' ρ' h';simp only[VRel];exact⟨_,c.toNat,rfl,by omega,λq hq=>by cases hq;rfl,.inr ⟨_,h',by simp,by simp[hzl]⟩⟩
 ·cases ha
def arows(k:Nat)(rows:List (List AV)):List (Nat×AV)→Option (List (List AV))
 | []=>some rows
 |(i,v)::rest=>bif !v.isJunk&&v.cells.length==k&&Nat.blt i rows.length then arows k (rows.set i v.cells) rest else none
theorem flatten_set{k:Nat}:∀(rows:List (List AV)) (i:Nat) (cs:List AV),(∀r∈rows,r.length=k)→cs.length=k→i<rows.length→(rows.set i cs).flatten=splice rows.flatten (i*k) cs
 | [],i,cs,_,_,hi=>by simp at hi
 |r::rows,0,cs,hr,hc,_=>by
  have:r.length=cs.length:=by rw[hr r (by simp),hc]
  simp[splice,←this]
 |r::rows,i+1,cs,hr,hc,hi=>by have hk:r.length=k:=hr r (by simp);have ih:=flatten_set rows i cs (λr hr'=>hr r (by simp[hr'])) hc (by simpa using hi);simp only[List.set_cons_succ,List.flatten_cons,ih];unfold splice;rw[Nat.succ_mul,List.take_append,List.drop_append];have e1:r.take (i*k+k)=r:=List.take_of_length_le (by omega);have e2:r.drop (i*k+k+cs.length)=[]:=List.drop_eq_nil_of_le (by omega);rw[e1,e2];rw[show i*k+k-r.length=i*k by omega,show i*k+k+cs.length-r.length=i*k+cs.length by omega];simp
theorem arows_fill{k:Nat}(len:Nat):∀{parts:List (Nat×AV)} {rows res:List (List AV)},arows k rows parts=some res→(∀r∈rows,r.length=k)→rows.length=len→
 afill (λi=>some (i*k,k)) rows.flatten parts=some res.flatten∧(∀r∈res,r.length=k)∧res.length=len
 | [],rows,res,hf,hr,hlen=>by simp only[arows,Option.some.injEq]at hf;subst hf;exact⟨rfl,hr,hlen⟩
 |(i,v)::rest,rows,res,hf,hr,hlen=>by
  simp only[arows]at hf;rw[cond_eq_ite]at hf;split at hf
  case isFalse=>cases hf
  rename_i hc;simp only[Bool.and_eq_true,Bool.not_eq_true',beq_iff_eq,Nat.blt_eq]at hc;obtain⟨⟨hj,hk⟩,hi⟩:=hc;have ih:=arows_fill len hf (by
   intro r hr';rcases List.mem_or_eq_of_mem_set hr' with h|h
   ·exact hr r h
   ·rw[h,hk]) (by simpa using hlen)
  refine⟨?_,ih.2⟩;simp only[afill];have hfl:=flatten_length_of hr;have hfit:Nat.ble (i*k+k) rows.flatten.length=true:=by rw[Nat.ble_eq,hfl,←Nat.succ_mul];exact Nat.mul_le_mul_right k hi
  simp only[hj,hk,hfit,Bool.not_false,beq_self_eq_true,Bool.and_self,cond_true];rw[←flatten_set rows i v.cells hr hk hi];exact ih.1
def abuildSlice(E:Env)(n:Nat)(t:TypeId)(len:Nat)(parts:List (Nat×AV)):Option (AV×Eff):=
 match E.und t with
 |some (.slice elem)=>match E.zero elem with
  |some z=>bif Nat.blt 0 z.length&&Nat.ble (len*z.length) 16777216 then
   match arows z.length (List.replicate len z) parts with
   |some rows=>some (.slice n 0 len (some len),.new (.row z.length rows))
   |none=>none
   else none
  |none=>none
 |_=>none
theorem abuildSlice_ok(ok:EnvOk E)(r:HRel E.G I K ρ h w)(hn:h n=none)(hρ:ρ n=none){t:TypeId}{len:Nat}{parts:List (Nat×AV)}{cparts:List (Nat×Value)}{v:AV}{e:Eff}
 (ha:abuildSlice E n t len parts=some (v,e))(hp:PartsRel I w ρ parts cparts):Val E I K ρ h n w (Instr.buildSlice t len cparts.toArray) v e:=by
 unfold abuildSlice at ha;split at ha
 ·rename_i elem hu;cases hz:E.zero elem with
  |none=>simp[hz]at ha
  |some z=>
   simp only[hz]at ha;rw[cond_eq_ite]at ha;split at ha
   case isFalse=>cases ha
   rename_i hc;simp only[Bool.and_eq_true,Nat.blt_eq,Nat.ble_eq]at hc;split at ha
   case h_2=>cases ha
   rename_i rows hrows;cases ha;obtain⟨⟨de,hde⟩,_⟩:=ok.zero elem z hz;obtain⟨zv,hzv,hzl,hrel⟩:=run_zero ok w hz;have hzr:=hrel I w;have hzlen:=VRels.length hzr;simp only[Array.length_toList]at hzlen;obtain⟨hfill,hlens,hlen⟩:=arows_fill len hrows (by intro x hx;rw[List.eq_of_mem_replicate hx]) (by simp);have hcell0:VRels I w ρ (List.replicate len z).flatten ((Array.range (len*E.sz elem)).map (λi=>zv.cells[i%zv.cells.size]!)).toList:=by rw[show((Array.range (len*E.sz elem)).map (λi=>zv.cells[i%zv.cells.size]!)).toList=(List.replicate len zv.cells.toList).flatten by rw[←range_mod_flatten];simp only[Array.toList_map,Array.toList_range,Array.length_toList];rw[show E.sz elem=zv.cells.size by rw[←hzl,hzlen]];apply List.map_congr_left;intro a _;rw[Array.getElem!_toList]];exact VRels.flatten_replicate (VRels.noRef_any hzr) _
   obtain⟨cv',h1,h2⟩:=afill_ok hfill hcell0 hp;refine newRow_ok (el:=elem) (k:=z.length) (cells:=cv') (mk:=λa=>.slice (some a) len len) r hn hρ hc.1 hlens h2 ⟨rfl,rfl,rfl,rfl⟩ ?_ ?_
   ·have hle:¬(len*E.sz elem>2^24):=by rw[←hzl];omega
    rw[hzl]at h1;simp only[Instr.buildSlice,Sem.run_bind,run_und ok w hu,Result.andThen_ok,run_sz ok w hde,hle,if_false];by_cases hn0:len*E.sz elem=0
    ·have hr0:∀f:Nat→Value,Array.map f (Array.range 0) = #[]:=by intro f;simp
     simp only[hn0,if_true,hr0]at h1⊢;simp[h1,run_newRow]
    ·simp only[hn0,if_false,Sem.run_bind,hzv,Result.andThen_ok,Sem.run_pure];simp[h1,run_newRow]
   ·intro w' ρ' h';simp only[VRel];exact⟨_,len,rfl,Nat.le_refl _,λq hq=>by cases hq;rfl,.inr ⟨_,h',by simp,by
     have h3:len*z.length=cv'.size:=by have:=VRels.length h2;rw[flatten_length_of hlens,hlen,Array.length_toList]at this;exact this
     show 0+(0+len)*z.length≤cv'.size;rw[Nat.zero_add,Nat.zero_add,h3];exact Nat.le_refl _⟩⟩
 ·cases ha
end
end Go.Ax
/- AxBin: arithmetic, comparisons, equality, conversions. -/
namespace Go.Ax
section
variable {E:Env}{I K:Nat→Prop}{ρ:PMap}{h:FHeap}{n:Nat}{w:World}
def aint(op:BinOp)(k:IntKind)(a b:Int):Option AV:=
 match op with
 |.add=>some (.int k (k.wrap (a+b)))
 |.sub=>some (.int k (k.wrap (a-b)))
 |.mul=>some (.int k (k.wrap (a*b)))
 |.quo=>bif b==0 then none else some (.int k (k.wrap (a.tdiv b)))
 |.rem=>bif b==0 then none else some (.int k (a.tmod b))
 |.and=>some (.int k (k.wrap (BitVec.ofInt k.bits a&&&BitVec.ofInt k.bits b).toNat))
 |.or=>some (.int k (k.wrap (BitVec.ofInt k.bits a|||BitVec.ofInt k.bits b).toNat))
 |.xor=>some (.int k (k.wrap (BitVec.ofInt k.bits a^^^BitVec.ofInt k.bits b).toNat))
 |.andNot=>some (.int k (k.wrap (BitVec.ofInt k.bits a &&& ~~~ BitVec.ofInt k.bits b).toNat))
 |.eql=>some (.bool (a==b))
 |.neq=>some (.bool (a != b))
 |.lss=>some (.bool (decide (a<b)))
 |.leq=>some (.bool (decide (a≤b)))
 |.gtr=>some (.bool (decide (b<a)))
 |.geq=>some (.bool (decide (b≤a)))
 |_=>none
def astr(op:BinOp)(a b:List UInt8):Option AV:=
 match op with
 |.add=>bif decide (a.length+b.length≤4611686018427387904)then some (.str (a++b))else none
 |.eql=>some (.bool (a==b))
 |.neq=>some (.bool (!(a==b)))
 |.lss=>some (.bool (Op.bytesLess a b))
 |.leq=>some (.bool (Op.bytesLess a b||a==b))
 |.gtr=>some (.bool (!(Op.bytesLess a b||a==b)))
 |.geq=>some (.bool (!(Op.bytesLess a b)))
 |_=>none
def aeqFields(E:Env)(eq:TypeId→AV→AV→Option Bool):List Field→List AV→List AV→Option Bool
 | [],_,_=>some true
 |f::fs,xs,ys=>
  match ofCells E f.type ((xs.drop f.offset).take (E.sz f.type)),ofCells E f.type ((ys.drop f.offset).take (E.sz f.type))with
  |some a,some b=>match eq f.type a b,aeqFields E eq fs xs ys with
   |some p,some q=>some (p&&q)
   |_,_=>none
  |_,_=>none
def aeqElems(E:Env)(eq:TypeId→AV→AV→Option Bool)(elem:TypeId)(xs ys:List AV):Nat→Nat→Option Bool
 |_,0=>some true
 |i,m+1=>
  match ofCells E elem ((xs.drop (i*E.sz elem)).take (E.sz elem)),ofCells E elem ((ys.drop (i*E.sz elem)).take (E.sz elem))with
  |some a,some b=>match eq elem a b,aeqElems E eq elem xs ys (i+1) m with
   |some p,some q=>some (p&&q)
   |_,_=>none
  |_,_=>none
def aeqNil:TypeDesc→AV→Option Bool
 |.pointer _,.nilptr=>some true
 |.pointer _,.ptr ..=>some false
 |.pointer _,.iptr ..=>some false
 |.slice _,.nilslice=>some true
 |.slice _,.slice ..=>some false
 |.slice _,.islice ..=>some false
 |.map _ _,.nilmap=>some true
 |.map _ _,.map ..=>some false
 |.map _ _,.imap ..=>some false
 |.map _ _,.iset ..=>some false
 |.func _ _ _,.nilfunc=>some true
 |.func _ _ _,.func ..=>some false
 |_,_=>none
def kindNil:TypeDesc→AV→Bool
 |.pointer _,.nilptr=>true
 |.slice _,.nilslice=>true
 |.map _ _,.nilmap=>true
 |.func _ _ _,.nilfunc=>true
 |_,_=>false
def nilOf:TypeDesc→Value
 |.pointer _=>.pointer none
 |.slice _=>.slice none 0 0
 |.map _ _=>.map none
 |_=>.nilFunc
def aeq(E:Env):Nat→TypeId→AV→AV→Option Bool
 |0,_,_,_=>none
 |d+1,t,x,y=>
  match E.und t,x,y with
  |some .bool,.bool a,.bool b=>some (a==b)
  |some (.int _),.int k a,.int k' b=>bif k==k' then some (a==b)else none
  |some .string,.str a,.str b=>some (a==b)
  |some (.struct fs),.agg xs,.agg ys=>bif E.eqok t then aeqFields E (aeq E d) fs.toList xs ys else none
  |some (.array len elem),.agg xs,.agg ys=>bif (E.und elem).isSome then aeqElems E (aeq E d) elem xs ys 0 len else none
  |some d,.nilptr,y=>bif kindNil d .nilptr then aeqNil d y else none
  |some d,x,.nilptr=>bif kindNil d .nilptr then aeqNil d x else none
  |some d,.nilslice,y=>bif kindNil d .nilslice then aeqNil d y else none
  |some d,x,.nilslice=>bif kindNil d .nilslice then aeqNil d x else none
  |some d,.nilmap,y=>bif kindNil d .nilmap then aeqNil d y else none
  |some d,x,.nilmap=>bif kindNil d .nilmap then aeqNil d x else none
  |some d,.nilfunc,y=>bif kindNil d .nilfunc then aeqNil d y else none
  |some d,x,.nilfunc=>bif kindNil d .nilfunc then aeqNil d x else none
  |some (.interface _),.nilifc,.iface _ _=>some false
  |some (.interface _),.iface _ _,.nilifc=>some false
  |some (.interface _),.iface t1 a,.iface t2 b=>bif t1==t2 then bif E.eqok t1 then aeq E d t1 a b else none else some false
  |_,_,_=>none
theorem run_fields(ok:EnvOk E){eq:TypeId→Value→Value→Sem Bool}{aeq':TypeId→AV→AV→Option Bool}
 (heq:∀t a b ca cb p,aeq' t a b=some p→VRel I w ρ a ca→VRel I w ρ b cb→(eq t ca cb).run E.P w = .ok p w)
 {xs ys:List AV}{cx cy:Array Value}(hx:VRels I w ρ xs cx.toList)(hy:VRels I w ρ ys cy.toList) :
 ∀(fs:List Field) (q:Bool),aeqFields E aeq' fs xs ys=some q→(∀f∈fs,f.name≠ "_")→
  (forIn fs ((none,()):Option Bool×Unit) (λf _=>
   if f.name≠ "_" then do
    let a←part f.type cx f.offset
    let b←part f.type cy f.offset
    let c←eq f.type a b
    if(!c)=true then pure (ForInStep.done (some false,()))else pure (ForInStep.yield (none,()))
   else pure (ForInStep.yield (none,())):Field→Option Bool×Unit→Sem (ForInStep (Option Bool×Unit)))).run E.P w
  = .ok (if q then(none,())else(some false,())) w
 | [],q,hq,_=>by simp only[aeqFields,Option.some.injEq]at hq;subst hq;simp
 |f::fs,q,hq,hn=>by
  simp only[aeqFields]at hq;split at hq
  case h_2=>cases hq
  rename_i a b ha hb;split at hq
  case h_2=>cases hq
  rename_i p q' hp hq';cases hq;obtain⟨ca,h1,h2⟩:=part_run ok ha hx;obtain⟨cb,h3,h4⟩:=part_run ok hb hy;have h5:=heq f.type a b ca cb p hp h2 h4;have ih:=run_fields ok heq hx hy fs q' hq' (λf hf=>hn f (by simp[hf]))
  have hname:f.name≠ "_" := hn f (by simp)
  rw[List.forIn_cons];simp only[ne_eq,hname,not_false_eq_true,if_true,Sem.run_bind,h1,h3,h5,Result.andThen_ok];cases p
  ·simp
  ·simp only[Bool.not_true,Bool.false_eq_true,if_false,Sem.run_pure,Result.andThen_ok,Bool.true_and];exact ih
theorem run_elems(ok:EnvOk E){eq:TypeId→Value→Value→Sem Bool}{aeq':TypeId→AV→AV→Option Bool}{elem:TypeId}
 (heq:∀t a b ca cb p,aeq' t a b=some p→VRel I w ρ a ca→VRel I w ρ b cb→(eq t ca cb).run E.P w = .ok p w)
 {xs ys:List AV}{cx cy:Array Value}(hx:VRels I w ρ xs cx.toList)(hy:VRels I w ρ ys cy.toList) :
 ∀(m i:Nat) (q:Bool),aeqElems E aeq' elem xs ys i m=some q→
  (forIn (List.range' i m) ((none,()):Option Bool×Unit) (λi _=>do
   let a←part elem cx (i*E.sz elem)
   let b←part elem cy (i*E.sz elem)
   let c←eq elem a b
   if(!c)=true then pure (ForInStep.done (some false,()))else pure (ForInStep.yield (none,())):Nat→Option Bool×Unit→Sem (ForInStep (Option Bool×Unit)))).run E.P w
  = .ok (if q then(none,())else(some false,())) w
 |0,i,q,hq=>by simp only[aeqElems,Option.some.injEq]at hq;subst hq;simp
 |m+1,i,q,hq=>by
  simp only[aeqElems]at hq;split at hq
  case h_2=>cases hq
  rename_i a b ha hb;split at hq
  case h_2=>cases hq
  rename_i p q' hp hq';cases hq;obtain⟨ca,h1,h2⟩:=part_run ok ha hx;obtain⟨cb,h3,h4⟩:=part_run ok hb hy;have h5:=heq elem a b ca cb p hp h2 h4;have ih:=run_elems ok heq hx hy m (i+1) q' hq';rw[List.range'_succ,List.forIn_cons];simp only[Sem.run_bind,h1,h3,h5,Result.andThen_ok];cases p
  ·simp
  ·simp only[Bool.not_true,Bool.false_eq_true,if_false,Sem.run_pure,Result.andThen_ok,Bool.true_and];exact ih
section
variable {t:TypeId}{d:Nat}
theorem eqn_ptr1{e:TypeId}(ht:(underlying t).run E.P w = .ok (.pointer e) w)(b:Option Addr):(Op.equalIn (d+1) t (.pointer none) (.pointer b)).run E.P w = .ok b.isNone w:=by unfold Op.equalIn;simp only[Sem.run_bind,ht,Result.andThen_ok];rfl
theorem eqn_ptr2{e:TypeId}(ht:(underlying t).run E.P w = .ok (.pointer e) w)(b:Option Addr):(Op.equalIn (d+1) t (.pointer b) (.pointer none)).run E.P w = .ok b.isNone w:=by unfold Op.equalIn;simp only[Sem.run_bind,ht,Result.andThen_ok];cases b<;>rfl
theorem eqn_slice1{e:TypeId}(ht:(underlying t).run E.P w = .ok (.slice e) w)(b:Option Addr)(l c:Nat):(Op.equalIn (d+1) t (.slice none 0 0) (.slice b l c)).run E.P w = .ok b.isNone w:=by unfold Op.equalIn;simp only[Sem.run_bind,ht,Result.andThen_ok];rfl
theorem eqn_slice2{e:TypeId}(ht:(underlying t).run E.P w = .ok (.slice e) w)(b:Option Addr)(l c:Nat):(Op.equalIn (d+1) t (.slice b l c) (.slice none 0 0)).run E.P w = .ok b.isNone w:=by unfold Op.equalIn;simp only[Sem.run_bind,ht,Result.andThen_ok];cases b<;>rfl
theorem eqn_map1{k e:TypeId}(ht:(underlying t).run E.P w = .ok (.map k e) w)(b:Option Nat):(Op.equalIn (d+1) t (.map none) (.map b)).run E.P w = .ok b.isNone w:=by unfold Op.equalIn;simp only[Sem.run_bind,ht,Result.andThen_ok];rfl
theorem eqn_map2{k e:TypeId}(ht:(underlying t).run E.P w = .ok (.map k e) w)(b:Option Nat):(Op.equalIn (d+1) t (.map b) (.map none)).run E.P w = .ok b.isNone w:=by unfold Op.equalIn;simp only[Sem.run_bind,ht,Result.andThen_ok];cases b<;>rfl
theorem eqn_func0{ps rs:Array TypeId}{v:Bool}(ht:(underlying t).run E.P w = .ok (.func ps rs v) w):(Op.equalIn (d+1) t .nilFunc .nilFunc).run E.P w = .ok true w:=by unfold Op.equalIn;simp only[Sem.run_bind,ht,Result.andThen_ok];rfl
theorem eqn_func1{ps rs:Array TypeId}{v:Bool}(ht:(underlying t).run E.P w = .ok (.func ps rs v) w)(f:Fn)(a b:Array Value):(Op.equalIn (d+1) t .nilFunc (.func f a b)).run E.P w = .ok false w:=by unfold Op.equalIn;simp only[Sem.run_bind,ht,Result.andThen_ok];rfl
theorem eqn_func2{ps rs:Array TypeId}{v:Bool}(ht:(underlying t).run E.P w = .ok (.func ps rs v) w)(f:Fn)(a b:Array Value):(Op.equalIn (d+1) t (.func f a b) .nilFunc).run E.P w = .ok false w:=by unfold Op.equalIn;simp only[Sem.run_bind,ht,Result.andThen_ok];rfl
theorem aeqNil_ok{dd:TypeDesc}{y:AV}{q:Bool}{c:Value}(ht:(underlying t).run E.P w = .ok dd w)(hq:aeqNil dd y=some q)(hy:VRel I w ρ y c) :
 (Op.equalIn (d+1) t (nilOf dd) c).run E.P w = .ok q w∧(Op.equalIn (d+1) t c (nilOf dd)).run E.P w = .ok q w:=by
 unfold aeqNil at hq;split at hq<;>cases hq<;>simp only[VRel]at hy<;>simp only[nilOf]
 ·subst hy;exact⟨eqn_ptr1 ht _,eqn_ptr2 ht _⟩
 ·obtain⟨_,_,rfl⟩:=hy;exact⟨eqn_ptr1 ht _,eqn_ptr2 ht _⟩
 ·obtain⟨_,_,rfl,_⟩:=hy;exact⟨eqn_ptr1 ht _,eqn_ptr2 ht _⟩
 ·subst hy;exact⟨eqn_slice1 ht _ _ _,eqn_slice2 ht _ _ _⟩
 ·obtain⟨_,_,rfl,_⟩:=hy;exact⟨eqn_slice1 ht _ _ _,eqn_slice2 ht _ _ _⟩
 ·obtain⟨_,_,_,rfl,_⟩:=hy;exact⟨eqn_slice1 ht _ _ _,eqn_slice2 ht _ _ _⟩
 ·subst hy;exact⟨eqn_map1 ht _,eqn_map2 ht _⟩
 ·obtain⟨_,_,rfl⟩:=hy;exact⟨eqn_map1 ht _,eqn_map2 ht _⟩
 ·obtain⟨_,_,rfl,_⟩:=hy;exact⟨eqn_map1 ht _,eqn_map2 ht _⟩
 ·obtain⟨_,_,_,rfl,_⟩:=hy;exact⟨eqn_map1 ht _,eqn_map2 ht _⟩
 ·subst hy;exact⟨eqn_func0 ht,eqn_func0 ht⟩
 ·obtain⟨_,_,rfl,_⟩:=hy;exact⟨eqn_func1 ht _ _ _,eqn_func2 ht _ _ _⟩
theorem eqn_bool(ht:(underlying t).run E.P w = .ok .bool w)(a b:Bool):(Op.equalIn (d+1) t (.bool a) (.bool b)).run E.P w = .ok (a==b) w:=by unfold Op.equalIn;simp only[Sem.run_bind,ht,Result.andThen_ok];rfl
theorem eqn_int{k0:IntKind}(ht:(underlying t).run E.P w = .ok (.int k0) w)(k:IntKind)(a b:Int):(Op.equalIn (d+1) t (.int k a) (.int k b)).run E.P w = .ok (a==b) w:=by unfold Op.equalIn;simp only[Sem.run_bind,ht,Result.andThen_ok,if_true];rfl
theorem eqn_str(ht:(underlying t).run E.P w = .ok .string w)(a b:ByteArray):(Op.equalIn (d+1) t (.string a) (.string b)).run E.P w = .ok (a==b) w:=by unfold Op.equalIn;simp only[Sem.run_bind,ht,Result.andThen_ok];rfl
theorem eqn_nilifc{ms:Array (String×TypeId)}(ht:(underlying t).run E.P w = .ok (.interface ms) w)(u:TypeId)(x:Value) :
 (Op.equalIn (d+1) t .nilIface (.iface u x)).run E.P w = .ok false w∧(Op.equalIn (d+1) t (.iface u x) .nilIface).run E.P w = .ok false w:=by
 unfold Op.equalIn;simp only[Sem.run_bind,ht,Result.andThen_ok];exact⟨rfl,rfl⟩
theorem eqn_ifc_ne{ms:Array (String×TypeId)}(ht:(underlying t).run E.P w = .ok (.interface ms) w)(u u':TypeId)(x x':Value)(hne:u≠u') :
 (Op.equalIn (d+1) t (.iface u x) (.iface u' x')).run E.P w = .ok false w:=by
 unfold Op.equalIn;simp only[Sem.run_bind,ht,Result.andThen_ok,ne_eq,hne,not_false_eq_true,if_true];rfl
theorem eqn_ifc{ms:Array (String×TypeId)}{i:TypeInfo}(ht:(underlying t).run E.P w = .ok (.interface ms) w)(u:TypeId)(x x':Value)(hi:(typeInfo u).run E.P w = .ok i w)(hc:i.comparable=true) :
 (Op.equalIn (d+1) t (.iface u x) (.iface u x')).run E.P w=(Op.equalIn d u x x').run E.P w:=by
 conv=>lhs;unfold Op.equalIn
 simp only[Sem.run_bind,ht,Result.andThen_ok,ne_eq,not_true_eq_false,if_false,hi,hc,Bool.not_true,Bool.false_eq_true]
end
theorem bytes_beq(a b:ByteArray):(a==b)=(a.data.toList==b.data.toList):=by have e:(a==b)=(a.data==b.data):=rfl;rw[e,Bool.eq_iff_iff];simp only[beq_iff_eq,Array.toList_inj]
theorem aeq_ok(ok:EnvOk E):∀(d:Nat) {t:TypeId} {x y:AV} {q:Bool} {cx cy:Value},aeq E d t x y=some q→VRel I w ρ x cx→VRel I w ρ y cy→
 ∀D,d≤D→(Op.equalIn D t cx cy).run E.P w = .ok q w
 |0,t,x,y,q,cx,cy,hq,hx,hy,D,hD=>by simp[aeq]at hq
 |d+1,t,x,y,q,cx,cy,hq,hx,hy,D,hD=>by
  obtain⟨D,rfl⟩:∃D',D=D'+1:=⟨D-1,by omega⟩
  unfold aeq at hq;have nilcase:∀{dd:TypeDesc} {z nz:AV} {c:Value},E.und t=some dd→(bif kindNil dd nz then aeqNil dd z else none)=some q→VRel I w ρ z c→
   kindNil dd nz=true∧(Op.equalIn (D+1) t (nilOf dd) c).run E.P w = .ok q w∧(Op.equalIn (D+1) t c (nilOf dd)).run E.P w = .ok q w:=by
   intro dd z nz c hu hb hz;cases hk:kindNil dd nz with
   |false=>rw[hk]at hb;cases hb
   |true=>rw[hk,cond_true]at hb;exact⟨rfl,aeqNil_ok (run_und ok w hu) hb hz⟩
  have nilv:∀{dd:TypeDesc},(kindNil dd .nilptr=true→nilOf dd = .pointer none)∧(kindNil dd .nilslice=true→nilOf dd = .slice none 0 0)∧
   (kindNil dd .nilmap=true→nilOf dd = .map none)∧(kindNil dd .nilfunc=true→nilOf dd = .nilFunc):=by
   intro dd;cases dd<;>simp[kindNil,nilOf]
  split at hq
  ·rename_i hu;simp only[VRel]at hx hy;subst hx hy;cases hq;exact eqn_bool (run_und ok w hu) _ _
  ·rename_i hu;simp only[VRel]at hx hy;subst hx hy;rw[cond_eq_ite]at hq;split at hq
   ·rename_i hk;cases hq;have hk:=eq_of_beq hk;subst hk;exact eqn_int (run_und ok w hu) _ _ _
   ·cases hq
  ·rename_i hu;simp only[VRel]at hx hy;obtain⟨a,rfl,ha⟩:=hx;obtain⟨b,rfl,hb⟩:=hy;cases hq;rw[eqn_str (run_und ok w hu),bytes_beq,ha,hb]
  ·rename_i fs xs ys hu;simp only[VRel]at hx hy;obtain⟨ax,rfl,hx⟩:=hx;obtain⟨ay,rfl,hy⟩:=hy;rw[cond_eq_ite]at hq;split at hq
   case isFalse=>cases hq
   rename_i he;obtain⟨_,hst,_,hnames⟩:=ok.eqok t he;have hf:=run_fields (I:=I) (w:=w) (ρ:=ρ) ok (eq:=Op.equalIn D) (aeq':=aeq E d) (λt a b ca cb p hp h1 h2=>aeq_ok ok d hp h1 h2 D (by omega)) hx hy fs.toList q hq (λf hf=>hnames fs hu f hf);unfold Op.equalIn;simp only[Sem.run_bind,run_und ok w hu,Result.andThen_ok,run_program,hst,Bool.false_eq_true,if_false];rw[←Array.forIn_toList];rw[hf];cases q<;>rfl
  ·rename_i len elem xs ys hu;simp only[VRel]at hx hy;obtain⟨ax,rfl,hx⟩:=hx;obtain⟨ay,rfl,hy⟩:=hy;rw[cond_eq_ite]at hq;split at hq
   case isFalse=>cases hq
   rename_i he;obtain⟨de,hde⟩:=Option.isSome_iff_exists.1 he;have hf:=run_elems (I:=I) (w:=w) (ρ:=ρ) ok (eq:=Op.equalIn D) (aeq':=aeq E d) (elem:=elem) (λt a b ca cb p hp h1 h2=>aeq_ok ok d hp h1 h2 D (by omega)) hx hy len 0 q hq;unfold Op.equalIn;simp only[Sem.run_bind,run_und ok w hu,Result.andThen_ok,run_sz ok w hde];rw[Std.Legacy.Range.forIn_eq_forIn_range'];have hsz:(Std.Legacy.Range.size [:len])=len:=by simp[Std.Legacy.Range.size]
   simp only[hsz];rw[hf];cases q<;>rfl
  ·simp only[VRel]at hx;subst hx;obtain⟨h1,h2,_⟩:=nilcase (by assumption) hq hy;rw[nilv.1 h1]at h2;exact h2
  ·simp only[VRel]at hy;subst hy;obtain⟨h1,_,h2⟩:=nilcase (by assumption) hq hx;rw[nilv.1 h1]at h2;exact h2
  ·simp only[VRel]at hx;subst hx;obtain⟨h1,h2,_⟩:=nilcase (by assumption) hq hy;rw[nilv.2.1 h1]at h2;exact h2
  ·simp only[VRel]at hy;subst hy;obtain⟨h1,_,h2⟩:=nilcase (by assumption) hq hx;rw[nilv.2.1 h1]at h2;exact h2
  ·simp only[VRel]at hx;subst hx;obtain⟨h1,h2,_⟩:=nilcase (by assumption) hq hy;rw[nilv.2.2.1 h1]at h2;exact h2
  ·simp only[VRel]at hy;subst hy;obtain⟨h1,_,h2⟩:=nilcase (by assumption) hq hx;rw[nilv.2.2.1 h1]at h2;exact h2
  ·simp only[VRel]at hx;subst hx;obtain⟨h1,h2,_⟩:=nilcase (by assumption) hq hy;rw[nilv.2.2.2 h1]at h2;exact h2
  ·simp only[VRel]at hy;subst hy;obtain⟨h1,_,h2⟩:=nilcase (by assumption) hq hx;rw[nilv.2.2.2 h1]at h2;exact h2
  ·rename_i hu;simp only[VRel]at hx hy;subst hx;obtain⟨x',rfl,_⟩:=hy;cases hq;exact(eqn_nilifc (run_und ok w hu) _ _).1
  ·rename_i hu;simp only[VRel]at hx hy;subst hy;obtain⟨x',rfl,_⟩:=hx;cases hq;exact(eqn_nilifc (run_und ok w hu) _ _).2
  ·rename_i hu;simp only[VRel]at hx hy;obtain⟨x',rfl,hx⟩:=hx;obtain⟨y',rfl,hy⟩:=hy;rw[cond_eq_ite]at hq;split at hq
   ·rename_i he;have he:=eq_of_beq he;subst he;rw[cond_eq_ite]at hq;split at hq
    case isFalse=>cases hq
    rename_i hk;obtain⟨_,_,⟨i,hi,hc⟩,_⟩:=ok.eqok _ hk;rw[eqn_ifc (i:=i) (run_und ok w hu) _ _ _ (by simp[typeInfo,hi]) hc];exact aeq_ok ok d hq hx hy D (by omega)
   ·rename_i hne;cases hq;exact eqn_ifc_ne (run_und ok w hu) _ _ _ _ (by simpa using hne)
  ·cases hq
end
end Go.Ax
/- AxOp1: the model's binary and unary operations and conversions, against the abstract ones. -/
namespace Go.Ax
section
variable {E:Env}{I K:Nat→Prop}{ρ:PMap}{h:FHeap}{n:Nat}{w:World}
theorem aint_ok{op:BinOp}{k:IntKind}{a b:Int}{v:AV}(hv:aint op k a b=some v)(t:TypeId)(hs:op≠ .shl∧op≠ .shr) :
 ∃c,(binOp op t (.int k a) (.int k b)).run E.P w = .ok c w∧VRel I w ρ v c:=by
 cases op<;>simp only[aint]at hv
 case shl=>cases hv
 case shr=>cases hv
 case quo=>
  rw[cond_eq_ite]at hv;split at hv
  ·cases hv
  ·rename_i hb;cases hv;have hb:b≠0:=by simpa using hb
   exact⟨_,by simp[binOp,Op.intDiv,hb];rfl,by simp[VRel]⟩
 case rem=>
  rw[cond_eq_ite]at hv;split at hv
  ·cases hv
  ·rename_i hb;cases hv;have hb:b≠0:=by simpa using hb
   exact⟨_,by simp[binOp,Op.intDiv,hb];rfl,by simp[VRel]⟩
 all_goals cases hv
 all_goals exact⟨_,by simp[binOp,Op.intArith,Op.intBits,Op.intCmp];rfl,by simp[VRel]⟩
theorem astr_ok{op:BinOp}{a b:ByteArray}{v:AV}(hv:astr op a.data.toList b.data.toList=some v)(t:TypeId) :
 ∃c,(binOp op t (.string a) (.string b)).run E.P w = .ok c w∧VRel I w ρ v c:=by
 have ta:=ByteArray.toList_eq a;have tb:=ByteArray.toList_eq b;cases op<;>simp only[astr]at hv
 case add=>
  rw[cond_eq_ite]at hv;split at hv
  case isFalse=>cases hv
  rename_i hl;cases hv;have hl:a.data.toList.length+b.data.toList.length≤4611686018427387904:=by simpa using hl
  have h1:¬(((a.size+b.size:Nat):Int)>IntKind.i64.max):=by simp only[Array.length_toList]at hl;have:a.size=a.data.size:=rfl;have:b.size=b.data.size:=rfl;simp only[IntKind.max,IntKind.signed,IntKind.bits];simp;omega
  refine⟨.string (a++b),?_,by simp only[VRel];exact⟨_,rfl,by simp[ByteArray.data_append]⟩⟩;simp only[binOp,Op.stringOp,h1,if_false,Sem.run_pure]
 all_goals cases hv
 all_goals
  refine⟨_,by simp only[binOp,Op.stringOp,ta,tb,Sem.run_pure];rfl,by simp[VRel]⟩
def AV.eqShape:AV→Bool
 |.bool _|.nilptr|.nilslice|.nilmap|.nilfunc|.nilifc|.ptr ..|.iptr ..|.slice ..|.islice ..|.map ..|.imap ..|.iset _|.yfn _|.func ..|.iface ..|.agg ..=>true
 |_=>false
def abin(E:Env)(op:BinOp)(t:TypeId)(x y:AV)(cst:Bool):Option AV:=
 match op,x,y with
 |.shl,.int k a,.int _ b=>bif decide (b<0)then none else some (.int k (k.wrap (a*2^(min b.toNat k.bits))))
 |.shr,.int k a,.int _ b=>bif decide (b<0)then none else some (.int k (a.fdiv (2^(min b.toNat k.bits))))
 |op,.int k a,.int k' b=>bif k==k' then aint op k a b else none
 |op,.str a,.str b=>astr op a b
 |.eql,.nilifc,.nilifc=>match E.und t with|some (.interface _)=>bif cst then some (.bool true)else none|_=>none
 |.neq,.nilifc,.nilifc=>match E.und t with|some (.interface _)=>bif cst then some (.bool false)else none|_=>none
 |.eql,.agg a,.agg b=>bif E.eqok t then(aeq E 6 t (.agg a) (.agg b)).map .bool else none
 |.neq,.agg a,.agg b=>bif E.eqok t then(aeq E 6 t (.agg a) (.agg b)).map (λq=>.bool (!q))else none
 |.eql,x,y=>bif x.eqShape then(aeq E 6 t x y).map .bool else none
 |.neq,x,y=>bif x.eqShape then(aeq E 6 t x y).map (λq=>.bool (!q))else none
 |_,_,_=>none
def Value.eqShape:Value→Bool
 |.bool _|.pointer _|.slice ..|.map _|.func ..|.nilFunc|.iface ..|.nilIface|.agg _=>true
 |_=>false
theorem VRel.eqShape{x:AV}{c:Value}(hx:VRel I w ρ x c)(hs:x.eqShape=true):Value.eqShape c=true:=by
 cases x<;>simp[AV.eqShape]at hs<;>simp only[VRel]at hx
 all_goals first
  |(subst hx;rfl)
  |(obtain⟨_,rfl,_⟩:=hx;rfl)
  |(obtain⟨_,_,rfl⟩:=hx;rfl)
  |(obtain⟨_,_,rfl,_⟩:=hx;rfl)
  |(obtain⟨_,_,_,rfl,_⟩:=hx;rfl)
theorem binOp_eql(t:TypeId)(cx cy:Value)(hs:Value.eqShape cx=true):binOp .eql t cx cy=(do pure (.bool (←Op.equal t cx cy))):=by cases cx<;>simp[Value.eqShape]at hs<;>first|rfl|(cases cy<;>rfl)
theorem binOp_neq(t:TypeId)(cx cy:Value)(hs:Value.eqShape cx=true):binOp .neq t cx cy=(do pure (.bool (!(←Op.equal t cx cy)))):=by cases cx<;>simp[Value.eqShape]at hs<;>first|rfl|(cases cy<;>rfl)
def guardFree:Value→Value→Bool
 |.nilIface,.nilIface=>false
 |.agg _,.agg _=>false
 |_,_=>true
theorem eqGuard_other(op:BinOp)(t:TypeId)(x y:Operand)(a b:Value)(hf:op≠ .eql∧op≠ .neq):(eqGuard op t x y a b).run E.P w = .ok () w:=by unfold eqGuard;cases op<;>first|rfl|(exact absurd rfl hf.1)|(exact absurd rfl hf.2)
theorem eqGuard_free(op:BinOp)(t:TypeId)(x y:Operand)(a b:Value)(hf:guardFree a b=true):(eqGuard op t x y a b).run E.P w = .ok () w:=by
 by_cases hop:op≠ .eql∧op≠ .neq
 ·exact eqGuard_other op t x y a b hop
 ·have:op = .eql∨op = .neq:=by cases op<;>simp at hop⊢
  unfold guardFree at hf;rcases this with rfl|rfl
  all_goals
   unfold eqGuard;simp only[Bool.not_true,Bool.false_eq_true,if_false];split
   ·simp at hf
   ·simp at hf
   ·rfl
theorem eqGuard_agg(ok:EnvOk E)(op:BinOp)(t:TypeId)(x y:Operand)(a b:Array Value)(hf:E.eqok t=true):(eqGuard op t x y (.agg a) (.agg b)).run E.P w = .ok () w:=by
 by_cases hop:op≠ .eql∧op≠ .neq
 ·exact eqGuard_other op t x y _ _ hop
 ·have:op = .eql∨op = .neq:=by cases op<;>simp at hop⊢
  rcases this with rfl|rfl
  all_goals
   unfold eqGuard;simp only[Bool.not_true,Bool.false_eq_true,if_false,Sem.run_bind,run_program,Result.andThen_ok,(ok.eqok t hf).1,Bool.not_false,if_true];rfl
def isConstOp:Operand→Bool
 |.const _=>true
 |_=>false
theorem eqGuard_nil(op:BinOp)(t:TypeId)(x y:Operand)(hc:(isConstOp x||isConstOp y)=true):(eqGuard op t x y .nilIface .nilIface).run E.P w = .ok () w:=by
 by_cases hop:op≠ .eql∧op≠ .neq
 ·exact eqGuard_other op t x y _ _ hop
 ·have:op = .eql∨op = .neq:=by cases op<;>simp at hop⊢
  rcases this with rfl|rfl
  all_goals
   unfold eqGuard;cases x<;>cases y<;>simp[isConstOp]at hc<;>rfl
theorem equal_nilifc(ok:EnvOk E){t:TypeId}{ms:Array (String×TypeId)}(hu:E.und t=some (.interface ms)):(Op.equal t .nilIface .nilIface).run E.P w = .ok true w:=by unfold Op.equal Op.maxDepth Op.equalIn;simp only[Sem.run_bind,run_und ok w hu,Result.andThen_ok];rfl
theorem guardFree_of{x y:AV}{cx cy:Value}(hx:VRel I w ρ x cx)(hy:VRel I w ρ y cy)(hs:x.eqShape=true)(h1:¬(x = .nilifc∧(y = .nilifc∨y = .junk)))
 (h2:∀a,x = .agg a→(∀b,y≠ .agg b)∧y≠ .junk):guardFree cx cy=true:=by
 have hcx:=VRel.eqShape hx hs;cases x<;>simp[AV.eqShape]at hs<;>simp only[VRel]at hx
 case nilifc=>subst hx;cases cy<;>simp[guardFree];cases y<;>simp only[VRel]at hy<;>first|(simp at hy;done)|(exact h1 ⟨rfl,by simp⟩)|(obtain⟨_,h,_⟩:=hy;simp at h;done)|(obtain⟨_,_,h⟩:=hy;simp at h;done)|(obtain⟨_,_,h,_⟩:=hy;simp at h;done)|(obtain⟨_,_,_,h,_⟩:=hy;simp at h;done)
 case agg a=>obtain⟨ca,rfl,_⟩:=hx;obtain⟨h3,h4⟩:=h2 a rfl;cases cy<;>simp[guardFree];cases y<;>simp only[VRel]at hy<;>first|(simp at hy;done)|(exact h4 rfl)|(exact h3 _ rfl)|(obtain⟨_,h,_⟩:=hy;simp at h;done)|(obtain⟨_,_,h⟩:=hy;simp at h;done)|(obtain⟨_,_,h,_⟩:=hy;simp at h;done)|(obtain⟨_,_,_,h,_⟩:=hy;simp at h;done)
 all_goals first
  |(subst hx;rfl)
  |(obtain⟨_,rfl,_⟩:=hx;rfl)
  |(obtain⟨_,_,rfl⟩:=hx;rfl)
  |(obtain⟨_,_,rfl,_⟩:=hx;rfl)
  |(obtain⟨_,_,_,rfl,_⟩:=hx;rfl)
theorem run_then{α β:Type}{x:Sem α}{y:Sem β}{a:α}{P:Program}{w w':World}(hx:x.run P w = .ok a w'):(do let _←x;y).run P w=y.run P w':=by simp[hx]
theorem equal_of_aeq(ok:EnvOk E){t:TypeId}{x y:AV}{q:Bool}{cx cy:Value}(hq:aeq E 6 t x y=some q)(hx:VRel I w ρ x cx)(hy:VRel I w ρ y cy) :
 (Op.equal t cx cy).run E.P w = .ok q w:=aeq_ok ok 6 hq hx hy 10000 (by omega)
theorem aeq_junk{d:Nat}{t:TypeId}{x:AV}:aeq E d t x .junk=none:=by
 cases d with
 |zero=>rfl
 |succ d=>
  unfold aeq;split<;>first|rfl|skip
  all_goals simp_all[aeqNil]
  all_goals (cases h:kindNil _ _<;>simp[aeqNil])
theorem abin_ok(ok:EnvOk E){op:BinOp}{t:TypeId}{x y v:AV}{xo yo:Operand}{cx cy:Value}(hv:abin E op t x y (isConstOp xo||isConstOp yo)=some v)
 (hx:VRel I w ρ x cx)(hy:VRel I w ρ y cy):∃c,(do eqGuard op t xo yo cx cy;binOp op t cx cy).run E.P w = .ok c w∧VRel I w ρ v c:=by
 unfold abin at hv;split at hv
 ·simp only[VRel]at hx hy;subst hx hy;rw[cond_eq_ite]at hv;split at hv
  ·cases hv
  ·rename_i hb;cases hv;rw[run_then (eqGuard_free _ _ _ _ _ _ rfl)];simp only[decide_eq_true_eq]at hb;exact⟨_,by simp[binOp,Op.shift,hb];rfl,by simp[VRel]⟩
 ·simp only[VRel]at hx hy;subst hx hy;rw[cond_eq_ite]at hv;split at hv
  ·cases hv
  ·rename_i hb;cases hv;rw[run_then (eqGuard_free _ _ _ _ _ _ rfl)];simp only[decide_eq_true_eq]at hb;exact⟨_,by simp[binOp,Op.shift,hb];rfl,by simp[VRel]⟩
 ·rename_i h1 h2;simp only[VRel]at hx hy;subst hx hy;rw[cond_eq_ite]at hv;split at hv
  case isFalse=>cases hv
  rename_i hk;have hk:=eq_of_beq hk;subst hk;rw[run_then (eqGuard_free _ _ _ _ _ _ rfl)];exact aint_ok hv t ⟨by rintro rfl;simp_all,by rintro rfl;simp_all⟩
 ·simp only[VRel]at hx hy;obtain⟨a,rfl,ha⟩:=hx;obtain⟨b,rfl,hb⟩:=hy;rw[run_then (eqGuard_free _ _ _ _ _ _ rfl)];subst ha hb;exact astr_ok hv t
 ·simp only[VRel]at hx hy;subst hx hy;split at hv
  case h_2=>cases hv
  rename_i ms hu;rw[cond_eq_ite]at hv;split at hv
  case isFalse=>cases hv
  rename_i hc;cases hv;rw[run_then (eqGuard_nil _ _ _ _ hc),binOp_eql _ _ _ rfl];exact⟨.bool true,by simp[equal_nilifc ok hu],by simp[VRel]⟩
 ·simp only[VRel]at hx hy;subst hx hy;split at hv
  case h_2=>cases hv
  rename_i ms hu;rw[cond_eq_ite]at hv;split at hv
  case isFalse=>cases hv
  rename_i hc;cases hv;rw[run_then (eqGuard_nil _ _ _ _ hc),binOp_neq _ _ _ rfl];exact⟨.bool false,by simp[equal_nilifc ok hu],by simp[VRel]⟩
 ·rename_i a b;rw[cond_eq_ite]at hv;split at hv
  case isFalse=>cases hv
  rename_i he;cases hq:aeq E 6 t (.agg a) (.agg b)with
  |none=>simp[hq]at hv
  |some q=>simp only[hq,Option.map_some,Option.some.injEq]at hv;subst hv;have heq:=equal_of_aeq ok hq hx hy;simp only[VRel]at hx hy;obtain⟨ca,rfl,_⟩:=hx;obtain⟨cb,rfl,_⟩:=hy;rw[run_then (eqGuard_agg ok _ _ _ _ _ _ he),binOp_eql _ _ _ rfl];exact⟨.bool q,by simp[heq],by simp[VRel]⟩
 ·rename_i a b;rw[cond_eq_ite]at hv;split at hv
  case isFalse=>cases hv
  rename_i he;cases hq:aeq E 6 t (.agg a) (.agg b)with
  |none=>simp[hq]at hv
  |some q=>simp only[hq,Option.map_some,Option.some.injEq]at hv;subst hv;have heq:=equal_of_aeq ok hq hx hy;simp only[VRel]at hx hy;obtain⟨ca,rfl,_⟩:=hx;obtain⟨cb,rfl,_⟩:=hy;rw[run_then (eqGuard_agg ok _ _ _ _ _ _ he),binOp_neq _ _ _ rfl];exact⟨.bool (!q),by simp[heq],by simp[VRel]⟩
 ·rename_i hn1 hn2 hn3 hn4;rw[cond_eq_ite]at hv;split at hv
  case isFalse=>cases hv
  rename_i he;cases hq:aeq E 6 t x y with
  |none=>simp[hq]at hv
  |some q=>
   simp only[hq,Option.map_some,Option.some.injEq]at hv;subst hv;have heq:=equal_of_aeq ok hq hx hy;have hjunk:y≠ .junk:=by rintro rfl;rw[aeq_junk]at hq;cases hq
   have hg:=guardFree_of hx hy he (by
    rintro⟨rfl,h|h⟩
    ·subst h;simp_all
    ·exact hjunk h) (by
    rintro a rfl
    exact⟨λb hb=>by subst hb;simp_all,hjunk⟩)
   rw[run_then (eqGuard_free _ _ _ _ _ _ hg),binOp_eql _ _ _ (VRel.eqShape hx he)];exact⟨.bool q,by simp[heq],by simp[VRel]⟩
 ·rename_i hn1 hn2 hn3 hn4;rw[cond_eq_ite]at hv;split at hv
  case isFalse=>cases hv
  rename_i he;cases hq:aeq E 6 t x y with
  |none=>simp[hq]at hv
  |some q=>
   simp only[hq,Option.map_some,Option.some.injEq]at hv;subst hv;have heq:=equal_of_aeq ok hq hx hy;have hjunk:y≠ .junk:=by rintro rfl;rw[aeq_junk]at hq;cases hq
   have hg:=guardFree_of hx hy he (by
    rintro⟨rfl,h|h⟩
    ·subst h;simp_all
    ·exact hjunk h) (by
    rintro a rfl
    exact⟨λb hb=>by subst hb;simp_all,hjunk⟩)
   rw[run_then (eqGuard_free _ _ _ _ _ _ hg),binOp_neq _ _ _ (VRel.eqShape hx he)];exact⟨.bool (!q),by simp[heq],by simp[VRel]⟩
 ·cases hv
def aun(op:UnOp)(x:AV):Option AV:=
 match op,x with
 |.neg,.int k a=>some (.int k (k.wrap (0-a)))
 |.not,.bool b=>some (.bool (!b))
 |.xor,.int k a=>some (.int k (k.wrap (BitVec.ofInt k.bits (if k.signed then -1 else k.max)^^^BitVec.ofInt k.bits a).toNat))
 |_,_=>none
theorem aun_ok{op:UnOp}{x v:AV}{c:Value}(hv:aun op x=some v)(hx:VRel I w ρ x c):∃d,(Op.unary op c).run E.P w = .ok d w∧VRel I w ρ v d:=by
 unfold aun at hv;split at hv
 all_goals first|(cases hv;done)|skip
 all_goals simp only[VRel]at hx;subst hx;cases hv
 ·exact⟨_,by simp[Op.unary,Op.intArith];rfl,by simp[VRel]⟩
 ·exact⟨_,by simp[Op.unary];rfl,by simp[VRel]⟩
 ·exact⟨_,by simp[Op.unary,Op.intBits];rfl,by simp[VRel]⟩
def aconv(E:Env)(src dst:TypeId)(x:AV):Option AV:=
 match E.und src,E.und dst,x with
 |some _,some (.int k),.int _ n=>some (.int k (k.wrap n))
 |some .string,some .string,.str s=>some (.str s)
 |_,_,_=>none
theorem aconv_ok(ok:EnvOk E){src dst:TypeId}{x v:AV}{c:Value}(hv:aconv E src dst x=some v)(hx:VRel I w ρ x c):∃d,(convert src dst c).run E.P w = .ok d w∧VRel I w ρ v d:=by
 unfold aconv at hv;split at hv
 ·rename_i hs hd;simp only[VRel]at hx;subst hx;cases hv;exact⟨_,by simp[convert,run_und ok w hs,run_und ok w hd,Conv.intToInt];rfl,by simp[VRel]⟩
 ·rename_i hs hd;simp only[VRel]at hx;obtain⟨t,rfl,ht⟩:=hx;cases hv;exact⟨.string t,by simp[convert,run_und ok w hs,run_und ok w hd],by simp only[VRel];exact⟨t,rfl,ht⟩⟩
 ·cases hv
end
end Go.Ax
/- AxApp: append. -/
namespace Go.Ax
section
variable {E:Env}{I K:Nat→Prop}{ρ:PMap}{h:FHeap}{n:Nat}{w:World}
def arowsOf(h:FHeap)(k:Nat):AV→Option (List (List AV))
 |.nilslice=>some []
 |.islice rows _=>bif rows.all (λr=>r.length==k)then some rows else none
 |.slice b off len _=>match h b with
  |some (.row k' rows)=>bif k'==k&&Nat.ble (off+len) rows.length then some ((rows.drop off).take len)else none
  |_=>none
 |.str s=>bif k==1 then some (s.map λb=>[.int .u8 b.toNat])else none
 |_=>none
theorem vrels_bytes:∀l:List UInt8,VRels I w ρ (l.map λb=>[AV.int .u8 b.toNat]).flatten (l.map λb=>Value.int .u8 b.toNat)
 | []=>by simp[VRels]
 |b::l=>by simp only[List.map_cons,List.flatten_cons,List.cons_append,List.nil_append,VRels];exact⟨_,_,rfl,by simp[VRel],vrels_bytes l⟩
theorem SameMem.cell{w w':World}(s:SameMem w w')(a:Addr):w'.cell? a=w.cell? a:=by simp[World.cell?,s.1]
theorem arowsOf_run(r:HRel E.G I K ρ h w){k:Nat}{x:AV}{xs:List (List AV)}{c:Value}(ha:arowsOf h k x=some xs)(hx:VRel I w ρ x c) :
 (Builtin.lenOf c).run E.P w = .ok xs.length w∧(∃cv:Array Value,(∀w',SameMem w w'→(Builtin.firstCells k xs.length c).run E.P w' = .ok cv w')∧VRels I w ρ xs.flatten cv.toList)∧∀r∈xs,r.length=k:=by
 unfold arowsOf at ha;split at ha
 ·cases ha;simp only[VRel]at hx;subst hx;exact⟨rfl,⟨#[],λ_ _=>rfl,by simp[VRels]⟩,by simp⟩
 ·rename_i rows cap;rw[cond_eq_ite]at ha;split at ha
  case isFalse=>cases ha
  rename_i hall;cases ha;simp only[List.all_eq_true,beq_iff_eq]at hall;simp only[VRel]at hx;obtain⟨a,cc,kk,rfl,hle,_,hor⟩:=hx;refine⟨rfl,?_,hall⟩;rcases hor with rfl|⟨hs,hI,hrows⟩
  ·exact⟨#[],λw' _=>by simp[Builtin.firstCells,loadCells,loadCellsFrom],by simp[VRels]⟩
  ·rw[VRows.iff]at hrows;obtain⟨cv,h1,h2⟩:=VAt.cells hrows.2;have hl:cv.length=xs.length*k:=by rw[←VRels.length h2,flatten_length_of hall]
   have ha:a=⟨a.block,a.off,none⟩:=by cases a;simp_all
   refine⟨cv.toArray,λw' hw'=>?_,by simpa using VRels.noRef_any h2⟩;have:=run_loadCells_list (P:=E.P) w' a cv (λj v hj=>by rw[ha,addr_add,hw'.cell];exact h1 j v hj);rw[hl]at this;simpa[Builtin.firstCells]using this
 ·rename_i b off len cap;split at ha
  case h_2=>cases ha
  rename_i k' rows hb;rw[cond_eq_ite]at ha;split at ha
  case isFalse=>cases ha
  rename_i hc;cases ha;simp only[Bool.and_eq_true,beq_iff_eq,Nat.ble_eq]at hc;obtain⟨rfl,hfit⟩:=hc;obtain⟨m,hm,_,_,ho⟩:=r.live b _ hb;obtain⟨hk,hk0,_,hrows⟩:=ho;have hlen:((rows.drop off).take len).length=len:=by simp;omega
  simp only[VRel]at hx;obtain⟨a,cc,rfl,hle,_,hor⟩:=hx;have hsub:=VRows.take len (VRows.drop off (by omega) hrows);rw[VRows.iff]at hsub;refine⟨by simp[Builtin.lenOf,hlen],?_,hsub.1⟩;rw[hlen];rcases hor with rfl|⟨m',hm',rfl,hroom⟩
  ·have:len=0:=by omega
   subst this;exact⟨#[],λw' _=>by simp[Builtin.firstCells,loadCells,loadCellsFrom],by simp[VRels]⟩
  ·obtain rfl:m=m':=Option.some.inj (hm.symm.trans hm');obtain⟨cv,h1,h2⟩:=VAt.cells hsub.2;have hl:cv.length=len*k':=by rw[←VRels.length h2,flatten_length_of hsub.1,hlen]
   refine⟨cv.toArray,λw' hw'=>?_,by simpa using h2⟩;have:=run_loadCells_list (P:=E.P) w' ⟨m.blk,m.off+off*m.k,none⟩ cv (λj v hj=>by rw[addr_add,hk,hw'.cell];exact h1 j v hj);rw[hl]at this;simpa[Builtin.firstCells]using this
 ·rename_i s;rw[cond_eq_ite]at ha;split at ha
  case isFalse=>cases ha
  rename_i hk;cases ha;have hk:k=1:=by simpa using hk
  subst hk;simp only[VRel]at hx;obtain⟨t,rfl,ht⟩:=hx;have hsz:t.size=s.length:=by rw[←ht,Array.length_toList];rfl
  refine⟨by simp[Builtin.lenOf,hsz],⟨_,λw' _=>by simp only[Builtin.firstCells,Sem.run_pure];rfl,?_⟩,by simp⟩;rw[Array.toList_map,extract_toList];simp only[List.drop_zero,List.length_map,ht,List.take_length];exact vrels_bytes s
 ·cases ha
def isIntDesc:TypeDesc→Bool
 |.int _=>true
 |_=>false
def roomOk(E:Env)(elem:TypeId)(need:Nat):Bool:=decide (need≤17592186044416)&&decide (E.bytes elem*(2*need+192)≤281474976710656)
theorem growBy_le(need:Nat):∀(r c:Nat),c≤2*need+192→Builtin.growBy need r c≤2*need+192
 |0,c,h=>h
 |r+1,c,h=>by
  simp only[Builtin.growBy];split
  ·exact h
  ·rename_i hc;exact growBy_le need r _ (by omega)
theorem nextslicecap_le{need old:Nat}(h:old<need):Builtin.nextslicecap need old≤2*need+192:=by
 unfold Builtin.nextslicecap;split
 ·omega
 ·split
  ·omega
  ·exact growBy_le need 4 old (by omega)
theorem zeroCells_list(z:Array Value)(m:Nat):(Builtin.zeroCells z m).toList=(List.replicate m z.toList).flatten:=by rw[←range_mod_flatten];simp only[Builtin.zeroCells,Array.toList_map,Array.toList_range,Array.length_toList];apply List.map_congr_left;intro a _;rw[Array.getElem!_toList]
theorem run_append_grow(ok:EnvOk E){st xt elem:TypeId}{dx:TypeDesc}(hu:E.und st=some (.slice elem))(hxt:E.und xt=some dx)(hnint:isIntDesc dx=false)
 {z:List AV}(hz:E.zero elem=some z){base:Option Addr}{sLen sCap m:Nat}{cx:Value}{old new:Array Value}(ty:TypeId)
 (hlen:(Builtin.lenOf cx).run E.P w = .ok m w)(hneed:sCap<sLen+m)(hroom:roomOk E elem (sLen+m)=true)
 (hold:∀w',SameMem w w'→(Builtin.firstCells (E.sz elem) sLen (.slice base sLen sCap)).run E.P w' = .ok old w')
 (hnew:∀w',SameMem w w'→(Builtin.firstCells (E.sz elem) m cx).run E.P w' = .ok new w') :
 ∃(newCap:Nat) (zs:List Value) (w0:World),SameMem w w0∧sLen+m≤newCap∧zs.length=E.sz elem∧
  (Builtin.append_ #[st,xt] ty #[.slice base sLen sCap,cx]).run E.P w =
   .ok (.slice (some ⟨w.heap.size,0,none⟩) (sLen+m) newCap)
    { w0 with heap:=w0.heap.push (.cells (old++new++(List.replicate (newCap-(sLen+m)) zs).flatten.toArray) elem) }:=by
 obtain⟨⟨de,hde⟩,i',z',hi',hz',hzl',hzr'⟩:=ok.zero elem z hz;simp only[roomOk,Bool.and_eq_true,decide_eq_true_eq]at hroom;have hzero:∀w',(zeroValue elem).run E.P w' = .ok z' w':=by intro w';simp[zeroValue,typeInfo,hi',hz']
 have hzlen:z'.cells.toList.length=E.sz elem:=by rw[←hzl',VRels.length (hzr' (λ_=>False) w)]
 obtain⟨i,hi,_,hib⟩:=run_info ok w hde;have hinfo:∀w',(typeInfo elem).run E.P w' = .ok i w':=by intro w';have:=hi;simp[typeInfo,hi']at this⊢;exact this
 have hzm:∀w',(underlying xt).run E.P w' = .ok dx w':=λw'=>run_und ok w' hxt;refine⟨sLen+m+(w.tape w.drawn (.appendCap (sLen+m) sCap elem))%(2^63-(sLen+m)),z'.cells.toList,{ w with drawn:=w.drawn+1 },⟨rfl,rfl,rfl,rfl⟩,by omega,hzlen,?_⟩;have hle:¬(sLen+m≤sCap):=by omega
 have hcap:=nextslicecap_le hneed;have h48:¬(Builtin.nextslicecap (sLen+m) sCap*i.bytes>2^48):=by rw[hib];have:Builtin.nextslicecap (sLen+m) sCap*E.bytes elem≤(2*(sLen+m)+192)*E.bytes elem:=Nat.mul_le_mul_right _ hcap;rw[Nat.mul_comm (2*(sLen+m)+192)]at this;omega
 have hmax:¬(((sLen+m:Nat):Int)>IntKind.i64.max):=by simp only[IntKind.max,IntKind.signed,IntKind.bits];simp;omega
 have hmax':¬((((sLen+m:Nat):Int)>IntKind.i64.max)∧(False∨i.bytes=0)):=λhh=>hmax hh.1;have hold':=hold { w with drawn:=w.drawn+1 } ⟨rfl,rfl,rfl,rfl⟩;have hnew':=hnew { w with drawn:=w.drawn+1 } ⟨rfl,rfl,rfl,rfl⟩;have hnot:∀k:IntKind,dx≠ .int k:=by rintro k rfl;simp[isIntDesc]at hnint
 unfold Builtin.append_;simp only[List.getElem?_toArray,List.getElem?_cons_zero,List.getElem?_cons_succ,Sem.run_bind,run_und ok w hu,Result.andThen_ok,run_sz ok w hde];simp only[hzm w,Result.andThen_ok,Sem.run_pure];simp only[Bool.false_eq_true,if_false,Sem.run_bind,hlen,Result.andThen_ok,hle,hinfo,false_or,hmax,false_and,h48,Bool.not_false,if_true,run_choose,run_askRoom,
  Question.forced,Question.cut,hold',hnew',hzero,run_newRow,Sem.run_pure]
 congr 4
 apply Array.ext';simp only[Array.toList_append,zeroCells_list]
theorem run_append_fits(ok:EnvOk E){st xt elem:TypeId}{dx de:TypeDesc}(hu:E.und st=some (.slice elem))(hde:E.und elem=some de)(hxt:E.und xt=some dx)(hnint:isIntDesc dx=false)
 {base:Option Addr}{sLen sCap m:Nat}{cx:Value}{new:Array Value}(ty:TypeId){w':World}
 (hlen:(Builtin.lenOf cx).run E.P w = .ok m w)(hle:sLen+m≤sCap)
 (hnew:(Builtin.firstCells (E.sz elem) m cx).run E.P w = .ok new w)
 (hst:∀a,base=some a→(storeCells (a.add (sLen*E.sz elem)) new.toList).run E.P w = .ok () w')(hnone:base=none→w'=w) :
 (Builtin.append_ #[st,xt] ty #[.slice base sLen sCap,cx]).run E.P w = .ok (.slice base (sLen+m) sCap) w':=by
 have hnot:∀k:IntKind,dx≠ .int k:=by rintro k rfl;simp[isIntDesc]at hnint
 unfold Builtin.append_;simp only[List.getElem?_toArray,List.getElem?_cons_zero,List.getElem?_cons_succ,Sem.run_bind,run_und ok w hu,Result.andThen_ok,run_sz ok w hde,run_und ok w hxt,Sem.run_pure];simp only[Bool.false_eq_true,if_false,Sem.run_bind,hlen,Result.andThen_ok,hle,Bool.not_false,if_true,hnew];cases base with
 |none=>simp[hnone rfl]
 |some a=>simp[hst a rfl]
def aappend(E:Env)(h:FHeap)(n:Nat)(st xt:TypeId)(s x:AV):Option (AV×Eff):=
 match E.und st,E.und xt with
 |some (.slice elem),some dx=>
  bif isIntDesc dx || !(E.zero elem).isSome || !(Nat.blt 0 (E.sz elem))then none else
  match arowsOf h (E.sz elem) x with
  |none=>none
  |some xs=>match s with
   |.nilslice=>match xs with
    | []=>some (.nilslice,.none)
    |y::ys=>bif roomOk E elem (y::ys).length then some (.slice n 0 (y::ys).length none,.new (.row (E.sz elem) (y::ys)))else none
   |.islice rows cap=>bif rows.all (λr=>r.length==E.sz elem)then match xs with
    | []=>some (.islice rows cap,.none)
    |y::ys=>match cap with
     |some c=>bif Nat.blt c (rows.length+(y::ys).length)&&roomOk E elem (rows.length+(y::ys).length)then
      some (.slice n 0 (rows.length+(y::ys).length) none,.new (.row (E.sz elem) (rows++(y::ys))))else none
     |none=>none
    else none
   |.slice b off len cap=>match h b with
    |some (.row kk rows)=>bif kk==E.sz elem&&Nat.ble (off+len) rows.length then
     match cap with
     |none=>bif roomOk E elem (len+xs.length)&&xs.all (λr=>r.all AV.storable)then
      some (.slice n 0 (len+xs.length) none,.kill b (.row (E.sz elem) (bif Nat.beq (off+len) rows.length then rows.drop off++xs else(rows.drop off).take len++xs)))else none
     |some c=>bif Nat.ble (len+xs.length) c then
      bif Nat.ble (off+len+xs.length) rows.length&&xs.all (λr=>r.all AV.storable)then
       some (.slice b off (len+xs.length) (some c),.set b (.row (E.sz elem) (rows.take (off+len)++xs++rows.drop (off+len+xs.length))))else none
      else bif roomOk E elem (len+xs.length)then
       some (.slice n 0 (len+xs.length) none,.new (.row (E.sz elem) ((rows.drop off).take len++xs)))else none
     else none
    |_=>none
   |_=>none
 |_,_=>none
theorem VRels.flat_append{as bs:List (List AV)}{xs ys:List Value}(h:VRels I w ρ as.flatten xs)(k:VRels I w ρ bs.flatten ys):VRels I w ρ (as++bs).flatten (xs++ys):=by rw[List.flatten_append];exact VRels.append h k
theorem grown_ok(ok:EnvOk E)(r:HRel E.G I K ρ h w)(hn:h n=none)(hρ:ρ n=none){st xt elem:TypeId}{dx:TypeDesc}(hu:E.und st=some (.slice elem))(hxt:E.und xt=some dx)
 (hnint:isIntDesc dx=false){z:List AV}(hz:E.zero elem=some z)(hsz:0<E.sz elem){base:Option Addr}{sLen sCap m:Nat}{cx:Value}{old new:Array Value}(ty:TypeId){ss xs:List (List AV)}
 (hlen:(Builtin.lenOf cx).run E.P w = .ok m w)(hneed:sCap<sLen+m)(hroom:roomOk E elem (sLen+m)=true)
 (hold:∀w',SameMem w w'→(Builtin.firstCells (E.sz elem) sLen (.slice base sLen sCap)).run E.P w' = .ok old w')
 (hnew:∀w',SameMem w w'→(Builtin.firstCells (E.sz elem) m cx).run E.P w' = .ok new w')
 (hss:VRels I w ρ ss.flatten old.toList)(hxs:VRels I w ρ xs.flatten new.toList)(hsk:∀r∈ss,r.length=E.sz elem)(hxk:∀r∈xs,r.length=E.sz elem)
 (hsl:ss.length=sLen)(hxl:xs.length=m){e:Eff}(he:e = .new (.row (E.sz elem) (ss++xs))∨∃b,e = .kill b (.row (E.sz elem) (ss++xs))) :
 Val E I K ρ h n w (Builtin.append_ #[st,xt] ty #[.slice base sLen sCap,cx]) (.slice n 0 (sLen+m) none) e:=by
 obtain⟨newCap,zs,w0,hw0,hcap,hzl,hrun⟩:=run_append_grow ok hu hxt hnint hz ty hlen hneed hroom hold hnew;generalize hcells:old++new++(List.replicate (newCap-(sLen+m)) zs).flatten.toArray=cells at hrun;have hflat:∀m,(List.replicate m zs).flatten.length=m*E.sz elem:=by
  intro m;induction m with
  |zero=>simp
  |succ m ih=>rw[List.replicate_succ,List.flatten_cons,List.length_append,ih,hzl,Nat.succ_mul,Nat.add_comm]
 have hol:old.size=sLen*E.sz elem:=by have:=VRels.length hss;rw[flatten_length_of hsk,hsl,Array.length_toList]at this;exact this.symm
 have hnl:new.size=m*E.sz elem:=by have:=VRels.length hxs;rw[flatten_length_of hxk,hxl,Array.length_toList]at this;exact this.symm
 have hsize:cells.size=newCap*E.sz elem:=by
  subst hcells;simp only[Array.size_append,hol,hnl,List.size_toArray,hflat];rw[←Nat.add_mul,←Nat.add_mul]
  congr 1;omega
 have hwm:∀c,I c→({ w0 with heap:=w0.heap.push (.cells cells elem) }:World).heap[c]?=w.heap[c]?:=by intro c hc;have:=r.imm c hc;show(w0.heap.push _)[c]?=_;rw[hw0.1,Array.getElem?_push,if_neg (by omega)]
 have hnewb:({ w0 with heap:=w0.heap.push (.cells cells elem) }:World).heap[w.heap.size]?=some (.cells cells elem (0,0)):=by show(w0.heap.push _)[_]?=_;rw[hw0.1];simp
 have hset:=PMap.set_old (m:=⟨w.heap.size,0,E.sz elem,cells.size⟩) hρ;have ho:ORel E.G I { w0 with heap:=w0.heap.push (.cells cells elem) } (ρ.set n ⟨w.heap.size,0,E.sz elem,cells.size⟩) ⟨w.heap.size,0,E.sz elem,cells.size⟩ (.row (E.sz elem) (ss++xs)):=by
  refine⟨rfl,hsz,⟨cells,elem,hnewb,rfl,?_⟩,?_⟩
  ·show 0+(ss++xs).length*E.sz elem≤cells.size;rw[List.length_append,hsl,hxl,hsize,Nat.zero_add];exact Nat.mul_le_mul_right _ hcap
  ·rw[VRows.iff];refine⟨by intro x hx;rcases List.mem_append.1 hx with h|h;exact hsk x h;exact hxk x h,?_⟩;refine VAt.of_cells (cs:=(old++new).toList) (CellsAt.of_heap hnewb (λj v hj=>?_)) ?_
   ·subst hcells;have hj':=(List.getElem?_eq_some_iff.1 hj).1;simp only[Array.length_toList]at hj';rw[Nat.zero_add,Array.getElem?_append_left hj',←Array.getElem?_toList];exact hj
   ·rw[Array.toList_append];exact VRels.mono (λ_ h=>h) hwm _ hset (VRels.flat_append hss hxs)
 refine⟨_,_,ρ.set n ⟨w.heap.size,0,E.sz elem,cells.size⟩,hrun,?_,?_,Moves.set _ _ _ (by rcases he with rfl|⟨b,rfl⟩<;>rfl)⟩
 ·rcases he with rfl|⟨b,rfl⟩
  ·exact stepped_new (ob:=.cells cells elem) r hn hρ (by show w0.heap.push _=_;rw[hw0.1]) hw0.2.1 hw0.2.2.1 hw0.2.2.2 rfl ho
  ·exact stepped_kill_new (ob:=.cells cells elem) r hn hρ b (by show w0.heap.push _=_;rw[hw0.1]) hw0.2.1 hw0.2.2.1 hw0.2.2.2 rfl ho
 ·simp only[VRel];refine⟨_,newCap,rfl,hcap,(λq hq=>by cases hq),.inr ⟨_,by simp[PMap.set];rfl,by simp,?_⟩⟩;show 0+(0+newCap)*E.sz elem≤cells.size;rw[hsize,Nat.zero_add,Nat.zero_add];exact Nat.le_refl _
theorem inplace_ok(ok:EnvOk E)(r:HRel E.G I K ρ h w){st xt elem:TypeId}{dx de:TypeDesc}(hu:E.und st=some (.slice elem))(hde:E.und elem=some de)(hxt:E.und xt=some dx)
 (hnint:isIntDesc dx=false){m:Pl}{b off sLen sCap nn:Nat}{rows xs:List (List AV)}{cx:Value}{new:Array Value}(ty:TypeId)
 (hb:h b=some (.row (E.sz elem) rows))(hm:ρ b=some m)(hrl:off+sLen≤rows.length)(hroom:m.off+(off+sCap)*m.k≤m.room)
 (hlen:(Builtin.lenOf cx).run E.P w = .ok nn w)(hle:sLen+nn≤sCap)(hnew:(Builtin.firstCells (E.sz elem) nn cx).run E.P w = .ok new w)
 (hxs:VRels I w ρ xs.flatten new.toList)(hxk:∀r∈xs,r.length=E.sz elem)(hxl:xs.length=nn)(hst:xs.all (λr=>r.all AV.storable)=true) :
 ∃w',(Builtin.append_ #[st,xt] ty #[.slice (some ⟨m.blk,m.off+off*m.k,none⟩) sLen sCap,cx]).run E.P w = .ok (.slice (some ⟨m.blk,m.off+off*m.k,none⟩) (sLen+nn) sCap) w'∧
  w'.heap.size=w.heap.size∧(∀c,c≠m.blk→w'.heap[c]?=w.heap[c]?)∧w'.tape=w.tape∧w'.os=w.os∧w'.output=w.output∧
  (∃arr e,w'.heap[m.blk]?=some (.cells arr e (0,0))∧arr.size=m.room)∧VRows I w' (E.sz elem) ρ (rows.take (off+sLen)++xs) m.blk m.off∧
  (∀x,m.off+(off+sLen+nn)*E.sz elem≤x→w'.cell? ⟨m.blk,x,none⟩=w.cell? ⟨m.blk,x,none⟩):=by
 obtain⟨m',hm',hnI,_,ho⟩:=r.live b _ hb;obtain rfl:m=m':=Option.some.inj (hm.symm.trans hm');obtain⟨hk,hk0,⟨arr,el,hblk,hsize,_⟩,hrows⟩:=ho;have hnl:new.toList.length=nn*E.sz elem:=by have:=VRels.length hxs;rw[flatten_length_of hxk,hxl]at this;exact this.symm
 have hflat:xs.flatten.all AV.storable=true:=by rw[List.all_eq_true]at hst⊢;intro v hv;obtain⟨l,hl,hvl⟩:=List.mem_flatten.1 hv;exact List.all_eq_true.1 (hst l hl) v hvl
 have haddr:(⟨m.blk,m.off+off*m.k,none⟩:Addr).add (sLen*E.sz elem)=⟨m.blk,m.off+(off+sLen)*E.sz elem,none⟩:=by rw[addr_add,hk,Nat.add_mul,Nat.add_assoc]
 have hfit:m.off+(off+sLen)*E.sz elem+new.toList.length≤arr.size:=by rw[hsize,hnl,Nat.add_assoc,←Nat.add_mul];rw[hk]at hroom;have:(off+sLen+nn)*E.sz elem≤(off+sCap)*E.sz elem:=Nat.mul_le_mul_right _ (by omega);omega
 obtain⟨w',hrun,⟨arr',hb',hsz'⟩,hoth,hsz,ht,hos,hout,hcells,hcell⟩:=written (w:=w) (blk:=m.blk) (o:=m.off+(off+sLen)*E.sz elem) new.toList hblk hfit (VRels.storable hxs hflat) E.P;have hIw:∀c,I c→w'.heap[c]?=w.heap[c]?:=λc hc=>hoth c (λe=>hnI (e▸hc));refine⟨w',?_,hsz,hoth,ht,hos,hout,⟨arr',el,hb',by omega⟩,?_,?_⟩
 ·exact run_append_fits ok hu hde hxt hnint ty hlen hle hnew (λa ha=>by cases ha;rw[haddr];exact hrun) (λh=>by cases h)
 ·rw[VRows.append];have htl:(rows.take (off+sLen)).length=off+sLen:=by simp;omega
  refine⟨?_,?_⟩
  ·refine VRows.mono_cells (λ_ h=>h) hIw (λ_ _ h=>h) (λj hj=>hcell _ (.inl ?_)) (VRows.take (off+sLen) hrows);rw[htl]at hj;omega
  ·rw[VRows.iff,htl];exact⟨hxk,VAt.of_cells hcells (VRels.mono (λ_ h=>h) hIw _ (λ_ _ h=>h) hxs)⟩
 ·intro x hx;refine hcell x (.inr ?_);rw[hnl,Nat.add_assoc,←Nat.add_mul];exact hx
theorem aappend_ok(ok:EnvOk E)(r:HRel E.G I K ρ h w)(hn:h n=none)(hρ:ρ n=none){st xt:TypeId}{s x v:AV}{e:Eff}{cs cx:Value}(ty:TypeId)
 (ha:aappend E h n st xt s x=some (v,e))(hs:VRel I w ρ s cs)(hx:VRel I w ρ x cx):Val E I K ρ h n w (Builtin.append_ #[st,xt] ty #[cs,cx]) v e:=by
 unfold aappend at ha;split at ha
 case h_2=>cases ha
 rename_i elem dx hu hxt;rw[cond_eq_ite]at ha;split at ha
 case isTrue=>cases ha
 rename_i hc;simp only[Bool.or_eq_true,Bool.not_eq_true',not_or,Bool.not_eq_true,Bool.not_eq_false,Nat.blt_eq]at hc;obtain⟨⟨hnint,hzs⟩,hsz⟩:=hc;obtain⟨z,hz⟩:=Option.isSome_iff_exists.1 hzs;obtain⟨⟨de,hde⟩,_⟩:=ok.zero elem z hz;split at ha
 case h_1=>cases ha
 rename_i xs hxs;obtain⟨hlen,⟨new,hnew,hnr⟩,hxk⟩:=arowsOf_run r hxs hx;have hnew0:=hnew w ⟨rfl,rfl,rfl,rfl⟩;split at ha
 · -- nil
  simp only[VRel]at hs;subst hs;split at ha
  ·cases ha;refine Val.here (c:=.slice none 0 0) r ?_ (by simp[VRel]);exact run_append_fits ok hu hde hxt hnint ty hlen (by simp) hnew0 (λa h=>by cases h) (λ_=>rfl)
  ·rename_i y ys;rw[cond_eq_ite]at ha;split at ha
   case isFalse=>cases ha
   rename_i hroom;cases ha;have:=grown_ok (ss:=[]) (old:=#[]) (base:=none) (sLen:=0) (sCap:=0) (e:=.new (.row (E.sz elem) ([]++(y::ys)))) ok r hn hρ hu hxt hnint hz hsz ty hlen (by simp) (by simpa using hroom)
    (λw' _=>rfl) hnew (by simp[VRels]) hnr (by simp) hxk rfl rfl (.inl rfl)
   simpa using this
 · -- immutable memory
  rename_i rows cap;rw[cond_eq_ite]at ha;split at ha
  case isFalse=>cases ha
  rename_i hall;have hs':=hs;simp only[VRel]at hs';obtain⟨a,cc,kk,rfl,hle,hcap,hor⟩:=hs';split at ha
  ·cases ha;refine Val.here r ?_ hs;have:=run_append_fits ok hu hde hxt hnint (base:=some a) (sLen:=rows.length) (sCap:=cc) ty (w':=w) hlen (by simpa using hle) hnew0 (λa' h=>by
    have:new.toList=[]:=by have:=VRels.length hnr;simpa using this.symm
    rw[this];rfl) (λh=>by cases h)
   simpa using this
  ·rename_i y ys;split at ha
   case h_2=>cases ha
   rename_i c;rw[cond_eq_ite]at ha;split at ha
   case isFalse=>cases ha
   rename_i hroom;cases ha;simp only[Bool.and_eq_true,Nat.blt_eq]at hroom;obtain⟨_,⟨old,hold,hor'⟩,hsk⟩:=arowsOf_run (k:=E.sz elem) (xs:=rows) r (by simp only[arowsOf,hall,cond_true]) hs;have hcc:=hcap c rfl;exact grown_ok ok r hn hρ hu hxt hnint hz hsz ty hlen (by omega) hroom.2 hold hnew hor' hnr hsk hxk rfl rfl (.inl rfl)
 · -- a mutable block
  rename_i b off len cap;split at ha
  case h_2=>cases ha
  rename_i kk rows hb;rw[cond_eq_ite]at ha;split at ha
  case isFalse=>cases ha
  rename_i hcc;simp only[Bool.and_eq_true,beq_iff_eq,Nat.ble_eq]at hcc;obtain⟨rfl,hfit⟩:=hcc;have hs':=hs;simp only[VRel]at hs';obtain⟨a,c,rfl,hle,hcap,hor⟩:=hs';obtain⟨hslen,⟨old,hold,hor'⟩,hsk⟩:=arowsOf_run (k:=E.sz elem) (xs:=(rows.drop off).take len) r (by simp only[arowsOf,hb,beq_self_eq_true,Bool.true_and,Nat.ble_eq_true_of_le hfit,cond_true]) hs;have hsl:((rows.drop off).take len).length=len:=by simp;omega
  rw[hsl]at hold;split at ha
  · -- capacity unknown
   rw[cond_eq_ite]at ha;split at ha
   case isFalse=>cases ha
   rename_i hall;cases ha;simp only[Bool.and_eq_true]at hall;obtain⟨hroom,hst⟩:=hall;have hR:(bif Nat.beq (off+len) rows.length then rows.drop off++xs else(rows.drop off).take len++xs)=(rows.drop off).take len++xs:=by
    cases hq:Nat.beq (off+len) rows.length with
    |false=>rfl
    |true=>have heq:=Nat.eq_of_beq_eq_true hq;rw[cond_true,List.take_of_length_le (by simp;omega)]
   rw[hR];by_cases hfits:len+xs.length≤c
   ·rcases hor with rfl|⟨m,hm,rfl,hmr⟩
    · -- no capacity at all: nothing is appended to nothing
     have h0:len=0:=by omega
     have hx0:xs=[]:=List.length_eq_zero_iff.1 (by omega);subst h0 hx0;obtain⟨m,hm,hnI,hnK,hk,hk0,⟨arr,el,hblk,hsize,hfit2⟩,hrows⟩:=r.live b _ hb;have hd:(rows.drop off).take 0=[]:=List.take_zero;have hset:=PMap.set_old (m:=⟨m.blk,m.off,m.k,m.room⟩) hρ;refine⟨.slice (some a) 0 0,w,ρ.set n ⟨m.blk,m.off,m.k,m.room⟩,?_,?_,?_,Moves.set _ _ _ rfl⟩
     ·have:=run_append_fits ok hu hde hxt hnint (base:=some a) (sLen:=0) (sCap:=0) ty (w':=w) hlen (by simp) hnew0 (λa' h=>by
       have:new.toList=[]:=by have:=VRels.length hnr;simpa using this.symm
       rw[this];rfl) (λh=>by cases h)
      simpa using this
     ·refine stepped_kill_same (mb:=m) r hn hρ hb hm rfl rfl (λ_ _=>rfl) rfl rfl rfl ?_;refine⟨hk,hk0,⟨arr,el,hblk,hsize,?_⟩,?_⟩
      ·simp[hd];omega
      ·simp[hd,VRows]
     ·simp only[VRel];exact⟨a,0,rfl,by simp,(λq hq=>by cases hq),.inl rfl⟩
    ·obtain⟨w',hrun,hsz',hoth,ht,hos,hout,⟨arr,el,hb',harr⟩,hrows',_⟩:=inplace_ok (nn:=xs.length) ok r hu hde hxt hnint ty hb hm hfit hmr hlen hfits hnew0 hnr hxk rfl hst;obtain⟨m',hm',hnI,hnK,hk,hk0,_,_⟩:=r.live b _ hb;obtain rfl:m=m':=Option.some.inj (hm.symm.trans hm');have hset:=PMap.set_old (m:=⟨m.blk,m.off+off*m.k,m.k,m.room⟩) hρ;have hIw:∀c,I c→w'.heap[c]?=w.heap[c]?:=λc hc=>hoth c (λe=>hnI (e▸hc));refine⟨_,w',ρ.set n ⟨m.blk,m.off+off*m.k,m.k,m.room⟩,hrun,?_,?_,Moves.set _ _ _ rfl⟩
     ·refine stepped_kill_same (mb:=m) r hn hρ hb hm rfl hsz' hoth ht hos hout ?_;have hlen2:((rows.drop off).take len++xs).length=len+xs.length:=by rw[List.length_append,hsl]
      refine⟨hk,hk0,⟨arr,el,hb',harr,?_⟩,?_⟩
      ·rw[hlen2,←hk,Nat.add_assoc,←Nat.add_mul];have:(off+(len+xs.length))*m.k≤(off+c)*m.k:=Nat.mul_le_mul_right _ (by omega);exact Nat.le_trans (Nat.add_le_add_left this m.off) hmr
      ·have h1:=VRows.drop (rs:=rows.take (off+len)++xs) off (by simp;omega) hrows';rw[List.drop_append_of_le_length (by rw[List.length_take];omega),List.drop_take,Nat.add_sub_cancel_left]at h1;rw[show off*E.sz elem=off*m.k by rw[hk]]at h1;exact VRows.mono (λ_ h=>h) (λ_ _=>rfl) _ hset rfl h1
     ·simp only[VRel];refine⟨_,c,rfl,hfits,(λq hq=>by cases hq),.inr ⟨_,by simp[PMap.set];rfl,by simp,?_⟩⟩;show m.off+off*m.k+(0+c)*m.k≤m.room;rw[Nat.zero_add,Nat.add_assoc,←Nat.add_mul];exact hmr
   ·have:=grown_ok (e:=.kill b (.row (E.sz elem) ((rows.drop off).take len++xs))) ok r hn hρ hu hxt hnint hz hsz ty hlen (by omega) hroom hold hnew hor' hnr hsk hxk hsl rfl (.inr ⟨b,rfl⟩);exact this
  · -- capacity known
   rename_i c';have hcc':c=c':=hcap c' rfl;subst hcc';rw[cond_eq_ite]at ha;split at ha
   ·rename_i hfits;simp only[Nat.ble_eq]at hfits;rw[cond_eq_ite]at ha;split at ha
    case isFalse=>cases ha
    rename_i hall;cases ha;simp only[Bool.and_eq_true,Nat.ble_eq]at hall;obtain⟨hext,hst⟩:=hall;rcases hor with rfl|⟨m,hm,rfl,hmr⟩
    ·have h0:len=0:=by omega
     have hx0:xs=[]:=List.length_eq_zero_iff.1 (by omega);subst h0 hx0;have hrows:rows.take (off+0)++[]++rows.drop (off+0+([]:List (List AV)).length)=rows:=by simp
     rw[hrows];refine⟨.slice (some a) 0 0,w,ρ,?_,?_,?_,Moves.same _ _ _⟩
     ·have:=run_append_fits ok hu hde hxt hnint (base:=some a) (sLen:=0) (sCap:=0) ty (w':=w) hlen (by simp) hnew0 (λa' h=>by
       have:new.toList=[]:=by have:=VRels.length hnr;simpa using this.symm
       rw[this];rfl) (λh=>by cases h)
      simpa using this
     ·obtain⟨m,hm,_,_,ho⟩:=r.live b _ hb;exact stepped_set r hb hm rfl (λ_ _=>rfl) rfl rfl rfl ho
     ·simp only[VRel];exact⟨a,0,rfl,by simp,(λq hq=>by cases hq;rfl),.inl rfl⟩
    ·obtain⟨w',hrun,hsz',hoth,ht,hos,hout,⟨arr,el,hb',harr⟩,hrows',hcell⟩:=inplace_ok (nn:=xs.length) ok r hu hde hxt hnint ty hb hm hfit hmr hlen hfits hnew0 hnr hxk rfl hst;obtain⟨m',hm',hnI,hnK,hk,hk0,⟨_,_,_,_,hfit2⟩,hrows0⟩:=r.live b _ hb;obtain rfl:m=m':=Option.some.inj (hm.symm.trans hm');have hIw:∀c,I c→w'.heap[c]?=w.heap[c]?:=λc hc=>hoth c (λe=>hnI (e▸hc));have hlen2:(rows.take (off+len)++xs).length=off+len+xs.length:=by simp;omega
     refine⟨_,w',ρ,hrun,?_,?_,Moves.same _ _ _⟩
     ·refine stepped_set r hb hm hsz' hoth ht hos hout ⟨hk,hk0,⟨arr,el,hb',harr,?_⟩,?_⟩
      ·have:(rows.take (off+len)++xs++rows.drop (off+len+xs.length)).length=rows.length:=by
        rw[List.length_append,hlen2];simp;omega
       rw[this];exact hfit2
      ·rw[VRows.append];refine⟨hrows',?_⟩;rw[hlen2];refine VRows.mono_cells (λ_ h=>h) hIw (λ_ _ h=>h) (λj hj=>hcell _ (by omega)) (VRows.drop (off+len+xs.length) hext hrows0)
     ·simp only[VRel];exact⟨_,c,rfl,hfits,(λq hq=>by cases hq;rfl),.inr ⟨m,hm,rfl,hmr⟩⟩
   ·rename_i hnf;rw[cond_eq_ite]at ha;split at ha
    case isFalse=>cases ha
    rename_i hroom;cases ha;have hnf:¬(len+xs.length≤c):=by simpa using hnf
    exact grown_ok ok r hn hρ hu hxt hnint hz hsz ty hlen (by omega) hroom hold hnew hor' hnr hsk hxk hsl rfl (.inl rfl)
 ·cases ha
end
end Go.Ax
/- AxBlt: len, cap, min, max, copy. -/
namespace Go.Ax
section
variable {E:Env}{I K:Nat→Prop}{ρ:PMap}{h:FHeap}{n:Nat}{w:World}
def alen(E:Env)(h:FHeap)(t:TypeId)(x:AV):Option AV:=
 match E.und t,x with
 |some .string,.str s=>some (.int .i64 s.length)
 |some (.array n _),x=>bif x.isJunk then none else some (.int .i64 n)
 |some (.slice _),.nilslice=>some (.int .i64 0)
 |some (.slice _),.slice _ _ len _=>some (.int .i64 len)
 |some (.slice _),.islice rows _=>some (.int .i64 rows.length)
 |some (.map _ _),.nilmap=>some (.int .i64 0)
 |some (.map _ _),.imap ks _ _ _=>some (.int .i64 ks.length)
 |some (.map _ _),.iset ks=>some (.int .i64 ks.length)
 |some (.map _ _),.map b=>match h b with
  |some (.map ks _ _ _)=>some (.int .i64 ks.length)
  |some (.uset ks)=>some (.int .i64 ks.length)
  |_=>none
 |_,_=>none
theorem alen_ok(ok:EnvOk E)(r:HRel E.G I K ρ h w){t:TypeId}{x v:AV}{c:Value}(ty:TypeId)(hv:alen E h t x=some v)(hx:VRel I w ρ x c) :
 Val E I K ρ h n w (Builtin.len_ #[t] ty #[c]) v .none:=by
 unfold alen at hv;split at hv
 ·rename_i hu;cases hv;simp only[VRel]at hx;obtain⟨tb,rfl,ht⟩:=hx;have:tb.size=tb.data.toList.length:=by rw[Array.length_toList];rfl
  exact Val.here (c:=goInt tb.size) r (by simp[Builtin.len_,run_und ok w hu]) (by rw[←ht,this];simp[goInt,VRel])
 ·rename_i y m e hu;rw[cond_eq_ite]at hv;split at hv
  ·cases hv
  ·cases hv;refine Val.here (c:=goInt m) r ?_ (by simp[goInt,VRel]);cases c<;>simp[Builtin.len_,run_und ok w hu]
 ·rename_i hu;cases hv;simp only[VRel]at hx;subst hx;exact Val.here (c:=goInt 0) r (by simp[Builtin.len_,run_und ok w hu]) (by simp[goInt,VRel])
 ·rename_i hu;cases hv;simp only[VRel]at hx;obtain⟨a,cc,rfl,_⟩:=hx;exact Val.here (c:=goInt _) r (by simp[Builtin.len_,run_und ok w hu];rfl) (by simp[goInt,VRel])
 ·rename_i hu;cases hv;simp only[VRel]at hx;obtain⟨a,cc,k,rfl,_⟩:=hx;exact Val.here (c:=goInt _) r (by simp[Builtin.len_,run_und ok w hu];rfl) (by simp[goInt,VRel])
 ·rename_i hu;cases hv;simp only[VRel]at hx;subst hx;exact Val.here (c:=goInt 0) r (by simp[Builtin.len_,run_und ok w hu]) (by simp[goInt,VRel])
 ·rename_i hu;cases hv;simp only[VRel]at hx;obtain⟨cc,es,rfl,_,he,hks,_,_⟩:=hx;have hl:=VRels.length hks;simp only[List.length_map,Array.length_toList]at hl;refine Val.here (c:=goInt es.size) r ?_ (by rw[hl];simp[goInt,VRel]);simp[Builtin.len_,run_und ok w hu,getObj,Sem.run,he]
 ·rename_i hu;cases hv;simp only[VRel]at hx;obtain⟨cc,es,cl,rfl,_,he,hs⟩:=hx;have hl:=hs.1.length_eq;simp only[List.length_map,Array.length_toList]at hl;refine Val.here (c:=goInt es.size) r ?_ (by rw[hl];simp[goInt,VRel]);simp[Builtin.len_,run_und ok w hu,getObj,Sem.run,he]
 ·rename_i b hu;split at hv
  case h_3=>cases hv
  case h_2=>rename_i ks hb;cases hv;simp only[VRel]at hx;obtain⟨m,hm,rfl⟩:=hx;obtain⟨m',hm',_,_,ho⟩:=r.live b _ hb;obtain rfl:m=m':=Option.some.inj (hm.symm.trans hm');obtain⟨es,cl,he,hs⟩:=ho;have hl:=hs.1.length_eq;simp only[List.length_map,Array.length_toList]at hl;refine Val.here (c:=goInt es.size) r ?_ (by rw[hl];simp[goInt,VRel]);simp[Builtin.len_,run_und ok w hu,getObj,Sem.run,he]
  rename_i ks vs bs cl hb;cases hv;simp only[VRel]at hx;obtain⟨m,hm,rfl⟩:=hx;obtain⟨m',hm',_,_,ho⟩:=r.live b _ hb;obtain rfl:m=m':=Option.some.inj (hm.symm.trans hm');obtain⟨es,he,hks,_,_⟩:=ho;have hl:=VRels.length hks;simp only[List.length_map,Array.length_toList]at hl;refine Val.here (c:=goInt es.size) r ?_ (by rw[hl];simp[goInt,VRel]);simp[Builtin.len_,run_und ok w hu,getObj,Sem.run,he]
 ·cases hv
def acap(E:Env)(t:TypeId)(x:AV):Option AV:=
 match E.und t,x with
 |some (.slice _),.nilslice=>some (.int .i64 0)
 |some (.slice _),.slice _ _ _ (some c)=>some (.int .i64 c)
 |some (.slice _),.islice _ (some c)=>some (.int .i64 c)
 |_,_=>none
theorem acap_ok(ok:EnvOk E)(r:HRel E.G I K ρ h w){t:TypeId}{x v:AV}{c:Value}(ty:TypeId)(hv:acap E t x=some v)(hx:VRel I w ρ x c) :
 Val E I K ρ h n w (Builtin.cap_ #[t] ty #[c]) v .none:=by
 unfold acap at hv;split at hv
 ·rename_i hu;cases hv;simp only[VRel]at hx;subst hx;exact Val.here (c:=goInt 0) r (by simp[Builtin.cap_,run_und ok w hu]) (by simp[goInt,VRel])
 ·rename_i hu;cases hv;simp only[VRel]at hx;obtain⟨a,cc,rfl,_,hc,_⟩:=hx;have:=hc _ rfl;exact Val.here (c:=goInt cc) r (by simp[Builtin.cap_,run_und ok w hu]) (by rw[this];simp[goInt,VRel])
 ·rename_i hu;cases hv;simp only[VRel]at hx;obtain⟨a,cc,k,rfl,_,hc,_⟩:=hx;have:=hc _ rfl;exact Val.here (c:=goInt cc) r (by simp[Builtin.cap_,run_und ok w hu]) (by rw[this];simp[goInt,VRel])
 ·cases hv
def amin:AV→List AV→Option AV
 |x,[]=>match x with|.int k a=>some (.int k a)|_=>none
 |.int k a,.int _ b::r=>amin (.int k (if b<a then b else a)) r
 |_,_::_=>none
def amax:AV→List AV→Option AV
 |x,[]=>match x with|.int k a=>some (.int k a)|_=>none
 |.int k a,.int _ b::r=>amax (.int k (if b>a then b else a)) r
 |_,_::_=>none
theorem amin_ok:∀{xs:List AV} {x v:AV} {c:Value} {cs:List Value},amin x xs=some v→VRel I w ρ x c→VRels I w ρ xs cs→
 ∃d,(cs.foldlM Builtin.min2 c).run E.P w = .ok d w∧VRel I w ρ v d
 | [],x,v,c,cs,hv,hx,hxs=>by
  simp only[VRels]at hxs;subst hxs;simp only[amin]at hv;split at hv
  ·cases hv;exact⟨c,by simp,hx⟩
  ·cases hv
 |y::ys,x,v,c,cs,hv,hx,hxs=>by
  simp only[VRels]at hxs;obtain⟨cy,cs',rfl,hy,hys⟩:=hxs;unfold amin at hv;split at hv
  ·rename_i h;cases h
  ·rename_i k a k' b r he;cases he;simp only[VRel]at hx hy;subst hx hy;obtain⟨d,h1,h2⟩:=amin_ok (c:=.int k (if b<a then b else a)) hv (by simp[VRel]) hys;exact⟨d,by simp only[List.foldlM_cons,Builtin.min2,Sem.run_bind,Sem.run_pure,Result.andThen_ok,h1],h2⟩
  ·cases hv
theorem amax_ok:∀{xs:List AV} {x v:AV} {c:Value} {cs:List Value},amax x xs=some v→VRel I w ρ x c→VRels I w ρ xs cs→
 ∃d,(cs.foldlM Builtin.max2 c).run E.P w = .ok d w∧VRel I w ρ v d
 | [],x,v,c,cs,hv,hx,hxs=>by
  simp only[VRels]at hxs;subst hxs;simp only[amax]at hv;split at hv
  ·cases hv;exact⟨c,by simp,hx⟩
  ·cases hv
 |y::ys,x,v,c,cs,hv,hx,hxs=>by
  simp only[VRels]at hxs;obtain⟨cy,cs',rfl,hy,hys⟩:=hxs;unfold amax at hv;split at hv
  ·rename_i h;cases h
  ·rename_i k a k' b r he;cases he;simp only[VRel]at hx hy;subst hx hy;obtain⟨d,h1,h2⟩:=amax_ok (c:=.int k (if b>a then b else a)) hv (by simp[VRel]) hys;exact⟨d,by simp only[List.foldlM_cons,Builtin.max2,Sem.run_bind,Sem.run_pure,Result.andThen_ok,h1],h2⟩
  ·cases hv
theorem arowsOf_pre(r:HRel E.G I K ρ h w){k:Nat}{x:AV}{xs:List (List AV)}{c:Value}(ha:arowsOf h k x=some xs)(hx:VRel I w ρ x c)(j:Nat)(hj:j≤xs.length) :
 ∃cv:Array Value,(Builtin.firstCells k j c).run E.P w = .ok cv w∧VRels I w ρ (xs.take j).flatten cv.toList:=by
 have hjl:(xs.take j).length=j:=by simp;omega
 have key:∀(a:Addr) (n cap:Nat),a.spot=none→VAt I w ρ (xs.take j).flatten a.block a.off→(∀r∈xs.take j,r.length=k)→∃cv:Array Value,(Builtin.firstCells k j (.slice (some a) n cap)).run E.P w = .ok cv w∧VRels I w ρ (xs.take j).flatten cv.toList:=by
  intro a n cap hs hat hk;obtain⟨cv,h1,h2⟩:=VAt.cells hat;have hl:cv.length=j*k:=by rw[←VRels.length h2,flatten_length_of hk,hjl]
  have ha:a=⟨a.block,a.off,none⟩:=by cases a;simp_all
  refine⟨cv.toArray,?_,by simpa using h2⟩;have:=run_loadCells_list (P:=E.P) w a cv (λi v hi=>by rw[ha,addr_add];exact h1 i v hi);rw[hl]at this;simpa[Builtin.firstCells]using this
 obtain⟨_,_,hall⟩:=arowsOf_run r ha hx;have hallj:∀r∈xs.take j,r.length=k:=λr hr=>hall r (List.mem_of_mem_take hr);unfold arowsOf at ha;split at ha
 ·cases ha;simp only[VRel]at hx;subst hx;exact⟨#[],rfl,by simp[VRels]⟩
 ·rename_i rows cap;rw[cond_eq_ite]at ha;split at ha
  case isFalse=>cases ha
  cases ha;simp only[VRel]at hx;obtain⟨a,cc,kk,rfl,hle,_,hor⟩:=hx;rcases hor with rfl|⟨hs,hI,hrows⟩
  ·have:j=0:=by simpa using hj
   subst this;exact⟨#[],by simp[Builtin.firstCells,loadCells,loadCellsFrom],by simp[VRels]⟩
  ·exact key a _ _ hs (VAt.noRef_any (VRows.iff.1 (VRows.take j hrows)).2) hallj
 ·rename_i b off len cap;split at ha
  case h_2=>cases ha
  rename_i k' rows hb;rw[cond_eq_ite]at ha;split at ha
  case isFalse=>cases ha
  rename_i hc;cases ha;simp only[Bool.and_eq_true,beq_iff_eq,Nat.ble_eq]at hc;obtain⟨rfl,hfit⟩:=hc;obtain⟨m,hm,_,_,ho⟩:=r.live b _ hb;obtain⟨hk,hk0,_,hrows⟩:=ho;simp only[VRel]at hx;obtain⟨a,cc,rfl,hle,_,hor⟩:=hx;rcases hor with rfl|⟨m',hm',rfl,hroom⟩
  ·have:j=0:=by simp at hj;omega
   subst this;exact⟨#[],by simp[Builtin.firstCells,loadCells,loadCellsFrom],by simp[VRels]⟩
  ·obtain rfl:m=m':=Option.some.inj (hm.symm.trans hm');refine key _ _ _ rfl ?_ hallj;rw[hk];exact(VRows.iff.1 (VRows.take j (VRows.take len (VRows.drop off (by omega) hrows)))).2
 ·rename_i s;rw[cond_eq_ite]at ha;split at ha
  case isFalse=>cases ha
  cases ha;simp only[VRel]at hx;obtain⟨t,rfl,ht⟩:=hx;refine⟨_,by simp only[Builtin.firstCells,Sem.run_pure];rfl,?_⟩;rw[Array.toList_map,extract_toList,←List.map_take];simp only[List.drop_zero,ht,Nat.sub_zero];exact vrels_bytes _
 ·cases ha
theorem putrows_ok(r:HRel E.G I K ρ h w){m:Pl}{b off k:Nat}{rows xs:List (List AV)}{new:List Value}(hb:h b=some (.row k rows))(hm:ρ b=some m)(hfit:off+xs.length≤rows.length)
 (hxs:VRels I w ρ xs.flatten new)(hxk:∀r∈xs,r.length=k)(hst:xs.all (λr=>r.all AV.storable)=true) :
 ∃w',(storeCells ⟨m.blk,m.off+off*m.k,none⟩ new).run E.P w = .ok () w'∧Stepped E.G I K ρ w I ρ (h.eff n (.set b (.row k (rows.take off++xs++rows.drop (off+xs.length))))) w':=by
 obtain⟨m',hm',hnI,_,ho⟩:=r.live b _ hb;obtain rfl:m=m':=Option.some.inj (hm.symm.trans hm');obtain⟨hk,hk0,⟨arr,el,hblk,hsize,hfit2⟩,hrows⟩:=ho;have hnl:new.length=xs.length*k:=by have:=VRels.length hxs;rw[flatten_length_of hxk]at this;exact this.symm
 have hflat:xs.flatten.all AV.storable=true:=by rw[List.all_eq_true]at hst⊢;intro v hv;obtain⟨l,hl,hvl⟩:=List.mem_flatten.1 hv;exact List.all_eq_true.1 (hst l hl) v hvl
 have hin:m.off+off*m.k+new.length≤arr.size:=by rw[hsize,hnl,hk,Nat.add_assoc,←Nat.add_mul];exact Nat.le_trans (Nat.add_le_add_left (Nat.mul_le_mul_right k hfit) _) hfit2
 obtain⟨w',hrun,⟨arr',hb',hsz'⟩,hoth,hsz,ht,hos,hout,hcells,hcell⟩:=written (w:=w) (blk:=m.blk) (o:=m.off+off*m.k) new hblk hin (VRels.storable hxs hflat) E.P;have hIw:∀c,I c→w'.heap[c]?=w.heap[c]?:=λc hc=>hoth c (λe=>hnI (e▸hc));have htl:(rows.take off).length=off:=by simp;omega
 refine⟨w',hrun,stepped_set r hb hm hsz hoth ht hos hout ⟨hk,hk0,⟨arr',el,hb',by omega,?_⟩,?_⟩⟩
 ·have:(rows.take off++xs++rows.drop (off+xs.length)).length=rows.length:=by simp;omega
  rw[this];exact hfit2
 ·rw[VRows.append,VRows.append];refine⟨⟨?_,?_⟩,?_⟩
  ·refine VRows.mono_cells (λ_ h=>h) hIw (λ_ _ h=>h) (λj hj=>hcell _ (.inl ?_)) (VRows.take off hrows);rw[htl]at hj;rw[hk];omega
  ·rw[VRows.iff,htl,←hk];exact⟨by rw[hk];exact hxk,VAt.of_cells hcells (VRels.mono (λ_ h=>h) hIw _ (λ_ _ h=>h) hxs)⟩
  ·rw[List.length_append,htl];refine VRows.mono_cells (λ_ h=>h) hIw (λ_ _ h=>h) (λj hj=>hcell _ (.inr ?_)) (VRows.drop (off+xs.length) hfit hrows);rw[hnl,hk,Nat.add_mul];omega
def acopy(E:Env)(h:FHeap)(dt:TypeId)(d x:AV):Option (AV×Eff):=
 match E.und dt with
 |some (.slice elem)=>bif (E.und elem).isSome then
  match arowsOf h (E.sz elem) x with
  |none=>none
  |some xs=>match d with
   |.nilslice=>some (.int .i64 0,.none)
   |.slice b off len _=>bif Nat.beq len 0 then some (.int .i64 0,.none)else match h b with
    |some (.row kk rows)=>bif kk==E.sz elem&&Nat.ble (off+len) rows.length&&Nat.blt 0 len&&(xs.take len).all (λr=>r.all AV.storable)then
     some (.int .i64 ((xs.take len).length:Nat),.set b (.row kk (rows.take off++xs.take len++rows.drop (off+(xs.take len).length))))else none
    |_=>none
   |_=>none else none
 |_=>none
theorem acopy_ok(ok:EnvOk E)(r:HRel E.G I K ρ h w){dt xt:TypeId}{d x v:AV}{e:Eff}{cd cx:Value}(ty:TypeId)
 (ha:acopy E h dt d x=some (v,e))(hd:VRel I w ρ d cd)(hx:VRel I w ρ x cx):Val E I K ρ h n w (Builtin.copy_ #[dt,xt] ty #[cd,cx]) v e:=by
 unfold acopy at ha;split at ha
 case h_2=>cases ha
 rename_i elem hu;rw[cond_eq_ite]at ha;split at ha
 case isFalse=>cases ha
 rename_i hes;obtain⟨de,hde⟩:=Option.isSome_iff_exists.1 hes;split at ha
 case h_1=>cases ha
 rename_i xs hxs;obtain⟨hlen,_,hxk⟩:=arowsOf_run r hxs hx;split at ha
 ·cases ha;simp only[VRel]at hd;subst hd;obtain⟨cv,h1,h2⟩:=arowsOf_pre r hxs hx 0 (by omega);refine Val.here (c:=goInt 0) r ?_ (by simp[goInt,VRel]);have hmin:Nat.min xs.length 0=0:=Nat.min_zero _;simp only[Builtin.copy_,List.getElem?_toArray,List.getElem?_cons_zero,List.getElem?_cons_succ,Sem.run_bind,run_und ok w hu,Result.andThen_ok,hlen,run_sz ok w hde,hmin,h1,Sem.run_pure];rfl
 ·rename_i b off len cap;rw[cond_eq_ite]at ha;split at ha
  ·rename_i h0;have h0:=Nat.eq_of_beq_eq_true h0;subst h0;cases ha;simp only[VRel]at hd;obtain⟨a,c,rfl,hle,_,_⟩:=hd;obtain⟨cv,h1,h2⟩:=arowsOf_pre r hxs hx 0 (by omega);have hcv:cv.toList=[]:=by have:=VRels.length h2;simpa using this.symm
   refine Val.here (c:=goInt 0) r ?_ (by simp[goInt,VRel]);have hmin:Nat.min xs.length 0=0:=Nat.min_zero _;simp only[Builtin.copy_,List.getElem?_toArray,List.getElem?_cons_zero,List.getElem?_cons_succ,Sem.run_bind,run_und ok w hu,Result.andThen_ok,hlen,run_sz ok w hde,hmin,h1,hcv];cases a<;>rfl
  split at ha
  case h_2=>cases ha
  rename_i kk rows hb;rw[cond_eq_ite]at ha;split at ha
  case isFalse=>cases ha
  rename_i hcc;cases ha;simp only[Bool.and_eq_true,beq_iff_eq,Nat.ble_eq,Nat.blt_eq]at hcc;obtain⟨⟨⟨rfl,hfit⟩,hl0⟩,hst⟩:=hcc;simp only[VRel]at hd;obtain⟨a,c,rfl,hle,_,hor⟩:=hd;rcases hor with rfl|⟨m,hm,rfl,hroom⟩
  ·omega
  have hml:(xs.take len).length=Nat.min xs.length len:=by rw[List.length_take,Nat.min_comm]
  have hmle:Nat.min xs.length len≤xs.length:=Nat.min_le_left _ _;have hmle2:Nat.min xs.length len≤len:=Nat.min_le_right _ _;obtain⟨cv,h1,h2⟩:=arowsOf_pre r hxs hx _ hmle;have htk:xs.take (Nat.min xs.length len)=xs.take len:=by
   rcases Nat.le_total xs.length len with h|h
   ·rw[show Nat.min xs.length len=xs.length from Nat.min_eq_left h,List.take_length,List.take_of_length_le h]
   ·rw[show Nat.min xs.length len=len from Nat.min_eq_right h]
  rw[htk]at h2;obtain⟨w',hrun,hstep⟩:=putrows_ok (n:=n) r hb hm (off:=off) (xs:=xs.take len) (by omega) h2 (λr hr=>hxk r (List.mem_of_mem_take hr)) hst;refine⟨goInt (xs.take len).length,w',ρ,?_,hstep,by simp[goInt,VRel],Moves.same _ _ _⟩;simp only[Builtin.copy_,List.getElem?_toArray,List.getElem?_cons_zero,List.getElem?_cons_succ,Sem.run_bind,run_und ok w hu,Result.andThen_ok,hlen,run_sz ok w hde,h1,hrun,Sem.run_pure,hml]
 ·cases ha
def aclear(E:Env)(h:FHeap)(t:TypeId)(x:AV):Option (AV×Eff):=
 match E.und t,x with
 |some (.slice _),.nilslice=>some (.tuple [],.none)
 |some (.slice elem),.slice b off len _=>bif Nat.beq len 0 then some (.tuple [],.none)else match E.zero elem with
  |some z=>match h b with
   |some (.row kk rows)=>bif kk==E.sz elem&&Nat.ble (off+len) rows.length&&z.all AV.storable then
    some (.tuple [],.set b (.row kk (rows.take off++List.replicate len z++rows.drop (off+(List.replicate len z).length))))else none
   |_=>none
  |none=>none
 |_,_=>none
theorem vrels_replicate{z:List AV}{zs:List Value}(hz:VRels I w ρ z zs):∀n:Nat,VRels I w ρ (List.replicate n z).flatten (List.replicate n zs).flatten
 |0=>by simp[VRels]
 |n+1=>by rw[List.replicate_succ,List.replicate_succ,List.flatten_cons,List.flatten_cons];exact VRels.append hz (vrels_replicate hz n)
theorem aclear_ok(ok:EnvOk E)(r:HRel E.G I K ρ h w){t:TypeId}{x v:AV}{e:Eff}{cx:Value}(ty:TypeId)
 (ha:aclear E h t x=some (v,e))(hx:VRel I w ρ x cx):Val E I K ρ h n w (Builtin.clear_ #[t] ty #[cx]) v e:=by
 unfold aclear at ha;split at ha
 ·rename_i elem hu;cases ha;simp only[VRel]at hx;subst hx;refine Val.here (c:=.tuple #[]) r ?_ (by simp only[VRel];exact⟨#[],rfl,by simp[VRels]⟩);simp[Builtin.clear_,run_und ok w hu]
 ·rename_i elem b off len cap hu;simp only[VRel]at hx;obtain⟨a,c,rfl,hle,_,hor⟩:=hx;rw[cond_eq_ite]at ha;split at ha
  ·rename_i h0;have h0:=Nat.eq_of_beq_eq_true h0;subst h0;cases ha;refine Val.here (c:=.tuple #[]) r ?_ (by simp only[VRel];exact⟨#[],rfl,by simp[VRels]⟩);simp[Builtin.clear_,run_und ok w hu]
  rename_i h0;have hl0:len≠0:=λe=>h0 (by subst e;rfl);split at ha
  case h_2=>cases ha
  rename_i z hz;split at ha
  case h_2=>cases ha
  rename_i kk rows hb;rw[cond_eq_ite]at ha;split at ha
  case isFalse=>cases ha
  rename_i hcc;cases ha;simp only[Bool.and_eq_true,beq_iff_eq,Nat.ble_eq]at hcc;obtain⟨⟨rfl,hfit⟩,hst⟩:=hcc;rcases hor with rfl|⟨m,hm,rfl,hroom⟩
  ·omega
  obtain⟨z',hz',hzl,hzr⟩:=run_zero ok w hz;have hrl:=List.length_replicate (n:=len) (a:=z);obtain⟨w',hrun,hstep⟩:=putrows_ok (n:=n) r hb hm (off:=off) (xs:=List.replicate len z) (new:=(List.replicate len z'.cells.toList).flatten) (by omega) (vrels_replicate (VRels.noRef_any (hzr I w)) len)
   (λr hr=>by rw[List.eq_of_mem_replicate hr];exact hzl) (by rw[List.all_eq_true];intro r hr;rw[List.eq_of_mem_replicate hr];exact hst)
  refine⟨.tuple #[],w',ρ,?_,hstep,by simp only[VRel];exact⟨#[],rfl,by simp[VRels]⟩,Moves.same _ _ _⟩;obtain⟨len',rfl⟩:∃l,len=l+1:=⟨len-1,by omega⟩
  simp only[Builtin.clear_,List.getElem?_toArray,List.getElem?_cons_zero,Sem.run_bind,run_und ok w hu,Result.andThen_ok,hz',zeroCells_list,hrun,Sem.run_pure]
 ·cases ha
end
end Go.Ax
/- AxMap: maps with plain keys: lookup, update, delete. -/
namespace Go.Ax
section
variable {E:Env}{I K:Nat→Prop}{ρ:PMap}{h:FHeap}{n:Nat}{w:World}
def plainKind:TypeDesc→Bool
 |.int _|.string|.bool=>true
 |_=>false
def keyTy(E:Env)(t:TypeId):Bool:=
 match E.und t with
 |some (.struct fs)=>E.eqok t&&fs.toList.all λf=>match E.und f.type with|some d=>plainKind d|none=>false
 |some d=>plainKind d
 |none=>false
def asame1:AV→AV→Bool
 |.int k a,.int k' b=>k==k'&&a==b
 |.str a,.str b=>a==b
 |.bool a,.bool b=>a==b
 |_,_=>false
def asameL:List AV→List AV→Bool
 | [],[]=>true
 |a::as,b::bs=>asame1 a b&&asameL as bs
 |_,_=>false
def asame:AV→AV→Bool
 |.agg a,.agg b=>asameL a b
 |a,b=>asame1 a b
theorem asame1_eq{a b:AV}(hs:asame1 a b=true){ca cb:Value}(ha:VRel I w ρ a ca)(hb:VRel I w ρ b cb):ca=cb∧∀m,Instr.sameBits m ca cb=true:=by
 unfold asame1 at hs;split at hs
 ·simp only[Bool.and_eq_true,beq_iff_eq]at hs;obtain⟨rfl,rfl⟩:=hs;simp only[VRel]at ha hb;subst ha hb;exact⟨rfl,λm=>by cases m<;>simp[Instr.sameBits]⟩
 ·simp only[beq_iff_eq]at hs;subst hs;simp only[VRel]at ha hb;obtain⟨t,rfl,ht⟩:=ha;obtain⟨t',rfl,ht'⟩:=hb;have:t=t':=by
   cases t;cases t';simp only[ByteArray.mk.injEq];exact Array.toList_inj.1 (ht.trans ht'.symm)
  subst this;exact⟨rfl,λm=>by cases m<;>simp[Instr.sameBits,bytes_beq]⟩
 ·simp only[beq_iff_eq]at hs;subst hs;simp only[VRel]at ha hb;subst ha hb;exact⟨rfl,λm=>by cases m<;>simp[Instr.sameBits]⟩
 ·cases hs
theorem asameL_eq:∀{as bs:List AV} {cs ds:List Value},asameL as bs=true→VRels I w ρ as cs→VRels I w ρ bs ds→
 cs=ds∧∀m,(cs.zip ds).all (λ(x,y)=>Instr.sameBits m x y)=true
 | [],[],cs,ds,_,ha,hb=>by simp only[VRels]at ha hb;subst ha hb;exact⟨rfl,by simp⟩
 |a::as,b::bs,cs,ds,hs,ha,hb=>by simp only[VRels]at ha hb;obtain⟨c,cs',rfl,h1,h2⟩:=ha;obtain⟨d,ds',rfl,h3,h4⟩:=hb;simp only[asameL,Bool.and_eq_true]at hs;obtain⟨rfl,h5⟩:=asame1_eq hs.1 h1 h3;obtain⟨rfl,h6⟩:=asameL_eq hs.2 h2 h4;exact⟨rfl,λm=>by simp only[List.zip_cons_cons,List.all_cons,h5 m,Bool.true_and];exact h6 m⟩
 | [],_::_,cs,ds,hs,_,_=>by simp[asameL]at hs
 |_::_,[],cs,ds,hs,_,_=>by simp[asameL]at hs
theorem asame_eq{a b:AV}(hs:asame a b=true){ca cb:Value}(ha:VRel I w ρ a ca)(hb:VRel I w ρ b cb):ca=cb∧Instr.sameBits 10000 ca cb=true:=by
 unfold asame at hs;split at hs
 ·simp only[VRel]at ha hb;obtain⟨ca,rfl,ha⟩:=ha;obtain⟨cb,rfl,hb⟩:=hb;obtain⟨he,h1⟩:=asameL_eq hs ha hb;have he:ca=cb:=Array.toList_inj.1 he;subst he;refine⟨rfl,?_⟩;show(ca.size==ca.size&&(ca.toList.zip ca.toList).all λ(x,y)=>Instr.sameBits 9999 x y)=true;rw[h1 9999];simp
 ·obtain⟨h1,h2⟩:=asame1_eq hs ha hb;exact⟨h1,h2 10000⟩
def afindKey(eq:AV→AV→Option Bool)(k:AV):List AV→Nat→Option (Option Nat)
 | [],_=>some none
 |x::xs,i=>match eq k x with
  |some q=>bif q then some (some i)else afindKey eq k xs (i+1)
  |none=>none
theorem findAsking_ok(ok:EnvOk E){kt:TypeId}{k:AV}{ck:Value}(hk:VRel I w ρ k ck):∀{ks:List AV} {es:List MapEntry} {i:Nat} {r:Option Nat},
 afindKey (aeq E 6 kt) k ks i=some r→VRels I w ρ ks (es.map (·.key))→
 (Instr.findAsking kt ck es i).run E.P w = .ok (r.map λj=>(j,((es[j-i]?).map (·.val)).getD undef)) w∧∀j,r=some j→i≤j∧j-i<es.length
 | [],es,i,r,hf,hks=>by simp only[VRels,List.map_eq_nil_iff]at hks;subst hks;simp only[afindKey,Option.some.injEq]at hf;subst hf;exact⟨rfl,by simp⟩
 |x::ks,es,i,r,hf,hks=>by
  cases es with
  |nil=>simp[VRels]at hks
  |cons e es=>
   simp only[List.map_cons,VRels,List.cons.injEq]at hks;obtain⟨c,cs,⟨rfl,rfl⟩,hx,hks⟩:=hks;simp only[afindKey]at hf;split at hf
   case h_2=>cases hf
   rename_i q hq;have heq:=equal_of_aeq ok hq hk hx;unfold Instr.findAsking;simp only[Sem.run_bind,heq,Result.andThen_ok];cases q with
   |true=>simp only[cond_true,Option.some.injEq]at hf;subst hf;exact⟨by simp,by simp⟩
   |false=>
    simp only[cond_false]at hf;obtain⟨h1,h2⟩:=findAsking_ok ok hk (es:=es) hf hks;simp only[Bool.false_eq_true,if_false];rw[h1];refine⟨?_,λj hj=>?_⟩
    ·cases r with
     |none=>rfl
     |some j=>obtain⟨h3,h4⟩:=h2 j rfl;simp only[Option.map_some];rw[show j-i=(j-(i+1))+1 by omega];simp
    ·obtain⟨h3,h4⟩:=h2 j hj;simp;omega
theorem aeq_int{t:TypeId}{k0:IntKind}(hu:E.und t=some (.int k0)){d:Nat}{x y:AV}{q:Bool}(hq:aeq E (d+1) t x y=some q):∃k a b,x = .int k a∧y = .int k b∧q=(a==b):=by
 unfold aeq at hq;rw[hu]at hq;split at hq
 case h_2=>
  rw[cond_eq_ite]at hq;split at hq
  ·rename_i hk;cases hq;have hk:=eq_of_beq hk;subst hk;exact⟨_,_,_,rfl,rfl,rfl⟩
  ·cases hq
 all_goals (try simp only[Option.some.injEq]at *);subst_vars;simp_all[kindNil]
theorem aeq_str{t:TypeId}(hu:E.und t=some .string){d:Nat}{x y:AV}{q:Bool}(hq:aeq E (d+1) t x y=some q):∃a b,x = .str a∧y = .str b∧q=(a==b):=by
 unfold aeq at hq;rw[hu]at hq;split at hq
 case h_3=>cases hq;exact⟨_,_,rfl,rfl,rfl⟩
 all_goals (try simp only[Option.some.injEq]at *);subst_vars;simp_all[kindNil]
theorem aeq_bool{t:TypeId}(hu:E.und t=some .bool){d:Nat}{x y:AV}{q:Bool}(hq:aeq E (d+1) t x y=some q):∃a b,x = .bool a∧y = .bool b∧q=(a==b):=by
 unfold aeq at hq;rw[hu]at hq;split at hq
 case h_1=>cases hq;exact⟨_,_,rfl,rfl,rfl⟩
 all_goals (try simp only[Option.some.injEq]at *);subst_vars;simp_all[kindNil]
theorem sameNow_ok{d:TypeDesc}(hd:plainKind d=true){kt:TypeId}(hu:E.und kt=some d){k x:AV}{ck cx:Value}{q:Bool}(hk:VRel I w ρ k ck)(hx:VRel I w ρ x cx)
 (hq:aeq E 6 kt k x=some q):Instr.sameNow d ck cx=some q:=by
 cases d<;>simp[plainKind]at hd
 ·obtain⟨a,b,rfl,rfl,rfl⟩:=aeq_bool hu hq;simp only[VRel]at hk hx;subst hk hx;rfl
 ·obtain⟨kk,a,b,rfl,rfl,rfl⟩:=aeq_int hu hq;simp only[VRel]at hk hx;subst hk hx;simp[Instr.sameNow]
 ·obtain⟨a,b,rfl,rfl,rfl⟩:=aeq_str hu hq;simp only[VRel]at hk hx;obtain⟨t,rfl,rfl⟩:=hk;obtain⟨t',rfl,rfl⟩:=hx;simp only[Instr.sameNow,bytes_beq]
theorem findNow_ok{k:AV}{ck:Value}{d:TypeDesc}(hd:plainKind d=true){kt:TypeId}(hu:E.und kt=some d)(hk:VRel I w ρ k ck):∀{ks:List AV} {es:List MapEntry} {i:Nat} {r:Option Nat},
 afindKey (aeq E 6 kt) k ks i=some r→VRels I w ρ ks (es.map (·.key))→
 Instr.findNow d ck es i=some (r.map λj=>(j,((es[j-i]?).map (·.val)).getD undef))∧∀j,r=some j→i≤j∧j-i<es.length
 | [],es,i,r,hf,hks=>by simp only[VRels,List.map_eq_nil_iff]at hks;subst hks;simp only[afindKey,Option.some.injEq]at hf;subst hf;exact⟨rfl,by simp⟩
 |x::ks,es,i,r,hf,hks=>by
  cases es with
  |nil=>simp[VRels]at hks
  |cons e es=>
   simp only[List.map_cons,VRels,List.cons.injEq]at hks;obtain⟨c,cs,⟨rfl,rfl⟩,hx,hks⟩:=hks;simp only[afindKey]at hf;split at hf
   case h_2=>cases hf
   rename_i q hq;have hnow:=sameNow_ok hd hu hk hx hq;unfold Instr.findNow;rw[hnow];cases q with
   |true=>simp only[cond_true,Option.some.injEq]at hf;subst hf;exact⟨by simp,by simp⟩
   |false=>
    simp only[cond_false]at hf;obtain⟨h1,h2⟩:=findNow_ok hd hu hk (es:=es) hf hks;dsimp only;rw[h1];refine⟨?_,λj hj=>?_⟩
    ·cases r with
     |none=>rfl
     |some j=>obtain⟨h3,h4⟩:=h2 j rfl;simp only[Option.map_some];rw[show j-i=(j-(i+1))+1 by omega];simp
    ·obtain⟨h3,h4⟩:=h2 j hj;simp;omega
theorem findNow_struct{ck:Value}{fs:Array Field}:∀(es:List MapEntry) (i:Nat),Instr.findNow (.struct fs) ck es i=if es=[]then some none else none
 | [],i=>by simp[Instr.findNow]
 |e::es,i=>by simp[Instr.findNow,Instr.sameNow]
theorem findKey_ok(ok:EnvOk E){kt:TypeId}(hkt:keyTy E kt=true){k:AV}{ck:Value}(hk:VRel I w ρ k ck){ks:List AV}{es:List MapEntry}{r:Option Nat}
 (hf:afindKey (aeq E 6 kt) k ks 0=some r)(hks:VRels I w ρ ks (es.map (·.key))) :
 (Instr.findKey kt ck es).run E.P w = .ok (r.map λj=>(j,((es[j]?).map (·.val)).getD undef)) w∧∀j,r=some j→j<es.length:=by
 unfold keyTy at hkt;split at hkt
 ·rename_i fs hu;obtain⟨h1,h2⟩:=findAsking_ok ok hk hf hks;refine⟨?_,λj hj=>(h2 j hj).2⟩;unfold Instr.findKey;simp only[Sem.run_bind,run_und ok w hu,Result.andThen_ok,findNow_struct];by_cases he:es=[]
  ·subst he;simp at hks;have:ks=[]:=by cases ks with|nil=>rfl|cons a b=>simp[VRels]at hks
   subst this;simp only[afindKey,Option.some.injEq]at hf;subst hf;simp
  ·simp only[he,if_false];simpa using h1
 ·rename_i d _ hu;obtain⟨h1,h2⟩:=findNow_ok hkt hu hk hf hks;refine⟨?_,λj hj=>(h2 j hj).2⟩;unfold Instr.findKey;simp only[Sem.run_bind,run_und ok w hu,Result.andThen_ok,h1];simp
 ·cases hkt
theorem checkKey_plain(ok:EnvOk E){t:TypeId}{d:TypeDesc}(hd:plainKind d=true)(hu:E.und t=some d)(b:Bool)(m:Nat)(c:Value):(Instr.checkKey b (m+1) t c).run E.P w = .ok () w:=by unfold Instr.checkKey;simp only[Sem.run_bind,run_und ok w hu,Result.andThen_ok];cases d<;>simp[plainKind]at hd<;>rfl
def keyParts(E:Env):List Field→List AV→Bool
 | [],_=>true
 |f::fs,cs=>(ofCells E f.type ((cs.drop f.offset).take (E.sz f.type))).isSome&&keyParts E fs cs
def keyVal(E:Env)(t:TypeId)(x:AV):Bool:=
 match E.und t,x with
 |some (.struct fs),.agg cs=>keyParts E fs.toList cs
 |some (.struct _),_=>false
 |_,_=>true
theorem checkKey_ok(ok:EnvOk E){t:TypeId}(ht:keyTy E t=true){x:AV}{c:Value}(hx:VRel I w ρ x c)(hv:keyVal E t x=true)(b:Bool):(Instr.checkKey b 10000 t c).run E.P w = .ok () w:=by
 unfold keyTy at ht;split at ht
 ·rename_i fs hu;simp only[Bool.and_eq_true]at ht;unfold keyVal at hv;rw[hu]at hv;cases x<;>simp at hv;rename_i cs;simp only[VRel]at hx;obtain⟨cv,rfl,hc⟩:=hx;obtain⟨_,_,_,hnames⟩:=ok.eqok t ht.1;unfold Instr.checkKey;simp only[Sem.run_bind,run_und ok w hu,Result.andThen_ok];have key:∀(l:List Field),(∀f∈l,f∈fs.toList)→keyParts E l cs=true→
   (forIn l () (λf _=>if f.name≠ "_" then do
    Instr.checkKey b 9999 f.type (←part f.type cv f.offset)
    pure (ForInStep.yield ())
    else pure (ForInStep.yield ()):Field→Unit→Sem (ForInStep Unit))).run E.P w = .ok () w:=by
   intro l
   induction l with
   |nil=>intro _ _;simp
   |cons f l ih=>
    intro hm hp;simp only[keyParts,Bool.and_eq_true]at hp;obtain⟨v,hv⟩:=Option.isSome_iff_exists.1 hp.1;obtain⟨cc,h1,_⟩:=part_run ok hv hc;have hf:=hm f (by simp);have hpk:=List.all_eq_true.1 ht.2 f hf;split at hpk
    case h_2=>cases hpk
    rename_i d hd;have hname:=hnames fs hu f hf;rw[List.forIn_cons];simp only[ne_eq,hname,not_false_eq_true,if_true,Sem.run_bind,h1,Result.andThen_ok,checkKey_plain ok hpk hd,Sem.run_pure];exact ih (λg hg=>hm g (by simp[hg])) hp.2
  rw[←Array.forIn_toList];exact(congrArg (λr=>Result.andThen r (λ_ w'=>(pure ():Sem Unit).run E.P w')) (key fs.toList (λ_ h=>h) hv)).trans rfl
 ·rename_i d _ hu;exact checkKey_plain ok ht hu b 9999 c
 ·cases ht
def amapOf(h:FHeap):AV→Option (List AV×List AV)
 |.nilmap=>some ([],[])
 |.imap ks vs _ _=>some (ks,vs)
 |.map b=>match h b with
  |some (.map ks vs _ _)=>some (ks,vs)
  |_=>none
 |_=>none
def alookup(E:Env)(h:FHeap)(t:TypeId)(x k:AV)(ok:Bool):Option AV:=
 match E.und t with
 |some (.map kt et)=>bif keyTy E kt&&keyVal E kt k then
  match amapOf h x,E.zero et,E.und et with
  |some (ks,vs),some z,some d=>match afindKey (aeq E 6 kt) k ks 0 with
   |some (some i)=>match vs[i]? with
    |some v=>some (bif ok then .tuple [v,.bool true]else v)
    |none=>none
   |some none=>bif aggDesc d then some (bif ok then .tuple [.agg z,.bool false]else .agg z)else
    match z with
    | [v]=>some (bif ok then .tuple [v,.bool false]else v)
    |_=>none
   |none=>none
  |_,_,_=>none
  else none
 |_=>none
theorem amapOf_ok(r:HRel E.G I K ρ h w){x:AV}{ks vs:List AV}{c:Value}(ha:amapOf h x=some (ks,vs))(hx:VRel I w ρ x c) :
 (c = .map none∧ks=[]∧vs=[])∨∃b es cl,c = .map (some b)∧w.heap[b]?=some (.map es cl)∧VRels I w ρ ks (es.toList.map (·.key))∧VRels I w ρ vs (es.toList.map (·.val)):=by
 unfold amapOf at ha;split at ha
 ·cases ha;simp only[VRel]at hx;exact .inl ⟨hx,rfl,rfl⟩
 ·cases ha;simp only[VRel]at hx;obtain⟨b,es,rfl,_,he,h1,h2,_⟩:=hx;exact .inr ⟨b,es,_,rfl,he,VRels.noRef_any h1,VRels.noRef_any h2⟩
 ·rename_i b;split at ha
  case h_2=>cases ha
  rename_i ks' vs' bs cl hb;cases ha;simp only[VRel]at hx;obtain⟨m,hm,rfl⟩:=hx;obtain⟨m',hm',_,_,ho⟩:=r.live b _ hb;obtain rfl:m=m':=Option.some.inj (hm.symm.trans hm');obtain⟨es,he,h1,h2,_⟩:=ho;exact .inr ⟨m.blk,es,cl,rfl,he,h1,h2⟩
 ·cases ha
theorem zero_one(ok:EnvOk E){t:TypeId}{d:TypeDesc}{z:List AV}{zv:Value}(hd:E.und t=some d)(hz:E.zero t=some z)(hzv:(zeroValue t).run E.P w = .ok zv w) :
 (aggDesc d=true→∃a,zv = .agg a)∧(aggDesc d=false→zv.cells = #[zv]):=by
 obtain⟨_,i,z',hi,hz',_⟩:=ok.zero t z hz;have:zv=z':=by simp[zeroValue,typeInfo,hi,hz']at hzv;exact hzv.symm
 subst this;exact ok.zshape t d i zv hd hi hz'
theorem alookup_ok(ok:EnvOk E)(r:HRel E.G I K ρ h w){t:TypeId}{x k v:AV}{c ck:Value}{b:Bool}(hv:alookup E h t x k b=some v)(hx:VRel I w ρ x c)(hk:VRel I w ρ k ck) :
 Val E I K ρ h n w (Instr.lookup t c ck b) v .none:=by
 unfold alookup at hv;split at hv
 case h_2=>cases hv
 rename_i kt et hu;rw[cond_eq_ite]at hv;split at hv
 case isFalse=>cases hv
 rename_i hkey;simp only[Bool.and_eq_true]at hkey;split at hv
 case h_2=>cases hv
 rename_i ks vs z d hm hz hd;obtain⟨zv,hzv,_,hrel⟩:=run_zero ok w hz;have hzr:VRels I w ρ z zv.cells.toList:=VRels.noRef_any (hrel I w);have main:∃es:List MapEntry,((c = .map none∧es=[])∨∃b cl,c = .map (some b)∧w.heap[b]?=some (.map es.toArray cl))∧VRels I w ρ ks (es.map (·.key))∧VRels I w ρ vs (es.map (·.val)):=by
  rcases amapOf_ok r hm hx with ⟨rfl,rfl,rfl⟩|⟨b,es,cl,rfl,he,h1,h2⟩
  ·exact⟨[],.inl ⟨rfl,rfl⟩,by simp[VRels],by simp[VRels]⟩
  ·exact⟨es.toList,.inr ⟨b,cl,rfl,by simpa using he⟩,h1,h2⟩
 obtain⟨es,hrun,hks,hvs⟩:=main;cases hf:afindKey (aeq E 6 kt) k ks 0 with
 |none=>simp[hf]at hv
 |some ri=>
  obtain⟨hfk,hlt⟩:=findKey_ok ok hkey.1 hk hf hks;have hck:=checkKey_ok ok hkey.1 hk hkey.2 es.toArray.isEmpty;simp only[hf]at hv;cases ri with
  |some i=>
   simp only at hv;cases hvi:vs[i]? with
   |none=>simp[hvi]at hv
   |some v0=>
    simp only[hvi,Option.some.injEq]at hv;obtain⟨cv,hcv,hrv⟩:=VRels.get i hvs hvi;have hval:((es[i]?).map (·.val)).getD undef=cv:=by rw[List.getElem?_map]at hcv;rw[hcv];rfl
    refine Val.here (c:=if b then .tuple #[cv,.bool true]else cv) r ?_ ?_
    ·rcases hrun with ⟨rfl,rfl⟩|⟨b',cl,rfl,he⟩
     ·simp at hcv
     ·simp only[Instr.lookup,Sem.run_bind,run_und ok w hu,Result.andThen_ok,getObj,Sem.run,he,Sem.run_pure,hck,hfk,Option.map_some,hval]
    ·subst hv;cases b
     ·exact hrv
     ·simp only[cond_true,if_true,VRel];exact⟨_,rfl,by simp only[VRels];exact⟨_,_,rfl,hrv,_,_,rfl,by simp[VRel],rfl⟩⟩
  |none=>
   simp only at hv;have hlook:(Instr.lookup t c ck b).run E.P w = .ok (if b then .tuple #[zv,.bool false]else zv) w:=by
    rcases hrun with ⟨rfl,rfl⟩|⟨b',cl,rfl,he⟩
    ·simp only[Instr.lookup,Sem.run_bind,run_und ok w hu,Result.andThen_ok,Sem.run_pure,hck,hfk,Option.map_none,hzv]
    ·simp only[Instr.lookup,Sem.run_bind,run_und ok w hu,Result.andThen_ok,getObj,Sem.run,he,Sem.run_pure,hck,hfk,Option.map_none,hzv]
   have fin:∀v0,VRel I w ρ v0 zv→(bif b then AV.tuple [v0,.bool false]else v0)=v→Val E I K ρ h n w (Instr.lookup t c ck b) v .none:=by
    intro v0 h0 hv0;refine Val.here r hlook ?_;subst hv0;cases b
    ·exact h0
    ·simp only[cond_true,if_true,VRel];exact⟨_,rfl,by simp only[VRels];exact⟨_,_,rfl,h0,_,_,rfl,by simp[VRel],rfl⟩⟩
   rw[cond_eq_ite]at hv;split at hv
   ·rename_i hag;obtain⟨a,rfl⟩:=(zero_one ok hd hz hzv).1 hag;simp only[Option.some.injEq]at hv;exact fin (.agg z) (by simp only[VRel];exact⟨a,rfl,hzr⟩) hv
   ·rename_i hag;split at hv
    case h_2=>cases hv
    rename_i v0 _;simp only[Option.some.injEq]at hv;have hc:=(zero_one ok hd hz hzv).2 (by simpa using hag);rw[hc]at hzr;simp only[VRels]at hzr;obtain⟨c0,cs0,he,h0,_⟩:=hzr;simp only[List.cons.injEq]at he;exact fin v0 (by rw[he.1];exact h0) hv
end
end Go.Ax
/- AxMap2: maps that are written. -/
namespace Go.Ax
section
variable {E:Env}{I K:Nat→Prop}{ρ:PMap}{h:FHeap}{n:Nat}{w:World}
def apairs(E:Env)(h:FHeap)(t:TypeId)(m k:AV):Option (Nat×List AV×List AV×List Nat×Nat×Option Nat):=
 match E.und t,m with
 |some (.map kt _),.map b=>bif keyTy E kt&&keyVal E kt k then
  match h b with
  |some (.map ks vs bs cl)=>match afindKey (aeq E 6 kt) k ks 0 with
   |some (some i)=>match ks[i]? with
    |some k0=>bif asame k0 k then some (b,ks,vs,bs,cl,some i)else none
    |none=>none
   |some none=>some (b,ks,vs,bs,cl,none)
   |none=>none
  |_=>none
  else none
 |_,_=>none
def amapUpdate(E:Env)(h:FHeap)(t:TypeId)(m k v:AV):Option Eff:=
 match apairs E h t m k with
 |some (b,ks,vs,bs,cl,some i)=>some (.set b (.map ks (vs.set i v) bs cl))
 |some (b,ks,vs,bs,cl,none)=>some (.set b (.map (ks++[k]) (vs++[v]) (bs++[cl]) (cl+1)))
 |none=>none
theorem vrels_keys_modify{ks:List AV}{es:Array MapEntry}(i:Nat)(f:MapEntry→MapEntry)(hf:∀e,es[i]?=some e→(f e).key=e.key)(hk:VRels I w ρ ks (es.toList.map (·.key))) :
 VRels I w ρ ks ((es.modify i f).toList.map (·.key)):=by
 have:(es.modify i f).toList.map (·.key)=es.toList.map (·.key):=by
  apply List.ext_getElem?;intro j;simp only[List.getElem?_map,Array.getElem?_toList,Array.getElem?_modify];split
  ·rename_i hj;subst hj;cases he:es[i]? with
   |none=>simp
   |some e=>simp[hf e he]
  ·rfl
 rw[this];exact hk
theorem vrels_vals_modify{vs:List AV}{v:AV}{c:Value}{es:Array MapEntry}(i:Nat)(f:MapEntry→MapEntry)(hf:∀e,(f e).val=c)(hv:VRel I w ρ v c)(hk:VRels I w ρ vs (es.toList.map (·.val))) :
 VRels I w ρ (vs.set i v) ((es.modify i f).toList.map (·.val)):=by
 have:(es.modify i f).toList.map (·.val)=(es.toList.map (·.val)).set i c:=by
  apply List.ext_getElem?;intro j;simp only[List.getElem?_map,Array.getElem?_toList,Array.getElem?_modify,List.getElem?_set,List.length_map,Array.length_toList];split
  ·rename_i hj;subst hj;split
   ·rename_i hlt;simp[hlt,hf]
   ·rename_i hlt;simp[Array.getElem?_eq_none (Nat.le_of_not_lt hlt)]
  ·rfl
 rw[this];exact VRels.set i hk hv
theorem borns_modify{es:Array MapEntry}(i:Nat)(f:MapEntry→MapEntry)(hf:∀e,(f e).born=e.born):(es.modify i f).toList.map (·.born)=es.toList.map (·.born):=by
 apply List.ext_getElem?;intro j;simp only[List.getElem?_map,Array.getElem?_toList,Array.getElem?_modify];split
 ·rename_i hj;subst hj;cases es[i]?<;>simp[hf]
 ·rfl
theorem setObj_run{b:Nat}{es:Array MapEntry}{cl:Nat}(o:Obj)(he:w.heap[b]?=some (.map es cl)):(setObj b o).run E.P w = .ok () { w with heap:=w.heap.setIfInBounds b o }:=by simp[setObj,Sem.run,he]
theorem stepped_obj(r:HRel E.G I K ρ h w){b:Nat}{m:Pl}{o0:AObj}(hb:h b=some o0)(hm:ρ b=some m){es es':Array MapEntry}{cl cl':Nat}(he:w.heap[m.blk]?=some (.map es cl))
 {ks vs:List AV}{bs:List Nat}(hk:VRels I w ρ ks (es'.toList.map (·.key)))(hv:VRels I w ρ vs (es'.toList.map (·.val)))(hbs:es'.toList.map (·.born)=bs) :
 Stepped E.G I K ρ w I ρ (h.eff n (.set b (.map ks vs bs cl'))) { w with heap:=w.heap.setIfInBounds m.blk (.map es' cl') }:=by
 have hlt:m.blk<w.heap.size:=(Array.getElem?_eq_some_iff.1 he).1;obtain⟨m',hm',hnI,_,_⟩:=r.live b _ hb;obtain rfl:m=m':=Option.some.inj (hm.symm.trans hm');have hoth:∀c,c≠m.blk→({ w with heap:=w.heap.setIfInBounds m.blk (.map es' cl') }:World).heap[c]?=w.heap[c]?:=by intro c hc;show(w.heap.setIfInBounds _ _)[c]?=_;rw[Array.getElem?_setIfInBounds,if_neg (λh=>hc h.symm)]
 have hIw:∀c,I c→({ w with heap:=w.heap.setIfInBounds m.blk (.map es' cl') }:World).heap[c]?=w.heap[c]?:=λc hc=>hoth c (λe=>hnI (e▸hc));refine stepped_set r hb hm (by simp) hoth rfl rfl rfl ?_;refine⟨es',?_,VRels.mono (λ_ h=>h) hIw ks (λ_ _ h=>h) hk,VRels.mono (λ_ h=>h) hIw vs (λ_ _ h=>h) hv,hbs⟩;show(w.heap.setIfInBounds _ _)[_]?=_;rw[Array.getElem?_setIfInBounds,if_pos rfl,if_pos hlt]
theorem apairs_ok(ok:EnvOk E)(r:HRel E.G I K ρ h w){t:TypeId}{m k:AV}{c ck:Value}{b cl:Nat}{ks vs:List AV}{bs:List Nat}{oi:Option Nat}
 (hp:apairs E h t m k=some (b,ks,vs,bs,cl,oi))(hm:VRel I w ρ m c)(hk:VRel I w ρ k ck) :
 ∃(pl:Pl) (es:Array MapEntry) (kt et:TypeId),c = .map (some pl.blk)∧h b=some (.map ks vs bs cl)∧ρ b=some pl∧w.heap[pl.blk]?=some (.map es cl)∧
  VRels I w ρ ks (es.toList.map (·.key))∧VRels I w ρ vs (es.toList.map (·.val))∧es.toList.map (·.born)=bs∧(underlying t).run E.P w = .ok (.map kt et) w∧E.und t=some (.map kt et)∧
  (Instr.checkKey false 10000 kt ck).run E.P w = .ok () w∧
  (Instr.findKey kt ck es.toList).run E.P w = .ok (oi.map λj=>(j,((es.toList[j]?).map (·.val)).getD undef)) w∧
  (∀i,oi=some i→∃e,es[i]?=some e∧e.key=ck∧Instr.sameBits 10000 e.key ck=true):=by
 unfold apairs at hp;split at hp
 case h_2=>cases hp
 rename_i kt et b' hu;rw[cond_eq_ite]at hp;split at hp
 case isFalse=>cases hp
 rename_i hkey;simp only[Bool.and_eq_true]at hkey;split at hp
 case h_2=>cases hp
 rename_i ks' vs' bs' cl' hb;simp only[VRel]at hm;obtain⟨pl,hpl,rfl⟩:=hm;obtain⟨m',hm',_,_,ho⟩:=r.live b' _ hb;obtain rfl:pl=m':=Option.some.inj (hpl.symm.trans hm');obtain⟨es,he,h1,h2,h3⟩:=ho;have hck:=checkKey_ok (w:=w) ok hkey.1 hk hkey.2 false;split at hp
 ·rename_i i hf;split at hp
  case h_2=>cases hp
  rename_i k0 hk0;rw[cond_eq_ite]at hp;split at hp
  case isFalse=>cases hp
  rename_i hs;cases hp;obtain⟨hfk,hlt⟩:=findKey_ok ok hkey.1 hk hf h1;obtain⟨cv,hcv,hrv⟩:=VRels.get i h1 hk0;obtain⟨heq,hsb⟩:=asame_eq hs hrv hk;rw[List.getElem?_map]at hcv;cases hei:es.toList[i]? with
  |none=>rw[hei]at hcv;cases hcv
  |some e=>rw[hei]at hcv;simp only[Option.map_some,Option.some.injEq]at hcv;refine⟨pl,es,kt,et,rfl,hb,hpl,he,h1,h2,h3,run_und ok w hu,hu,hck,hfk,?_⟩;intro i' hi';cases hi';exact⟨e,by simpa using hei,by rw[hcv];exact heq,by rw[hcv];exact hsb⟩
 ·rename_i hf;cases hp;obtain⟨hfk,hlt⟩:=findKey_ok ok hkey.1 hk hf h1;exact⟨pl,es,kt,et,rfl,hb,hpl,he,h1,h2,h3,run_und ok w hu,hu,hck,hfk,λi hi=>by cases hi⟩
 ·cases hp
theorem amapUpdate_ok(ok:EnvOk E)(r:HRel E.G I K ρ h w){t:TypeId}{m k v:AV}{c ck cv:Value}{e:Eff}(hu:amapUpdate E h t m k v=some e)(hm:VRel I w ρ m c)(hk:VRel I w ρ k ck)(hv:VRel I w ρ v cv) :
 Done E I K ρ h n w (Instr.mapUpdate t c ck cv) e:=by
 unfold amapUpdate at hu;split at hu
 ·rename_i b ks vs bs cl i hp;cases hu;obtain⟨pl,es,kt,et,rfl,hb,hpl,he,h1,h2,h3,hund,_,hck,hfk,hi⟩:=apairs_ok ok r hp hm hk;obtain⟨e,hei,hek,hsb⟩:=hi i rfl;refine⟨_,ρ,?_,stepped_obj (es':=es.modify i λe=>{ e with key:=ck,val:=cv }) r hb hpl he ?_ ?_ ?_,Moves.same _ _ _⟩
  ·have:((es[i]?).map (·.key)).getD ck=e.key:=by simp[hei]
   simp only[Instr.mapUpdate,Sem.run_bind,hund,Result.andThen_ok,getObj,Sem.run,he,hck,hfk,Option.map_some,this,Instr.keyThatStays,hsb,if_true,Sem.run_pure,setObj_run _ he]
  ·exact vrels_keys_modify i _ (λe' he'=>by rw[hei]at he';cases he';exact hek.symm) h1
  ·exact vrels_vals_modify i _ (λ_=>rfl) hv h2
  ·exact(borns_modify (es:=es) i (λe=>{ e with key:=ck,val:=cv }) (λ_=>rfl)).trans h3
 ·rename_i b ks vs bs cl hp;cases hu;obtain⟨pl,es,kt,et,rfl,hb,hpl,he,h1,h2,h3,hund,_,hck,hfk,_⟩:=apairs_ok ok r hp hm hk;refine⟨_,ρ,?_,stepped_obj (es':=es.push { key:=ck,val:=cv,born:=cl }) (cl':=cl+1) r hb hpl he ?_ ?_ ?_,Moves.same _ _ _⟩
  ·simp only[Instr.mapUpdate,Sem.run_bind,hund,Result.andThen_ok,getObj,Sem.run,he,hck,hfk,Option.map_none,setObj_run _ he]
  ·simp only[Array.toList_push,List.map_append,List.map_cons,List.map_nil];exact VRels.append h1 (by simp only[VRels];exact⟨_,_,rfl,hk,rfl⟩)
  ·simp only[Array.toList_push,List.map_append,List.map_cons,List.map_nil];exact VRels.append h2 (by simp only[VRels];exact⟨_,_,rfl,hv,rfl⟩)
  ·simp[h3]
 ·cases hu
def zeroOne(d:TypeDesc)(z:List AV):Option AV:=bif aggDesc d then some (.agg z)else match z with|[v]=>some v|_=>none
def amapEntry(E:Env)(h:FHeap)(t:TypeId)(m k:AV):Option (AV×Eff):=
 match apairs E h t m k with
 |some (b,ks,vs,bs,cl,some i)=>match vs[i]?,bs[i]? with
  |some v,some s=>some (.tuple [v,.int .i64 s],.set b (.map ks vs bs cl))
  |_,_=>none
 |some (b,ks,vs,bs,cl,none)=>match E.und t with
  |some (.map _ et)=>match E.zero et,E.und et with
   |some z,some d=>match zeroOne d z with
    |some v=>some (.tuple [v,.int .i64 cl],.set b (.map (ks++[k]) (vs++[v]) (bs++[cl]) (cl+1)))
    |none=>none
   |_,_=>none
  |_=>none
 |none=>none
theorem zeroV_ok(ok:EnvOk E){t:TypeId}{d:TypeDesc}{z:List AV}{v:AV}(hd:E.und t=some d)(hz:E.zero t=some z)
 (hv:zeroOne d z=some v):∃zv,(∀w',(zeroValue t).run E.P w' = .ok zv w')∧∀I w' ρ,VRel I w' ρ v zv:=by
 obtain⟨_,i,z',hi,hz',_,hrel⟩:=ok.zero t z hz;have hrun:∀w',(zeroValue t).run E.P w' = .ok z' w':=λw'=>by simp[zeroValue,typeInfo,hi,hz']
 obtain⟨s1,s2⟩:=ok.zshape t d i z' hd hi hz';refine⟨z',hrun,λI w' ρ=>?_⟩;have hzr:VRels I w' ρ z z'.cells.toList:=VRels.noRef_any (hrel I w');unfold zeroOne at hv;rw[cond_eq_ite]at hv;split at hv
 ·rename_i hag;obtain⟨a,rfl⟩:=s1 hag;simp only[Option.some.injEq]at hv;subst hv;simp only[VRel];exact⟨a,rfl,hzr⟩
 ·rename_i hag;split at hv
  case h_2=>cases hv
  cases hv;rw[s2 (by simpa using hag)]at hzr;simp only[VRels]at hzr;obtain⟨c0,cs0,he,h0,_⟩:=hzr;simp only[List.cons.injEq]at he;rw[he.1];exact h0
theorem amapEntry_ok(ok:EnvOk E)(r:HRel E.G I K ρ h w){t:TypeId}{m k v:AV}{c ck:Value}{e:Eff}(hu:amapEntry E h t m k=some (v,e))(hm:VRel I w ρ m c)(hk:VRel I w ρ k ck) :
 Val E I K ρ h n w (Instr.mapEntry t c ck) v e:=by
 unfold amapEntry at hu;split at hu
 ·rename_i b ks vs bs cl i hp;split at hu
  case h_2=>cases hu
  rename_i v0 s hv0 hs;cases hu;obtain⟨pl,es,kt,et,rfl,hb,hpl,he,h1,h2,h3,hund,_,hck,hfk,hi⟩:=apairs_ok ok r hp hm hk;obtain⟨e,hei,hek,hsb⟩:=hi i rfl;obtain⟨cv,hcv,hrv⟩:=VRels.get i h2 hv0;have hst:(es.toList.map (·.born))[i]?=some s:=by rw[h3];exact hs
  rw[List.getElem?_map]at hcv hst;have hei':es.toList[i]?=some e:=by simpa using hei
  rw[hei']at hcv hst;simp only[Option.map_some,Option.some.injEq]at hcv hst;have step:=stepped_obj (n:=n) (es':=es.modify i λe=>{ e with key:=ck }) (cl':=cl) r hb hpl he (vrels_keys_modify i _ (λe' he'=>by rw[hei]at he';cases he';exact hek.symm) h1)
   (show VRels I w ρ vs _ by
    have:(es.modify i λe=>{ e with key:=ck }).toList.map (·.val)=es.toList.map (·.val):=by
     apply List.ext_getElem?;intro j;simp only[List.getElem?_map,Array.getElem?_toList,Array.getElem?_modify];split
     ·rename_i hj;subst hj;cases es[i]?<;>simp
     ·rfl
    rw[this];exact h2) ((borns_modify (es:=es) i (λe=>{ e with key:=ck }) (λ_=>rfl)).trans h3)
  refine⟨.tuple #[cv,goInt s],_,ρ,?_,step,?_,Moves.same _ _ _⟩
  ·have h5:((es[i]?).map (·.key)).getD ck=e.key:=by simp[hei]
   have h6:((es[i]?).map (λx=>(x.born:Int))).getD 0=s:=by simp[hei,hst]
   have h7:((es.toList[i]?).map (·.val)).getD undef=cv:=by simp[hei,hcv]
   simp only[Instr.mapEntry,Sem.run_bind,hund,Result.andThen_ok,getObj,Sem.run,he,hck,hfk,Option.map_some,h5,h6,h7,Instr.keyThatStays,hsb,if_true,Sem.run_pure,setObj_run _ he]
  ·refine step.vrel ?_;simp only[VRel];exact⟨_,rfl,by simp only[VRels];exact⟨_,_,rfl,hrv,_,_,rfl,by simp[VRel,goInt],rfl⟩⟩
 ·rename_i b ks vs bs cl hp;split at hu
  case h_2=>cases hu
  rename_i kt' et hund';split at hu
  case h_2=>cases hu
  rename_i z d hz hd;split at hu
  case h_2=>cases hu
  rename_i v0 hv0;cases hu;obtain⟨pl,es,kt,et',rfl,hb,hpl,he,h1,h2,h3,hund,hund2,hck,hfk,_⟩:=apairs_ok ok r hp hm hk;rw[hund']at hund2;simp only[Option.some.injEq,TypeDesc.map.injEq]at hund2;obtain⟨rfl,rfl⟩:=hund2;obtain⟨zv,hzv,hzr⟩:=zeroV_ok ok hd hz hv0;have step:=stepped_obj (n:=n) (es':=es.push { key:=ck,val:=zv,born:=cl }) (cl':=cl+1) (ks:=ks++[k]) (vs:=vs++[v0]) (bs:=bs++[cl]) r hb hpl he
   (by simp only[Array.toList_push,List.map_append,List.map_cons,List.map_nil];exact VRels.append h1 (by simp only[VRels];exact⟨_,_,rfl,hk,rfl⟩))
   (by simp only[Array.toList_push,List.map_append,List.map_cons,List.map_nil];exact VRels.append h2 (by simp only[VRels];exact⟨_,_,rfl,hzr _ _ _,rfl⟩)) (by simp[h3])
  refine⟨.tuple #[zv,goInt cl],_,ρ,?_,step,?_,Moves.same _ _ _⟩
  ·simp only[Instr.mapEntry,Sem.run_bind,hund,Result.andThen_ok,getObj,Sem.run,he,hck,hfk,Option.map_none,hzv,setObj_run _ he,Sem.run_pure]
  ·simp only[VRel];exact⟨_,rfl,by simp only[VRels];exact⟨_,_,rfl,hzr _ _ _,_,_,rfl,by simp[VRel,goInt],rfl⟩⟩
 ·cases hu
def aentryStore(h:FHeap)(m s v:AV):Option Eff:=
 match m,s with
 |.map b,.int _ i=>match h b with
  |some (.map ks vs bs cl)=>match bs.findIdx? (λ(x:Nat)=>(x:Int)==i)with
   |some j=>some (.set b (.map ks (vs.set j v) bs cl))
   |none=>none
  |_=>none
 |_,_=>none
theorem aentryStore_ok(r:HRel E.G I K ρ h w){t:TypeId}{m s v:AV}{c cs cv:Value}{e:Eff}(hu:aentryStore h m s v=some e)(hm:VRel I w ρ m c)(hs:VRel I w ρ s cs)(hv:VRel I w ρ v cv) :
 Done E I K ρ h n w (Instr.entryStore t c cs cv) e:=by
 unfold aentryStore at hu;split at hu
 case h_2=>cases hu
 rename_i b kk i;split at hu
 case h_2=>cases hu
 rename_i ks vs bs cl hb;split at hu
 case h_2=>cases hu
 rename_i j hj;cases hu;simp only[VRel]at hm hs;obtain⟨pl,hpl,rfl⟩:=hm;subst hs;obtain⟨m',hm',_,_,ho⟩:=r.live b _ hb;obtain rfl:pl=m':=Option.some.inj (hpl.symm.trans hm');obtain⟨es,he,h1,h2,h3⟩:=ho;have hfi:es.findIdx? (λe=>(e.born:Int)==i)=some j:=by rw[←h3,List.findIdx?_map]at hj;rw[show es.findIdx? (λe=>(e.born:Int)==i)=es.toList.findIdx? (λe=>(e.born:Int)==i) by cases es;simp];exact hj
 refine⟨_,ρ,?_,stepped_obj (es':=es.modify j λe=>{ e with val:=cv }) r hb hpl he ?_ ?_ ?_,Moves.same _ _ _⟩
 ·simp only[Instr.entryStore,Sem.run_bind,getObj,Sem.run,he,Result.andThen_ok,asInt,asIntOf,Sem.run_pure,hfi,setObj_run _ he]
 ·exact vrels_keys_modify j _ (λ_ _=>rfl) h1
 ·exact vrels_vals_modify j _ (λ_=>rfl) hv h2
 ·exact(borns_modify (es:=es) j (λe=>{ e with val:=cv }) (λ_=>rfl)).trans h3
end
end Go.Ax
/- AxSet: sets of numbers: lookup, update, delete, ranging. -/
namespace Go.Ax
section
variable {E:Env}{I K:Nat→Prop}{ρ:PMap}{h:FHeap}{n:Nat}{w:World}
def oor{α:Type}(a b:Option α):Option α:=match a with
 |some x=>some x
 |none=>b
theorem oor_inv{α:Type}{a b:Option α}{x:α}(h:oor a b=some x):a=some x∨b=some x:=by
 cases a with
 |none=>exact .inr h
 |some y=>exact .inl h
def isI64:Option TypeDesc→Bool
 |some (.int .i64)=>true
 |_=>false
def isBoolD:Option TypeDesc→Bool
 |some .bool=>true
 |_=>false
def isFalse1:Option (List AV)→Bool
 |some [.bool b]=>!b
 |_=>false
def usetT(E:Env)(t:TypeId):Bool:=match E.und t with
 |some (.map kt et)=>isI64 (E.und kt)&&(isBoolD (E.und et)&&isFalse1 (E.zero et))
 |_=>false
theorem usetT_iff{t:TypeId}(hu:usetT E t=true):∃kt et,E.und t=some (.map kt et)∧E.und kt=some (.int .i64)∧E.und et=some .bool∧E.zero et=some [.bool false]:=by
 unfold usetT at hu;split at hu
 case h_2=>cases hu
 rename_i kt et he;simp only[Bool.and_eq_true]at hu;obtain⟨h1,h2,h3⟩:=hu;refine⟨kt,et,he,?_,?_,?_⟩
 ·unfold isI64 at h1;split at h1
  ·assumption
  ·cases h1
 ·unfold isBoolD at h2;split at h2
  ·assumption
  ·cases h2
 ·unfold isFalse1 at h3;split at h3
  ·rename_i b hb;cases b
   ·exact hb
   ·cases h3
  ·cases h3
section
variable {ks:List Int}{es:Array MapEntry}{cl:Nat}
theorem USet.key(hs:USet ks es cl){e:MapEntry}(he:e∈es.toList):∃y∈ks,e.key = .int .i64 y:=by have h1:=hs.1.mem_iff.1 (List.mem_map_of_mem (f:=(·.key)) he);obtain⟨y,hy,h2⟩:=List.mem_map.1 h1;exact⟨y,hy,h2.symm⟩
theorem USet.has(hs:USet ks es cl){x:Int}(hx:x∈ks):∃e∈es.toList,e.key = .int .i64 x:=by have h1:=hs.1.mem_iff.2 (List.mem_map_of_mem (f:=Value.int .i64) hx);obtain⟨e,he,h2⟩:=List.mem_map.1 h1;exact⟨e,he,h2⟩
theorem int_inj{a b:Int}(h:Value.int .i64 a=Value.int .i64 b):a=b:=by cases h;rfl
theorem USet.keys_nodup(hs:USet ks es cl):(es.toList.map (·.key)).Nodup:=by rw[hs.1.nodup_iff];exact List.Pairwise.map _ (λa b hab e=>hab (int_inj e)) hs.2.2.1
theorem findNow_set(x:Int):∀(es:List MapEntry) (i:Nat),(∀e∈es,∃y,e.key = .int .i64 y)→
 (∃j e,es[j]?=some e∧e.key = .int .i64 x∧Instr.findNow (.int .i64) (.int .i64 x) es i=some (some (i+j,e.val)))∨
  ((∀e∈es,e.key≠ .int .i64 x)∧Instr.findNow (.int .i64) (.int .i64 x) es i=some none)
 | [],i,_=>.inr ⟨by simp,rfl⟩
 |e::es,i,h=>by
  obtain⟨y,hy⟩:=h e (by simp);by_cases hxy:x=y
  ·subst hxy;exact .inl ⟨0,e,rfl,hy,by simp[Instr.findNow,Instr.sameNow,hy]⟩
  ·have e1:Instr.findNow (.int .i64) (.int .i64 x) (e::es) i=Instr.findNow (.int .i64) (.int .i64 x) es (i+1):=by
    have hb:(x==y)=false:=by simpa using hxy
    simp[Instr.findNow,Instr.sameNow,hy,hb]
   rcases findNow_set x es (i+1) (λe he=>h e (by simp[he]))with ⟨j,e',h1,h2,h3⟩|⟨h1,h2⟩
   ·exact .inl ⟨j+1,e',by simpa using h1,h2,by rw[e1,h3,show i+1+j=i+(j+1) by omega]⟩
   ·refine .inr ⟨?_,by rw[e1,h2]⟩;intro e' he';rcases List.mem_cons.1 he' with rfl|he'
    ·rw[hy];exact λe=>hxy (int_inj e).symm
    ·exact h1 e' he'
theorem set_find(ok:EnvOk E){kt:TypeId}(hk:E.und kt=some (.int .i64))(hs:USet ks es cl)(x:Int) :
 (∃j e,es[j]?=some e∧e.key = .int .i64 x∧x∈ks∧(Instr.findKey kt (.int .i64 x) es.toList).run E.P w = .ok (some (j,.bool true)) w)∨
  (x∉ks∧(Instr.findKey kt (.int .i64 x) es.toList).run E.P w = .ok none w):=by
 rcases findNow_set x es.toList 0 (λe he=>by obtain⟨y,_,h⟩:=hs.key he;exact⟨y,h⟩)with ⟨j,e,h1,h2,h3⟩|⟨h1,h2⟩
 ·refine .inl ⟨j,e,by simpa using h1,h2,?_,?_⟩
  ·obtain⟨y,hy,h4⟩:=hs.key (List.mem_of_getElem? h1);rw[h2]at h4;rw[int_inj h4];exact hy
  ·unfold Instr.findKey;simp only[Sem.run_bind,run_und ok w hk,Result.andThen_ok,h3,Nat.zero_add,hs.2.1 e (List.mem_of_getElem? h1),Sem.run_pure]
 ·refine .inr ⟨λhx=>?_,?_⟩
  ·obtain⟨e,he,h3⟩:=hs.has hx;exact h1 e he h3
  ·unfold Instr.findKey;simp only[Sem.run_bind,run_und ok w hk,Result.andThen_ok,h2,Sem.run_pure]
end
def usetOf(h:FHeap):AV→Option (List Int)
 |.iset ks=>some ks
 |.map b=>match h b with
  |some (.uset ks)=>some ks
  |_=>none
 |_=>none
theorem usetOf_ok(r:HRel E.G I K ρ h w){x:AV}{ks:List Int}{c:Value}(hu:usetOf h x=some ks)(hx:VRel I w ρ x c) :
 ∃b es cl,c = .map (some b)∧w.heap[b]?=some (.map es cl)∧USet ks es cl:=by
 unfold usetOf at hu;split at hu
 ·cases hu;simp only[VRel]at hx;obtain⟨b,es,cl,rfl,_,he,hs⟩:=hx;exact⟨b,es,cl,rfl,he,hs⟩
 ·rename_i b;split at hu
  case h_2=>cases hu
  rename_i ks' hb;cases hu;simp only[VRel]at hx;obtain⟨m,hm,rfl⟩:=hx;obtain⟨m',hm',_,_,es,cl,he,hs⟩:=r.live b _ hb;obtain rfl:m=m':=Option.some.inj (hm.symm.trans hm');exact⟨m.blk,es,cl,rfl,he,hs⟩
 ·cases hu
/-! ### lookup -/
def alookS(E:Env)(h:FHeap)(t:TypeId)(x k:AV)(ok:Bool):Option AV:=match usetOf h x,k with
 |some ks,.int .i64 i=>bif usetT E t then some (bif ok then .tuple [.bool (ks.contains i),.bool (ks.contains i)]else .bool (ks.contains i))else none
 |_,_=>none
theorem alookS_ok(ok:EnvOk E)(r:HRel E.G I K ρ h w){t:TypeId}{x k v:AV}{c ck:Value}{b:Bool}(hv:alookS E h t x k b=some v)(hx:VRel I w ρ x c)(hk:VRel I w ρ k ck) :
 Val E I K ρ h n w (Instr.lookup t c ck b) v .none:=by
 unfold alookS at hv;split at hv
 case h_2=>cases hv
 rename_i ks i hu;rw[cond_eq_ite]at hv;split at hv
 case isFalse=>cases hv
 rename_i ht;obtain⟨kt,et,h1,h2,h3,h4⟩:=usetT_iff ht;obtain⟨bb,es,cl,rfl,he,hs⟩:=usetOf_ok r hu hx;simp only[VRel]at hk;subst hk;have hck:=checkKey_plain (w:=w) ok (d:=.int .i64) rfl h2 es.isEmpty 9999 (.int .i64 i);have fin:∀q:Bool,(Instr.lookup t (.map (some bb)) (.int .i64 i) b).run E.P w = .ok (if b then .tuple #[.bool q,.bool q]else .bool q) w→ks.contains i=q→Val E I K ρ h n w (Instr.lookup t (.map (some bb)) (.int .i64 i) b) v .none:=by
  intro q hrun hq;rw[hq]at hv;refine Val.here r hrun ?_;cases b
  ·simp only[cond_false,Option.some.injEq]at hv;subst hv;simp[VRel]
  ·simp only[cond_true,Option.some.injEq]at hv;subst hv;simp only[if_true,VRel];exact⟨_,rfl,by simp only[VRels];exact⟨_,_,rfl,by simp[VRel],_,_,rfl,by simp[VRel],rfl⟩⟩
 rcases set_find (w:=w) ok h2 hs i with ⟨j,e,g1,g2,g3,g4⟩|⟨g1,g2⟩
 ·refine fin true ?_ (by simpa using g3);simp only[Instr.lookup,Sem.run_bind,run_und ok w h1,Result.andThen_ok,getObj,Sem.run,he,Sem.run_pure,hck,g4]
 ·refine fin false ?_ (by simpa using g1);obtain⟨zv,hzv,_,hrel⟩:=run_zero ok w h4;have hzr:VRels I w ρ [.bool false] zv.cells.toList:=VRels.noRef_any (hrel I w);rw[(zero_one ok h3 h4 hzv).2 rfl]at hzr;simp only[VRels]at hzr;obtain⟨c0,cs0,he0,h0,_⟩:=hzr;simp only[List.cons.injEq]at he0;rw[←he0.1]at h0;simp only[VRel]at h0;subst h0;simp only[Instr.lookup,Sem.run_bind,run_und ok w h1,Result.andThen_ok,getObj,Sem.run,he,Sem.run_pure,hck,g2,hzv]
/-! ### update -/
def insZ(x:Int):List Int→List Int
 | []=>[x]
 |y::l=>bif decide (x<y)then x::y::l else y::insZ x l
theorem insZ_perm(x:Int):∀l:List Int,(insZ x l).Perm (x::l)
 | []=>List.Perm.refl _
 |y::l=>by
  simp only[insZ,cond_eq_ite];split
  ·exact List.Perm.refl _
  ·exact((insZ_perm x l).cons y).trans (List.Perm.swap ..)
theorem modify_map{α:Type}(g:MapEntry→α){es:Array MapEntry}(i:Nat)(f:MapEntry→MapEntry)(hf:∀e,es[i]?=some e→g (f e)=g e):(es.modify i f).toList.map g=es.toList.map g:=by
 apply List.ext_getElem?;intro j;simp only[List.getElem?_map,Array.getElem?_toList,Array.getElem?_modify];split
 ·rename_i hj;subst hj;cases he:es[i]? with
  |none=>simp
  |some e=>simp[hf e he]
 ·rfl
theorem uset_maps{ks:List Int}{es:Array MapEntry}{cl:Nat}:USet ks es cl↔(es.toList.map (·.key)).Perm (ks.map (Value.int .i64))∧(∀v∈es.toList.map (·.val),v = .bool true)∧ks.Nodup∧(es.toList.map (·.born)).Nodup∧∀b∈es.toList.map (·.born),b<cl:=by unfold USet;simp only[List.mem_map,forall_exists_index,and_imp,forall_apply_eq_imp_iff₂]
theorem stepped_uset(r:HRel E.G I K ρ h w){b:Nat}{m:Pl}{o0:AObj}(hb:h b=some o0)(hm:ρ b=some m){es es':Array MapEntry}{cl cl':Nat}(he:w.heap[m.blk]?=some (.map es cl)){ks:List Int}(hs:USet ks es' cl') :
 Stepped E.G I K ρ w I ρ (h.eff n (.set b (.uset ks))) { w with heap:=w.heap.setIfInBounds m.blk (.map es' cl') }:=by
 have hlt:m.blk<w.heap.size:=(Array.getElem?_eq_some_iff.1 he).1;have hoth:∀c,c≠m.blk→({ w with heap:=w.heap.setIfInBounds m.blk (.map es' cl') }:World).heap[c]?=w.heap[c]?:=by intro c hc;show(w.heap.setIfInBounds _ _)[c]?=_;rw[Array.getElem?_setIfInBounds,if_neg (λh=>hc h.symm)]
 refine stepped_set r hb hm (by simp) hoth rfl rfl rfl ⟨es',cl',?_,hs⟩;show(w.heap.setIfInBounds _ _)[_]?=_;rw[Array.getElem?_setIfInBounds,if_pos rfl,if_pos hlt]
def aupdS(E:Env)(h:FHeap)(t:TypeId)(m k v:AV):Option Eff:=match m,k,v with
 |.map b,.int .i64 i,.bool q=>match h b with
  |some (.uset ks)=>bif usetT E t&&q then some (.set b (.uset (bif ks.contains i then ks else insZ i ks)))else none
  |_=>none
 |_,_,_=>none
theorem aupdS_ok(ok:EnvOk E)(r:HRel E.G I K ρ h w){t:TypeId}{m k v:AV}{c ck cv:Value}{e:Eff}(hu:aupdS E h t m k v=some e)(hm:VRel I w ρ m c)(hk:VRel I w ρ k ck)(hv:VRel I w ρ v cv) :
 Done E I K ρ h n w (Instr.mapUpdate t c ck cv) e:=by
 unfold aupdS at hu;split at hu
 case h_2=>cases hu
 rename_i b i q;split at hu
 case h_2=>cases hu
 rename_i ks hb;rw[cond_eq_ite]at hu;split at hu
 case isFalse=>cases hu
 rename_i ht;simp only[Bool.and_eq_true]at ht;obtain⟨ht,rfl⟩:=ht;cases hu;obtain⟨kt,et,h1,h2,h3,h4⟩:=usetT_iff ht;simp only[VRel]at hm hk hv;subst hk hv;obtain⟨pl,hpl,rfl⟩:=hm;obtain⟨m',hm',_,_,es,cl,he,hs⟩:=r.live b _ hb;obtain rfl:pl=m':=Option.some.inj (hpl.symm.trans hm');have hck:=checkKey_plain (w:=w) ok (d:=.int .i64) rfl h2 false 9999 (.int .i64 i);rcases set_find (w:=w) ok h2 hs i with ⟨j,e,g1,g2,g3,g4⟩|⟨g1,g2⟩
 ·have hc:ks.contains i=true:=by simpa using g3
  rw[hc,cond_true];obtain⟨s1,s2,s3,s4,s5⟩:=uset_maps.1 hs;have k1:(es.modify j λe=>{ e with key:=.int .i64 i,val:=.bool true }).toList.map (·.key)=es.toList.map (·.key):=modify_map _ j _ (λe' he'=>by rw[g1]at he';cases he';exact g2.symm);have k2:(es.modify j λe=>{ e with key:=.int .i64 i,val:=.bool true }).toList.map (·.val)=es.toList.map (·.val):=modify_map _ j _ (λe' he'=>(hs.2.1 e' (by simpa using Array.mem_of_getElem? he')).symm);have k3:(es.modify j λe=>{ e with key:=.int .i64 i,val:=.bool true }).toList.map (·.born)=es.toList.map (·.born):=modify_map _ j _ (λe' he'=>rfl);refine⟨_,ρ,?_,stepped_uset (es':=es.modify j λe=>{ e with key:=.int .i64 i,val:=.bool true }) r hb hpl he (uset_maps.2 ⟨by rw[k1];exact s1,by rw[k2];exact s2,s3,by rw[k3];exact s4,by rw[k3];exact s5⟩),Moves.same _ _ _⟩;have h5:((es[j]?).map (·.key)).getD (.int .i64 i) = .int .i64 i:=by simp[g1,g2]
  have h6:Instr.sameBits 10000 (.int .i64 i) (.int .i64 i)=true:=by simp[Instr.sameBits]
  simp only[Instr.mapUpdate,Sem.run_bind,run_und ok w h1,Result.andThen_ok,getObj,Sem.run,he,hck,g4,h5,Instr.keyThatStays,h6,if_true,Sem.run_pure,setObj_run _ he]
 ·have hc:ks.contains i=false:=by simpa using g1
  rw[hc,cond_false];obtain⟨s1,s2,s3,s4,s5⟩:=uset_maps.1 hs;have hp:=insZ_perm i ks;refine⟨_,ρ,?_,stepped_uset (es':=es.push { key:=.int .i64 i,val:=.bool true,born:=cl }) (cl':=cl+1) r hb hpl he (uset_maps.2 ⟨?_,?_,?_,?_,?_⟩),Moves.same _ _ _⟩
  ·simp only[Instr.mapUpdate,Sem.run_bind,run_und ok w h1,Result.andThen_ok,getObj,Sem.run,he,hck,g2,setObj_run _ he]
  ·rw[Array.toList_push,List.map_append];refine(List.perm_append_comm.trans ?_).trans (hp.map _).symm;simpa using s1
  ·intro v hv;rw[Array.toList_push,List.map_append]at hv;rcases List.mem_append.1 hv with h|h
   ·exact s2 v h
   ·simpa using h
  ·rw[hp.nodup_iff,List.nodup_cons];exact⟨g1,s3⟩
  ·rw[Array.toList_push,List.map_append,List.nodup_append];refine⟨s4,by simp,?_⟩;intro a ha b' hb';have:=s5 a ha;simp only[List.map_cons,List.map_nil,List.mem_singleton]at hb';omega
  ·intro a ha;rw[Array.toList_push,List.map_append]at ha;rcases List.mem_append.1 ha with h|h
   ·have:=s5 a h;omega
   ·simp only[List.map_cons,List.map_nil,List.mem_singleton]at h;omega
/-! ### delete -/
theorem eraseIdx_perm{α:Type}:∀{l:List α} {j:Nat} {e:α},l[j]?=some e→(e::l.eraseIdx j).Perm l
 | [],j,e,h=>by simp at h
 |a::l,0,e,h=>by simp at h;subst h;exact List.Perm.refl _
 |a::l,j+1,e,h=>by have ih:=eraseIdx_perm (l:=l) (j:=j) (e:=e) (by simpa using h);simp only[List.eraseIdx_cons_succ];exact(List.Perm.swap ..).trans (ih.cons a)
def adelS(E:Env)(h:FHeap)(t:TypeId)(m k:AV):Option Eff:=match m,k with
 |.map b,.int .i64 i=>match h b with
  |some (.uset ks)=>bif usetT E t then some (.set b (.uset (ks.filter λy=>!decide (y=i))))else none
  |_=>none
 |_,_=>none
theorem adelS_ok(ok:EnvOk E)(r:HRel E.G I K ρ h w){t kt0:TypeId}{m k:AV}{c ck:Value}{e:Eff}(ty:TypeId)(hu:adelS E h t m k=some e)(hm:VRel I w ρ m c)(hk:VRel I w ρ k ck) :
 Val E I K ρ h n w (Builtin.delete_ #[t,kt0] ty #[c,ck]) (.tuple []) e:=by
 unfold adelS at hu;split at hu
 case h_2=>cases hu
 rename_i b i;split at hu
 case h_2=>cases hu
 rename_i ks hb;rw[cond_eq_ite]at hu;split at hu
 case isFalse=>cases hu
 rename_i ht;cases hu;obtain⟨kt,et,h1,h2,h3,h4⟩:=usetT_iff ht;simp only[VRel]at hm hk;subst hk;obtain⟨pl,hpl,rfl⟩:=hm;obtain⟨m',hm',_,_,es,cl,he,hs⟩:=r.live b _ hb;obtain rfl:pl=m':=Option.some.inj (hpl.symm.trans hm');have hck:=checkKey_plain (w:=w) ok (d:=.int .i64) rfl h2 es.isEmpty 9999 (.int .i64 i);have hunit:∀(w':World) (ρ':PMap),VRel I w' ρ' (.tuple []) (.tuple #[]):=λw' ρ'=>by simp only[VRel];exact⟨#[],rfl,by simp[VRels]⟩
 obtain⟨s1,s2,s3,s4,s5⟩:=uset_maps.1 hs;rcases set_find (w:=w) ok h2 hs i with ⟨j,e,g1,g2,g3,g4⟩|⟨g1,g2⟩
 ·have hj:j<es.toList.length:=by simpa using(Array.getElem?_eq_some_iff.1 g1).1
  have hel:(es.eraseIdxIfInBounds j).toList=es.toList.eraseIdx j:=by unfold Array.eraseIdxIfInBounds;rw[dif_pos (by simpa using hj)];simp
  have hpe:(e::es.toList.eraseIdx j).Perm es.toList:=eraseIdx_perm (by simpa using g1);have hpk:(i::ks.filter λy=>!decide (y=i)).Perm ks:=by
   refine(List.perm_ext_iff_of_nodup ?_ s3).2 λz=>?_
   ·rw[List.nodup_cons];exact⟨by simp,s3.filter _⟩
   ·simp only[List.mem_cons,List.mem_filter,Bool.not_eq_true',decide_eq_false_iff_not];constructor
    ·rintro(rfl|h)
     ·exact g3
     ·exact h.1
    ·intro hz;by_cases hzi:z=i
     ·exact .inl hzi
     ·exact .inr ⟨hz,hzi⟩
  refine⟨.tuple #[],_,ρ,?_,stepped_uset (es':=es.eraseIdxIfInBounds j) (cl':=cl) r hb hpl he (uset_maps.2 ⟨?_,?_,?_,?_,?_⟩),hunit _ _,Moves.same _ _ _⟩
  ·have hget:(getObj pl.blk).run E.P w = .ok (.map es cl) w:=by simp[getObj,Sem.run,he]
   have hset:=setObj_run (E:=E) (.map (es.eraseIdxIfInBounds j) cl) he;simp[Builtin.delete_,run_und ok w h1,hget,hck,g4,hset]
  ·rw[hel];have h5:=(hpe.map (·.key)).trans (s1.trans (hpk.map (Value.int .i64)).symm);simp only[List.map_cons,g2]at h5;exact h5.cons_inv
  ·intro v hv;rw[hel]at hv;exact s2 v ((hpe.map (·.val)).subset (by simp only[List.map_cons];exact List.mem_cons_of_mem _ hv))
  ·exact s3.filter _
  ·rw[hel];have:=(hpe.map (·.born)).nodup_iff.2 s4;simp only[List.map_cons,List.nodup_cons]at this;exact this.2
  ·intro v hv;rw[hel]at hv;exact s5 v ((hpe.map (·.born)).subset (by simp only[List.map_cons];exact List.mem_cons_of_mem _ hv))
 ·have hf:(ks.filter λy=>!decide (y=i))=ks:=List.filter_eq_self.2 λy hy=>by simp;rintro rfl;exact g1 hy
  rw[hf];refine⟨.tuple #[],_,ρ,?_,stepped_uset (es':=es) (cl':=cl) r hb hpl he hs,hunit _ _,Moves.same _ _ _⟩;have hget:(getObj pl.blk).run E.P w = .ok (.map es cl) w:=by simp[getObj,Sem.run,he]
  have hset:=setObj_run (E:=E) (.map es cl) he;simp[Builtin.delete_,run_und ok w h1,hget,hck,g2,hset]
end
end Go.Ax
/- AxSet2: ranging over a set of numbers. -/
namespace Go.Ax
section
variable {E:Env}{I K:Nat→Prop}{ρ:PMap}{h:FHeap}{n:Nat}{w:World}
def isMapT:Option TypeDesc→Bool
 |some (.map _ _)=>true
 |_=>false
theorem isMapT_iff{d:Option TypeDesc}(h:isMapT d=true):∃kt et,d=some (.map kt et):=by
 unfold isMapT at h;split at h
 ·exact⟨_,_,rfl⟩
 ·cases h
def arangeS(E:Env)(n:Nat)(t:TypeId)(x:AV):Option (AV×Eff):=match x with
 |.iset ks=>bif isMapT (E.und t)then some (.ptr n 0 0,.new (.miter ks [] none))else none
 |.nilmap=>bif isMapT (E.und t)then some (.ptr n 0 0,.new (.miter [] [] none))else none
 |_=>none
theorem arangeS_ok(ok:EnvOk E)(r:HRel E.G I K ρ h w)(hn:h n=none)(hρ:ρ n=none){t:TypeId}{x v:AV}{c:Value}{e:Eff}(ha:arangeS E n t x=some (v,e))(hx:VRel I w ρ x c) :
 Val E I K ρ h n w (Instr.range t c) v e:=by
 unfold arangeS at ha;split at ha
 ·rename_i ks;rw[cond_eq_ite]at ha;split at ha
  case isFalse=>cases ha
  rename_i hu;cases ha;obtain⟨kt,et,hu⟩:=isMapT_iff hu;simp only[VRel]at hx;obtain⟨b,es,cl,rfl,hI,he,hs⟩:=hx;have hlt:b<w.heap.size:=(Array.getElem?_eq_some_iff.1 he).1;refine⟨.pointer (some ⟨w.heap.size,0,none⟩),{ w with heap:=w.heap.push (.mapIter (some b) cl #[] cl) },ρ.set n ⟨w.heap.size,0,0,0⟩,?_,?_,?_,Moves.set _ _ _ rfl⟩
  ·simp[Instr.range,run_und ok w hu,getObj,Sem.run,he,newObj]
  ·refine stepped_new (ob:=.mapIter (some b) cl #[] cl) r hn hρ rfl rfl rfl rfl rfl ?_;refine⟨rfl,.inr ⟨b,es,cl,#[],hI,?_,hs,by simp,[],by simp,by simp,by simp⟩⟩;show(w.heap.push _)[b]?=_;rw[Array.getElem?_push,if_neg (by omega)];exact he
  ·simp only[VRel];exact⟨_,by simp[PMap.set];rfl,by simp⟩
 ·rw[cond_eq_ite]at ha;split at ha
  case isFalse=>cases ha
  rename_i hu;cases ha;obtain⟨kt,et,hu⟩:=isMapT_iff hu;simp only[VRel]at hx;subst hx;refine⟨.pointer (some ⟨w.heap.size,0,none⟩),{ w with heap:=w.heap.push (.mapIter none 0 #[] 0) },ρ.set n ⟨w.heap.size,0,0,0⟩,?_,?_,?_,Moves.set _ _ _ rfl⟩
  ·simp[Instr.range,run_und ok w hu,newObj,Sem.run]
  ·exact stepped_new (ob:=.mapIter none 0 #[] 0) r hn hρ rfl rfl rfl rfl rfl ⟨rfl,.inl ⟨rfl,rfl,by simp⟩⟩
  ·simp only[VRel];exact⟨_,by simp[PMap.set];rfl,by simp⟩
 ·cases ha
def aentryS(h:FHeap)(it:AV):Option AV:=match it with
 |.ptr b 0 0=>match h b with
  |some (.miter _ vis _)=>match vis.getLast? with
   |some i=>some (.tuple [.int .i64 i,.bool true])
   |none=>none
  |_=>none
 |_=>none
theorem aentryS_ok(r:HRel E.G I K ρ h w){it v:AV}{c:Value}(ha:aentryS h it=some v)(hx:VRel I w ρ it c):Val E I K ρ h n w (Instr.entry c) v .none:=by
 unfold aentryS at ha;split at ha
 case h_2=>cases ha
 rename_i b;split at ha
 case h_2=>cases ha
 rename_i ks vis arm hb;split at ha
 case h_2=>cases ha
 rename_i i hi;cases ha;simp only[VRel]at hx;obtain⟨m,hm,rfl⟩:=hx;obtain⟨m',hm',_,_,h0,ho⟩:=r.live b _ hb;obtain rfl:m=m':=Option.some.inj (hm.symm.trans hm');rcases ho with ⟨_,h2,_⟩|⟨c,es,cl,seen,hI,he,hs,hit,es',g1,g2,g3⟩
 ·rw[h2]at hi;cases hi
 ·have hl:(es'.map (·.key)).getLast?=some (.int .i64 i):=by rw[g3,List.getLast?_map,hi];rfl
  rw[List.getLast?_map]at hl;cases hle:es'.getLast? with
  |none=>rw[hle]at hl;cases hl
  |some e=>
   rw[hle]at hl;simp only[Option.map_some,Option.some.injEq]at hl;have hem:=g1 e (List.mem_of_getLast? hle);have hback:seen.back?=some e.born:=by rw[←Array.getLast?_toList,←g2,List.getLast?_map,hle];rfl
   have hfind:es.find? (λx=>x.born==e.born)=some e:=by
    rw[←Array.find?_toList];have hnd:=hs.2.2.2.1;have:∀l:List MapEntry,(l.map (·.born)).Nodup→e∈l→l.find? (λx=>x.born==e.born)=some e:=by
     intro l
     induction l with
     |nil=>intro _ h;cases h
     |cons a l ih=>
      intro hn hm;simp only[List.map_cons,List.nodup_cons]at hn;rcases List.mem_cons.1 hm with rfl|hm
      ·simp
      ·have hne:(a.born==e.born)=false:=by
        rw[beq_eq_false_iff_ne];intro h;exact hn.1 (h▸List.mem_map_of_mem (f:=(·.born)) hm)
       rw[List.find?_cons,hne];exact ih hn.2 hm
    exact this _ hnd hem
   refine Val.here (c:=.tuple #[.int .i64 i,.bool true]) r ?_ ?_
   ·simp[Instr.entry,h0,getObj,Sem.run,hit,he,hback,hfind,hl,hs.2.1 e hem]
   ·simp only[VRel];exact⟨_,rfl,by simp only[VRels];exact⟨_,_,rfl,by simp[VRel],_,_,rfl,by simp[VRel],rfl⟩⟩
theorem choose_next(k:Nat)(hk:0<k):∃i d,i<k∧(choose (.mapNext k)).run E.P w = .ok i { w with drawn:=d }:=by
 simp only[choose,Sem.run];by_cases h:(Question.mapNext k).forced=true
 ·rw[if_pos h];exact⟨0,w.drawn,hk,rfl⟩
 ·rw[if_neg h];exact⟨_,w.drawn+1,Nat.mod_lt _ hk,rfl⟩
theorem born_inj{es:List MapEntry}{α:Type}(f:MapEntry→α)(hn:(es.map f).Nodup){a b:MapEntry}(ha:a∈es)(hb:b∈es)(h:f a=f b):a=b:=by
 induction es with
 |nil=>cases ha
 |cons x l ih=>
  simp only[List.map_cons,List.nodup_cons]at hn;rcases List.mem_cons.1 ha with rfl|ha
  ·rcases List.mem_cons.1 hb with rfl|hb
   ·rfl
   ·exact absurd (h▸List.mem_map_of_mem (f:=f) hb) hn.1
  ·rcases List.mem_cons.1 hb with rfl|hb
   ·exact absurd (show f b∈l.map f from h▸List.mem_map_of_mem (f:=f) (by assumption)) hn.1
   ·exact ih hn.2 ha hb
theorem next_set(r:HRel E.G I K ρ h w){b:Nat}{m:Pl}{ks vis:List Int}{arm:Option (Option Int)}(hb:h b=some (.miter ks vis arm))(hm:ρ b=some m)(ty:TypeId) :
 (∃i,i∈ks∧i∉vis∧∃w',(Instr.next (.pointer (some ⟨m.blk,0,none⟩)) false ty).run E.P w = .ok (.tuple #[.bool true,.int .i64 i,.bool true]) w'∧Stepped E.G I K ρ w I ρ (h.eff n (.set b (.miter ks (vis++[i]) none))) w')∨
  ((∀i∈ks,i∈vis)∧∃w',(Instr.next (.pointer (some ⟨m.blk,0,none⟩)) false ty).run E.P w = .ok (.tuple #[.bool false]) w'∧Stepped E.G I K ρ w I ρ (h.eff n (.set b (.miter ks vis none))) w'):=by
 obtain⟨m',hm',hnI,_,h0,ho⟩:=r.live b _ hb;obtain rfl:m=m':=Option.some.inj (hm.symm.trans hm');rcases ho with ⟨h1,h2,h3⟩|⟨c,es,cl,seen,hI,he,hs,hit,es',g1,g2,g3⟩
 ·subst h1 h2;exact .inr ⟨by simp,w,by simp[Instr.next,getObj,Sem.run,h3],stepped_set r hb hm rfl (λ_ _=>rfl) rfl rfl rfl ⟨h0,.inl ⟨rfl,rfl,h3⟩⟩⟩
 ·have hget1:(getObj m.blk).run E.P w = .ok (.mapIter (some c) cl seen cl) w:=by simp[getObj,Sem.run,hit]
  have hget2:(getObj c).run E.P w = .ok (.map es cl) w:=by simp[getObj,Sem.run,he]
  have hborn:∀e∈es,e.born<cl:=λe he=>hs.2.2.2.2 e (by simpa using he);have hcond:(!seen.isEmpty && !es.isEmpty&&es.all (λe=>decide (e.born≥cl)))=false:=by
   rw[Bool.and_eq_false_iff];by_cases hem:es.isEmpty=true
   ·left;simp[hem]
   ·right;have hne:es≠ #[]:=by simpa using hem
    rw[←Bool.not_eq_true,Array.all_eq_true_iff_forall_mem];intro hall;obtain⟨e,hee⟩:=Array.exists_mem_of_ne_empty es hne;have:=hall e hee;have:=hborn e hee;simp only[decide_eq_true_eq]at *;omega
  obtain⟨left,hleft⟩:∃left,left=es.filter (λe=>!seen.contains e.born):=⟨_,rfl⟩
  have hmem:∀e,e∈left↔e∈es∧e.born∉seen:=by intro e;rw[hleft,Array.mem_filter];simp
  have hold:left.filter (λe=>decide (e.born<cl))=left:=by rw[Array.filter_eq_self];intro e hm;simpa using hborn e ((hmem e).1 hm).1
  have hnew:left.filter (λe=>decide (e.born≥cl)) = #[]:=by rw[Array.filter_eq_empty_iff];intro e hm;have:=hborn e ((hmem e).1 hm).1;simp;omega
  have hseen:∀e∈es,∀i,e.key = .int .i64 i→(e.born∈seen↔i∈vis):=by
   intro e hee i hi;have hnd1:=hs.2.2.2.1;have hnd2:=hs.keys_nodup;have hel:e∈es.toList:=by simpa using hee
   constructor
   ·intro h;have h1:e.born∈es'.map (·.born):=by rw[g2];simpa using h
    obtain⟨e',he',h2⟩:=List.mem_map.1 h1;have:=born_inj (·.born) hnd1 (g1 e' he') hel h2;subst this;have h3:=List.mem_map_of_mem (f:=(·.key)) he';rw[g3,hi]at h3;obtain⟨j,hj,h4⟩:=List.mem_map.1 h3;rw[int_inj h4]at hj;exact hj
   ·intro h;have h1:Value.int .i64 i∈es'.map (·.key):=by rw[g3];exact List.mem_map_of_mem h
    obtain⟨e',he',h2⟩:=List.mem_map.1 h1;have:=born_inj (·.key) hnd2 (g1 e' he') hel (h2.trans hi.symm);subst this;have h3:=List.mem_map_of_mem (f:=(·.born)) he';rw[g2]at h3;simpa using h3
  by_cases hl:left.isEmpty=true
  ·refine .inr ⟨λi hi=>?_,w,?_,stepped_set r hb hm rfl (λ_ _=>rfl) rfl rfl rfl ⟨h0,.inr ⟨c,es,cl,seen,hI,he,hs,hit,es',g1,g2,g3⟩⟩⟩
   ·obtain⟨e,hee,hk⟩:=hs.has hi;have hee:e∈es:=by simpa using hee
    refine(hseen e hee i hk).1 (Decidable.byContradiction λhn=>?_);have:=(hmem e).2 ⟨hee,hn⟩;have h0:left = #[]:=by simpa using hl
    rw[h0]at this;simp at this
   ·have h0:left = #[]:=by simpa using hl
    simp only[Instr.next,Sem.run_bind,hget1,Result.andThen_ok,hget2,hcond,←hleft,hold,hnew];simp[h0,choose,Sem.run,Question.forced]
  ·have hpos:0<left.size:=by
    rcases Nat.eq_zero_or_pos left.size with h|h
    ·exact absurd (by simpa using Array.eq_empty_of_size_eq_zero h) hl
    ·exact h
   obtain⟨ix,d,hix,hch⟩:=choose_next (E:=E) (w:=w) left.size hpos;obtain⟨e,hee⟩:∃e,left[ix]?=some e:=⟨_,Array.getElem?_eq_getElem hix⟩
   obtain⟨hees,hnb⟩:=(hmem e).1 (Array.mem_of_getElem? hee);obtain⟨i,hi,hk⟩:=hs.key (e:=e) (by simpa using hees);have hval:=hs.2.1 e (by simpa using hees);have hblk:m.blk<w.heap.size:=(Array.getElem?_eq_some_iff.1 hit).1;have hcb:c≠m.blk:=λe=>hnI (e▸hI);refine .inl ⟨i,hi,λhv=>hnb ((hseen e hees i hk).2 hv),{ w with heap:=w.heap.setIfInBounds m.blk (.mapIter (some c) cl (seen.push e.born) cl),drawn:=d },?_,?_⟩
   ·have hset:(setObj m.blk (.mapIter (some c) cl (seen.push e.born) cl)).run E.P { w with drawn:=d } = .ok () { w with heap:=w.heap.setIfInBounds m.blk (.mapIter (some c) cl (seen.push e.born) cl),drawn:=d }:=by
     simp[setObj,Sem.run,hit]
    have hl':left.isEmpty=false:=by simpa using hl
    simp only[Instr.next,Sem.run_bind,hget1,Result.andThen_ok,hget2,hcond,←hleft,hold,hnew,hl',Bool.false_eq_true,if_false,Array.empty_append,Array.append_empty,Array.size_map,hch,Array.getElem?_map,hee,Option.map_some,hset,Sem.run_pure,hk,hval]
   ·refine stepped_set r hb hm (by simp) ?_ rfl rfl rfl ⟨h0,.inr ⟨c,es,cl,seen.push e.born,hI,?_,hs,?_,es'++[e],?_,?_,?_⟩⟩
    ·intro x hx;show(w.heap.setIfInBounds _ _)[x]?=_;rw[Array.getElem?_setIfInBounds,if_neg (λh=>hx h.symm)]
    ·show(w.heap.setIfInBounds _ _)[c]?=_;rw[Array.getElem?_setIfInBounds,if_neg (λh=>hcb h.symm)];exact he
    ·show(w.heap.setIfInBounds _ _)[_]?=_;rw[Array.getElem?_setIfInBounds,if_pos rfl,if_pos hblk]
    ·intro x hx;rcases List.mem_append.1 hx with h|h
     ·exact g1 x h
     ·simp only[List.mem_singleton]at h;subst h;simpa using hees
    ·rw[List.map_append,g2,Array.toList_push];rfl
    ·rw[List.map_append,g3,List.map_append];simp[hk]
end
end Go.Ax
/- AxStr: ranging over a string. -/
namespace Go.Ax
section
variable {E:Env}{I K:Nat→Prop}{ρ:PMap}{h:FHeap}{n:Nat}{w:World}
def arange(E:Env)(n:Nat)(t:TypeId)(x:AV):Option (AV×Eff):=
 match E.und t,x with
 |some .string,.str s=>some (.ptr n 0 0,.new (.siter s 0))
 |_,_=>none
theorem arange_ok(ok:EnvOk E)(r:HRel E.G I K ρ h w)(hn:h n=none)(hρ:ρ n=none){t:TypeId}{x v:AV}{c:Value}{e:Eff}(ha:arange E n t x=some (v,e))(hx:VRel I w ρ x c) :
 Val E I K ρ h n w (Instr.range t c) v e:=by
 unfold arange at ha;split at ha
 case h_2=>cases ha
 rename_i s hu;cases ha;simp only[VRel]at hx;obtain⟨tb,rfl,ht⟩:=hx;refine⟨.pointer (some ⟨w.heap.size,0,none⟩),{ w with heap:=w.heap.push (.stringIter tb 0) },ρ.set n ⟨w.heap.size,0,0,0⟩,?_,?_,?_,Moves.set _ _ _ rfl⟩
 ·simp[Instr.range,run_und ok w hu]
 ·refine stepped_new (ob:=.stringIter tb 0) r hn hρ rfl rfl rfl rfl rfl ?_;exact⟨rfl,tb,by simp,ht⟩
 ·simp only[VRel];exact⟨_,by simp[PMap.set];rfl,by simp⟩
def anext(h:FHeap)(it:AV)(isString:Bool):Option (AV×Eff):=
 match it with
 |.ptr b 0 0=>bif isString then match h b with
  |some (.siter s pos)=>bif Nat.blt pos s.length then
   some (.tuple [.bool true,.int .i64 pos,.int .i32 (Utf8.decode ⟨s.toArray⟩ pos).1],.set b (.siter s (pos+(Utf8.decode ⟨s.toArray⟩ pos).2)))
   else some (.tuple [.bool false],.none)
  |_=>none
  else none
 |_=>none
theorem anext_ok(r:HRel E.G I K ρ h w){it v:AV}{b:Bool}{c:Value}{e:Eff}(ty:TypeId)(ha:anext h it b=some (v,e))(hx:VRel I w ρ it c) :
 Val E I K ρ h n w (Instr.next c b ty) v e:=by
 unfold anext at ha;split at ha
 case h_2=>cases ha
 rename_i bb;rw[cond_eq_ite]at ha;split at ha
 case isFalse=>cases ha
 rename_i hs;subst hs;split at ha
 case h_2=>cases ha
 rename_i s pos hb;simp only[VRel]at hx;obtain⟨m,hm,rfl⟩:=hx;obtain⟨m',hm',hnI,_,h0,tb,he,ht⟩:=r.live bb _ hb;obtain rfl:m=m':=Option.some.inj (hm.symm.trans hm');have htb:tb=⟨s.toArray⟩:=by cases tb;simp only[ByteArray.mk.injEq]at ht⊢;apply Array.ext';simpa using ht
 have hsz:tb.size=s.length:=by rw[htb];simp[ByteArray.size]
 have hget:(getObj m.blk).run E.P w = .ok (.stringIter tb pos) w:=by simp[getObj,Sem.run,he]
 rw[cond_eq_ite]at ha;split at ha
 ·rename_i hlt;simp only[Nat.blt_eq]at hlt;cases ha;have hblk:m.blk<w.heap.size:=(Array.getElem?_eq_some_iff.1 he).1;refine⟨.tuple #[.bool true,goInt pos,.int .i32 (Utf8.decode tb pos).1],{ w with heap:=w.heap.setIfInBounds m.blk (.stringIter tb (pos+(Utf8.decode tb pos).2)) },ρ,?_,?_,?_,Moves.same _ _ _⟩
  ·have hset:(setObj m.blk (.stringIter tb (pos+(Utf8.decode tb pos).2))).run E.P w = .ok () { w with heap:=w.heap.setIfInBounds m.blk (.stringIter tb (pos+(Utf8.decode tb pos).2)) }:=by
    simp[setObj,Sem.run,he]
   simp only[Instr.next,h0,Nat.zero_mul,Nat.add_zero,Sem.run_bind,hget,Result.andThen_ok];simp[hsz,hlt,hset]
  ·refine stepped_set r hb hm (by simp) ?_ rfl rfl rfl ?_
   ·intro c hc;show(w.heap.setIfInBounds _ _)[c]?=_;rw[Array.getElem?_setIfInBounds,if_neg (λh=>hc h.symm)]
   ·refine⟨h0,tb,?_,ht⟩;show(w.heap.setIfInBounds _ _)[_]?=_;rw[Array.getElem?_setIfInBounds,if_pos rfl,if_pos hblk,htb]
  ·simp only[VRel];exact⟨_,rfl,by simp only[VRels];exact⟨_,_,rfl,by simp[VRel],_,_,rfl,by simp[VRel,goInt],_,_,rfl,by simp[VRel,htb],rfl⟩⟩
 ·rename_i hlt;cases ha;have hlt:¬pos<s.length:=by simpa[Nat.blt_eq]using hlt
  refine Val.here (c:=.tuple #[.bool false]) r ?_ ?_
  ·simp only[Instr.next,h0,Nat.zero_mul,Nat.add_zero,Sem.run_bind,hget,Result.andThen_ok];simp[hsz,hlt]
  ·simp only[VRel];exact⟨_,rfl,by simp only[VRels];exact⟨_,_,rfl,by simp[VRel],rfl⟩⟩
end
end Go.Ax
/- AxAppZ: append of so many zero elements to nil (slices.Grow). -/
namespace Go.Ax
section
variable {E:Env}{I K:Nat→Prop}{ρ:PMap}{h:FHeap}{n:Nat}{w:World}
def aappendZ(E:Env)(n:Nat)(st xt:TypeId)(s x:AV):Option (AV×Eff):=match s,x with
 |.nilslice,.int _ l=>match E.und st,E.und xt with
  |some (.slice elem),some dx=>bif isIntDesc dx&&decide (0≤l)then match E.zero elem with
   |some z=>bif Nat.blt 0 (E.sz elem)then(match l.toNat with
    |0=>some (.nilslice,.none)
    |m+1=>bif roomOk E elem (m+1)then some (.slice n 0 (m+1) none,.new (.row (E.sz elem) (List.replicate (m+1) z)))else none)else none
   |none=>none
   else none
  |_,_=>none
 |_,_=>none
theorem aappendZ_no{st xt:TypeId}{s x:AV}{r:AV×Eff}(h:aappendZ E n st xt s x=some r)(n':Nat)(hp:FHeap):aappend E hp n' st xt s x=none:=by
 unfold aappendZ at h;split at h
 case h_2=>cases h
 split at h
 case h_2=>cases h
 rename_i elem dx hu hxt;rw[cond_eq_ite]at h;split at h
 case isFalse=>cases h
 rename_i hc;simp only[Bool.and_eq_true]at hc;unfold aappend;simp only[hu,hxt,hc.1,Bool.true_or,cond_true]
theorem aappendZ_ok(ok:EnvOk E)(r:HRel E.G I K ρ h w)(hn:h n=none)(hρ:ρ n=none){st xt:TypeId}{s x v:AV}{e:Eff}{cs cx:Value}(ty:TypeId)
 (ha:aappendZ E n st xt s x=some (v,e))(hs:VRel I w ρ s cs)(hx:VRel I w ρ x cx):Val E I K ρ h n w (Builtin.append_ #[st,xt] ty #[cs,cx]) v e:=by
 unfold aappendZ at ha;split at ha
 case h_2=>cases ha
 rename_i k l;split at ha
 case h_2=>cases ha
 rename_i elem dx hu hxt;rw[cond_eq_ite]at ha;split at ha
 case isFalse=>cases ha
 rename_i hc;simp only[Bool.and_eq_true,decide_eq_true_eq]at hc;obtain⟨hint,hl0⟩:=hc;split at ha
 case h_2=>cases ha
 rename_i z hz;rw[cond_eq_ite]at ha;split at ha
 case isFalse=>cases ha
 rename_i hsz;have hsz:0<E.sz elem:=by simpa[Nat.blt_eq]using hsz
 obtain⟨⟨de,hde⟩,i',z',hi',hz',hzl',hzr'⟩:=ok.zero elem z hz;have hzero:∀w',(zeroValue elem).run E.P w' = .ok z' w':=by intro w';simp[zeroValue,typeInfo,hi',hz']
 have hzlen:z'.cells.toList.length=E.sz elem:=by rw[←hzl',VRels.length (hzr' (λ_=>False) w)]
 obtain⟨i,hi,_,hib⟩:=run_info ok w hde;have hinfo:∀w',(typeInfo elem).run E.P w' = .ok i w':=by intro w';have:=hi;simp[typeInfo,hi']at this⊢;exact this
 obtain⟨ki,rfl⟩:∃ki,dx = .int ki:=by cases dx<;>simp[isIntDesc]at hint;exact⟨_,rfl⟩
 simp only[VRel]at hs hx;subst hs;subst hx;have hun:∀w',(underlying xt).run E.P w' = .ok (.int ki) w':=λw'=>run_und ok w' hxt;have huz:∀w',(underlying st).run E.P w' = .ok (.slice elem) w':=λw'=>run_und ok w' hu;have hsize:∀w',(sizeOf elem).run E.P w' = .ok (E.sz elem) w':=λw'=>run_sz ok w' hde;obtain⟨m0,rfl⟩:∃m0:Nat,l=m0:=⟨l.toNat,by omega⟩
 rw[Int.toNat_natCast]at ha;have hint:∀(q:Nat) w',(asInt (.int k (q:Int))).run E.P w' = .ok (q:Int) w':=λq w'=>rfl;cases m0 with
 |zero=>
  cases ha;refine Val.here (c:=.slice none 0 0) r ?_ (by simp[VRel]);have hw0:IntKind.i64.wrap ((0:Nat):Int)=0:=by rfl
  unfold Builtin.append_;simp only[List.getElem?_toArray,List.getElem?_cons_zero,List.getElem?_cons_succ,Sem.run_bind,huz,Result.andThen_ok,hsize,hun,Sem.run_pure,if_true,hint,hw0];simp[hinfo]
 |succ m=>
  dsimp only at ha;rw[cond_eq_ite]at ha;split at ha
  case isFalse=>cases ha
  rename_i hroom;cases ha;have hroom':=hroom;simp only[roomOk,Bool.and_eq_true,decide_eq_true_eq]at hroom;have hwr:IntKind.i64.wrap ((m+1:Nat):Int)=((m+1:Nat):Int):=wrap_small (by omega) (by omega);have hcap:=nextslicecap_le (need:=m+1) (old:=0) (by omega);have h48:¬(Builtin.nextslicecap (m+1) 0*i.bytes>2^48):=by rw[hib];have:Builtin.nextslicecap (m+1) 0*E.bytes elem≤(2*(m+1)+192)*E.bytes elem:=Nat.mul_le_mul_right _ hcap;rw[Nat.mul_comm (2*(m+1)+192)]at this;omega
  have hmul:(m+1)*E.bytes elem≤281474976710656:=by have:E.bytes elem*(m+1)≤E.bytes elem*(2*(m+1)+192):=Nat.mul_le_mul_left _ (by omega);rw[Nat.mul_comm];omega
  have h48':¬(((m+1:Nat):Int)*(i.bytes:Int)>2^48):=by
   rw[hib];have:((m+1:Nat):Int)*(E.bytes elem:Int)=(((m+1)*E.bytes elem:Nat):Int):=by simp
   rw[this];omega
  have hneg:¬(((m+1:Nat):Int)<0):=by omega
  have hmax:¬(((m+1:Nat):Int)>IntKind.i64.max):=by simp only[IntKind.max,IntKind.signed,IntKind.bits];simp;omega
  have hle:¬(m+1≤0):=by omega
  have hms:¬((m+1)*E.sz elem=0):=Nat.mul_ne_zero (by omega) (by omega);generalize hcap2:m+1+(w.tape w.drawn (.appendCap (m+1) 0 elem))%(2^63-(m+1))=newCap;have hold:∀w',(Builtin.firstCells (E.sz elem) 0 (.slice none 0 0)).run E.P w' = .ok #[] w':=λw'=>rfl;have hrun:(Builtin.append_ #[st,xt] ty #[.slice none 0 0,.int k ((m+1:Nat):Int)]).run E.P w =
   .ok (.slice (some ⟨w.heap.size,0,none⟩) (m+1) newCap) { w with drawn:=w.drawn+1,heap:=w.heap.push (.cells (Builtin.zeroCells z'.cells (m+1)++Builtin.zeroCells z'.cells (newCap-(m+1))) elem) }:=by
   unfold Builtin.append_;simp only[List.getElem?_toArray,List.getElem?_cons_zero,List.getElem?_cons_succ,Sem.run_bind,huz,Result.andThen_ok,hsize,hun,Sem.run_pure,if_true,hint,hwr,hneg,if_false,hinfo,h48'];have htn:((m+1:Nat):Int).toNat=m+1:=rfl;simp only[htn,Nat.zero_add,hle,if_false,Sem.run_bind,hinfo,Result.andThen_ok,hmax,false_and,h48,run_choose,run_askRoom,Question.forced,Question.cut,hold,Bool.not_true,Bool.false_eq_true,hms,hzero,run_newRow,Sem.run_pure];rw[hcap2];simp
  have hcapl:m+1≤newCap:=by omega
  have hzs:∀q:Nat,(Builtin.zeroCells z'.cells q).size=q*E.sz elem:=by
   intro q;rw[←Array.length_toList,zeroCells_list]
   induction q with
   |zero=>simp
   |succ q ih=>rw[List.replicate_succ,List.flatten_cons,List.length_append,ih,hzlen,Nat.succ_mul,Nat.add_comm]
  generalize hcells:Builtin.zeroCells z'.cells (m+1)++Builtin.zeroCells z'.cells (newCap-(m+1))=cells at hrun;have hcsize:cells.size=newCap*E.sz elem:=by
   subst hcells;rw[Array.size_append,hzs,hzs,←Nat.add_mul]
   congr 1;omega
  have hwm:∀c,I c→({ w with drawn:=w.drawn+1,heap:=w.heap.push (.cells cells elem) }:World).heap[c]?=w.heap[c]?:=by intro c hc;have:=r.imm c hc;show(w.heap.push _)[c]?=_;rw[Array.getElem?_push,if_neg (by omega)]
  have hnewb:({ w with drawn:=w.drawn+1,heap:=w.heap.push (.cells cells elem) }:World).heap[w.heap.size]?=some (.cells cells elem (0,0)):=by show(w.heap.push _)[_]?=_;simp
  have hset:=PMap.set_old (m:=⟨w.heap.size,0,E.sz elem,cells.size⟩) hρ;have hxk:∀x∈List.replicate (m+1) z,x.length=E.sz elem:=λx hx=>by rw[List.eq_of_mem_replicate hx];exact hzl'
  have ho:ORel E.G I { w with drawn:=w.drawn+1,heap:=w.heap.push (.cells cells elem) } (ρ.set n ⟨w.heap.size,0,E.sz elem,cells.size⟩) ⟨w.heap.size,0,E.sz elem,cells.size⟩ (.row (E.sz elem) (List.replicate (m+1) z)):=by
   refine⟨rfl,hsz,⟨cells,elem,hnewb,rfl,?_⟩,?_⟩
   ·show 0+(List.replicate (m+1) z).length*E.sz elem≤cells.size;rw[List.length_replicate,hcsize,Nat.zero_add];exact Nat.mul_le_mul_right _ hcapl
   ·rw[VRows.iff];refine⟨hxk,?_⟩;refine VAt.of_cells (cs:=(Builtin.zeroCells z'.cells (m+1)).toList) (CellsAt.of_heap hnewb (λj v hj=>?_)) ?_
    ·subst hcells;have hj':=(List.getElem?_eq_some_iff.1 hj).1;simp only[Array.length_toList]at hj';rw[Nat.zero_add,Array.getElem?_append_left hj',←Array.getElem?_toList];exact hj
    ·rw[zeroCells_list];exact VRels.flatten_replicate (VRels.noRef_any (hzr' I _)) _
  refine⟨_,_,ρ.set n ⟨w.heap.size,0,E.sz elem,cells.size⟩,hrun,?_,?_,Moves.set _ _ _ rfl⟩
  ·exact stepped_new (ob:=.cells cells elem) r hn hρ rfl rfl rfl rfl rfl ho
  ·simp only[VRel];refine⟨_,newCap,rfl,hcapl,(λq hq=>by cases hq),.inr ⟨_,by simp[PMap.set];rfl,by simp,?_⟩⟩;show 0+(0+newCap)*E.sz elem≤cells.size;rw[hcsize,Nat.zero_add,Nat.zero_add];exact Nat.le_refl _
end
end Go.Ax
/- AxAop: one operation that calls no function of the program, on abstract values; that the model does just that. -/
namespace Go.Ax
section
variable {E:Env}{I K:Nat→Prop}{ρ:PMap}{h:FHeap}{n:Nat}{w:World}
def apick(t:Bool)(a b:AV):AV:=
 match a,b with
 |.bool x,.bool y=>.bool (bif t then x else y)
 |a,b=>bif t then a else b
theorem apick_ok{t:Bool}{a b:AV}{ca cb:Value}(ha:VRel I w ρ a ca)(hb:VRel I w ρ b cb):VRel I w ρ (apick t a b) (if t then ca else cb):=by
 unfold apick;split
 ·simp only[VRel]at ha hb;subst ha hb;cases t<;>simp[VRel]
 ·cases t<;>simpa
def abytes:List (List AV)→Option (List UInt8)
 | []=>some []
 | [.int .u8 n]::r=>match abytes r with|some l=>some (UInt8.ofNat n.toNat::l)|none=>none
 |_::_=>none
def aconvH(E:Env)(h:FHeap)(src dst:TypeId)(x:AV):Option AV:=
 match E.und src,E.und dst,x with
 |some (.slice _),some .string,.str _=>none
 |some (.slice e),some .string,x=>match E.und e with
  |some (.int .u8)=>match arowsOf h 1 x with
   |some rows=>match abytes rows with
    |some l=>some (.str l)
    |none=>none
   |none=>none
  |_=>none
 |_,_,x=>aconv E src dst x
theorem abytes_run:∀{rows:List (List AV)} {l:List UInt8} {cv:List Value} (acc:ByteArray),abytes rows=some l→VRels I w ρ rows.flatten cv→
 ∃s:ByteArray,(∀msg:String,(forIn cv acc (λc s=>match c with
  |.int .u8 n=>pure (ForInStep.yield (s.push (UInt8.ofNat n.toNat)))
  |_=>do
   stuck msg
   pure (ForInStep.yield s):Value→ByteArray→Sem (ForInStep ByteArray))).run E.P w = .ok s w)∧s.data.toList=acc.data.toList++l
 | [],l,cv,acc,ha,hv=>by simp only[abytes,Option.some.injEq]at ha;subst ha;simp only[List.flatten_nil,VRels]at hv;subst hv;exact⟨acc,λ_=>by simp,by simp⟩
 |r::rows,l,cv,acc,ha,hv=>by
  unfold abytes at ha;split at ha
  ·rename_i h;cases h
  ·rename_i n r' he;cases he;split at ha
   case h_2=>cases ha
   rename_i l' hl;cases ha;simp only[List.flatten_cons,List.cons_append,List.nil_append,VRels]at hv;obtain⟨c,cs,rfl,hc,hcs⟩:=hv;simp only[VRel]at hc;subst hc;obtain⟨s,h1,h2⟩:=abytes_run (acc.push (UInt8.ofNat n.toNat)) hl hcs;refine⟨s,λmsg=>?_,?_⟩
   ·rw[List.forIn_cons];simp only[Sem.run_bind,Sem.run_pure,Result.andThen_ok];exact h1 msg
   ·rw[h2];simp
  ·cases ha
theorem aconvH_ok(ok:EnvOk E)(r:HRel E.G I K ρ h w){src dst:TypeId}{x v:AV}{c:Value}(hv:aconvH E h src dst x=some v)(hx:VRel I w ρ x c) :
 ∃d,(convert src dst c).run E.P w = .ok d w∧VRel I w ρ v d:=by
 unfold aconvH at hv;split at hv
 ·cases hv
 ·rename_i y e hs hd hns;split at hv
  case h_2=>cases hv
  rename_i he;split at hv
  case h_2=>cases hv
  rename_i rows hr;split at hv
  case h_2=>cases hv
  rename_i l hl;cases hv;obtain⟨hlen,⟨cv,hrun,hrel⟩,hk⟩:=arowsOf_run r hr hx;obtain⟨s,h1,h2⟩:=abytes_run (E:=E) (w:=w) .empty hl hrel;have hrun0:=hrun w ⟨rfl,rfl,rfl,rfl⟩;refine⟨.string s,?_,by simp only[VRel];exact⟨s,rfl,by simpa using h2⟩⟩;unfold arowsOf at hr;split at hr
  ·simp only[VRel]at hx;subst hx;cases hr;simp only[abytes,Option.some.injEq]at hl;subst hl;have:s = .empty:=by
    cases s;simp only[List.append_nil]at h2;have:=Array.toList_inj.1 h2;subst this;rfl
   subst this;simp[convert,run_und ok w hs,run_und ok w hd,run_und ok w he,Conv.bytesToString]
  ·simp only[VRel]at hx;obtain⟨a,cc,k,rfl,_⟩:=hx;rw[cond_eq_ite]at hr;split at hr
   case isFalse=>cases hr
   cases hr;simp only[Builtin.firstCells,Nat.mul_one]at hrun0;simp only[convert,Sem.run_bind,run_und ok w hs,run_und ok w hd,run_und ok w he,Result.andThen_ok,Conv.bytesToString,hrun0];rw[←Array.forIn_toList];exact(congrArg (λr=>r.andThen (λa w'=>(pure (Value.string a):Sem Value).run E.P w')) (h1 _)).trans rfl
  ·simp only[VRel]at hx;obtain⟨a,cc,rfl,_⟩:=hx;simp only[Builtin.lenOf,Sem.run_pure,Result.ok.injEq,and_true]at hlen;rw[←hlen]at hrun0;simp only[Builtin.firstCells,Nat.mul_one]at hrun0;simp only[convert,Sem.run_bind,run_und ok w hs,run_und ok w hd,run_und ok w he,Result.andThen_ok,Conv.bytesToString,hrun0];rw[←Array.forIn_toList];exact(congrArg (λr=>r.andThen (λa w'=>(pure (Value.string a):Sem Value).run E.P w')) (h1 _)).trans rfl
  ·exact absurd rfl (hns _)
  ·cases hr
 ·exact aconv_ok ok hv hx
def newMap(E:Env)(t:TypeId):AObj:=bif usetT E t then .uset []else .map [] [] [] 0
theorem newMap_ok(r:HRel E.G I K ρ h w)(hn:h n=none)(hρ:ρ n=none){t:TypeId}{s:Sem Value}
 (hs:s.run E.P w = .ok (.map (some w.heap.size)) { w with heap:=w.heap.push (.map #[] 0) }):Val E I K ρ h n w s (.map n) (.new (newMap E t)):=by
 unfold newMap;cases usetT E t with
 |false=>exact amap_ok r hn hρ hs
 |true=>refine⟨_,_,ρ.set n ⟨w.heap.size,0,0,0⟩,hs,?_,by simp only[VRel];exact⟨_,by simp[PMap.set];rfl,rfl⟩,Moves.set _ _ _ rfl⟩;refine stepped_new (ob:=.map #[] 0) r hn hρ rfl rfl rfl rfl rfl ?_;exact⟨#[],0,by simp,by simp,by simp,by simp,by simp,by simp⟩
def ablt(E:Env)(n:Nat)(h:FHeap)(b:Builtin)(ts:List TypeId)(args:List AV):Option (AV×Eff):=
 match b,ts,args with
 |.len,[t],[x]=>(alen E h t x).map (·,.none)
 |.cap,[t],[x]=>(acap E t x).map (·,.none)
 |.append,[st,xt],[s,x]=>oor (aappend E h n st xt s x) (aappendZ E n st xt s x)
 |.copy,[dt,_],[d,x]=>acopy E h dt d x
 |.clear,[t],[x]=>aclear E h t x
 |.delete,[t,_],[m,k]=>(adelS E h t m k).map (.tuple [],·)
 |.min,_,x::xs=>(amin x xs).map (·,.none)
 |.max,_,x::xs=>(amax x xs).map (·,.none)
 |_,_,_=>none
def aop(E:Env)(n:Nat)(h:FHeap)(op:Op)(v:Operand→AV):Option (AV×Eff):=
 match op with
 |.move x=>some (v x,.none)
 |.assign x=>some (v x,.none)
 |.pick c a b=>match v c with
  |.bool t=>some (apick t (v a) (v b),.none)
  |_=>none
 |.alloc t=>anew E n t
 |.box _ x=>abox n (v x)
 |.build t ps=>(abuild E t (ps.toList.map λp=>(p.1,v p.2))).map (·,.none)
 |.buildSlice t len ps=>abuildSlice E n t len (ps.toList.map λp=>(p.1,v p.2))
 |.load t a=>(aload E h t (v a)).map (·,.none)
 |.store t a x=>(astore E h t (v a) (v x)).map (.tuple [],·)
 |.nilCheck x=>match v x with
  |.ptr b i o=>some (.ptr b i o,.none)
  |.iptr cs=>some (.iptr cs,.none)
  |.func (.func f) fs cs=>some (.func (.func f) fs cs,.none)
  |_=>none
 |.binOp op t x y _=>(abin E op t (v x) (v y) (isConstOp x||isConstOp y)).map (·,.none)
 |.unOp op _ x=>(aun op (v x)).map (·,.none)
 |.convert s d x=>(aconvH E h s d (v x)).map (·,.none)
 |.makeInterface t x=>match E.und t with
  |some (.interface _)=>none
  |some _=>some (.iface t (v x),.none)
  |none=>none
 |.makeFunc fn first cap=>some (.func fn (first.toList.map v) (cap.toList.map v),.none)
 |.makeMap t r=>match r with
  |none=>some (.map n,.new (newMap E t))
  |some x=>match E.und t,v x with
   |some (.map _ _),.int _ _=>some (.map n,.new (newMap E t))
   |_,_=>none
 |.makeSlice t l c=>amakeSlice E n t (v l) (v c)
 |.slice t x lo hi mx=>(aslice E h t (v x) (lo.map v) (hi.map v) (mx.map v)).map (·,.none)
 |.fieldAddr s x f=>(afieldAddr E s (v x) f).map (·,.none)
 |.field t x f=>(afield E t (v x) f).map (·,.none)
 |.indexAddr t x ix=>(aindexAddr E h t (v x) (v ix)).map (·,.none)
 |.index t x ix=>(aindex E t (v x) (v ix)).map (·,.none)
 |.lookup t x k ok=>(oor (alookup E h t (v x) (v k) ok) (alookS E h t (v x) (v k) ok)).map (·,.none)
 |.mapUpdate t m k x=>(oor (amapUpdate E h t (v m) (v k) (v x)) (aupdS E h t (v m) (v k) (v x))).map (.tuple [],·)
 |.insert t m k x=>(oor (amapUpdate E h t (v m) (v k) (v x)) (aupdS E h t (v m) (v k) (v x))).map (.tuple [],·)
 |.mapEntry t m k=>amapEntry E h t (v m) (v k)
 |.entryStore _ m s x=>(aentryStore h (v m) (v s) (v x)).map (.tuple [],·)
 |.extract t i=>match v t with
  |.tuple vs=>match vs[i]? with
   |some x=>some (x,.none)
   |none=>none
  |_=>none
 |.range t x=>oor (arange E n t (v x)) (arangeS E n t (v x))
 |.next it b=>anext h (v it) b
 |.entry it=>(aentryS h (v it)).map (·,.none)
 |.call { callee:=.builtin b,args,argTypes }=>ablt E n h b argTypes.toList (args.toList.map v)
 |_=>none
def OpOk(E:Env)(I K:Nat→Prop)(ρ:PMap)(h:FHeap)(n:Nat)(a:Act)(w:World)(o:Oper)(v:AV)(e:Eff):Prop:=∃x w' c ρ',(execOp a.eval o).run E.P w = .ok x w'∧(x = .value c∨(x = .skip∧c=undef))∧Stepped E.G I K ρ w I ρ' (h.eff n e) w'∧VRel I w' ρ' v c∧Moves ρ ρ' n e
theorem OpOk.val{a:Act}{o:Oper}{v:AV}{e:Eff}{s:Sem Value}(hs:execOp a.eval o=(do pure (.value (←s))))(hv:Val E I K ρ h n w s v e):OpOk E I K ρ h n a w o v e:=by obtain⟨c,w',ρ',h1,h2,h3,h4⟩:=hv;exact⟨.value c,w',c,ρ',by rw[hs];simp[h1],.inl rfl,h2,h3,h4⟩
theorem OpOk.done{a:Act}{o:Oper}{e:Eff}{s:Sem Unit}(hs:execOp a.eval o=(do s;pure .skip))(hv:Done E I K ρ h n w s e):OpOk E I K ρ h n a w o (.tuple []) e:=by obtain⟨w',ρ',h1,h2,h4⟩:=hv;exact⟨.skip,w',undef,ρ',by rw[hs];simp[h1],.inr ⟨rfl,rfl⟩,h2,by simp only[VRel,undef];exact⟨#[],rfl,by simp[VRels]⟩,h4⟩
theorem map_some_inv{α β:Type}{x:Option α}{f:α→β}{y:β}(h:x.map f=some y):∃a,x=some a∧f a=y:=by
 cases x with
 |none=>cases h
 |some a=>simp only[Option.map_some,Option.some.injEq]at h;exact⟨a,rfl,h⟩
theorem vrels_map{a:Act}{v:Operand→AV}(hv:∀x,VRel I w ρ (v x) (a.eval x)):∀l:List Operand,VRels I w ρ (l.map v) (l.map a.eval)
 | []=>by simp[VRels]
 |x::l=>by simp only[List.map_cons,VRels];exact⟨_,_,rfl,hv x,vrels_map hv l⟩
theorem parts_map{a:Act}{v:Operand→AV}(hv:∀x,VRel I w ρ (v x) (a.eval x)):∀l:List (Nat×Operand),PartsRel I w ρ (l.map λp=>(p.1,v p.2)) (l.map λp=>(p.1,a.eval p.2))
 | []=>by simp[PartsRel]
 |x::l=>by simp only[List.map_cons,PartsRel];exact⟨_,_,rfl,hv x.2,parts_map hv l⟩
theorem optrel_map{a:Act}{v:Operand→AV}(hv:∀x,VRel I w ρ (v x) (a.eval x))(x:Option Operand):OptRel I w ρ (x.map v) (x.map a.eval):=by
 cases x with
 |none=>simp[OptRel]
 |some x=>simp only[Option.map_some,OptRel];exact⟨_,rfl,hv x⟩
theorem ablt_ok(ok:EnvOk E)(r:HRel E.G I K ρ h w)(hn:h n=none)(hρ:ρ n=none){b:Builtin}{ts:List TypeId}{args:List AV}{cargs:List Value}{v:AV}{e:Eff}(ty:TypeId)(cst:Array Bool)
 (ha:ablt E n h b ts args=some (v,e))(hv:VRels I w ρ args cargs):∃s:Sem Value,builtin b ts.toArray ty cst cargs.toArray=(do pure (.value (←s)))∧Val E I K ρ h n w s v e:=by
 unfold ablt at ha;split at ha
 ·simp only[VRels]at hv;obtain⟨c,_,rfl,hx,rfl⟩:=hv;obtain⟨a,h1,h2⟩:=map_some_inv ha;cases h2;exact⟨_,rfl,alen_ok ok r ty h1 hx⟩
 ·simp only[VRels]at hv;obtain⟨c,_,rfl,hx,rfl⟩:=hv;obtain⟨a,h1,h2⟩:=map_some_inv ha;cases h2;exact⟨_,rfl,acap_ok ok r ty h1 hx⟩
 ·simp only[VRels]at hv;obtain⟨c,_,rfl,hx,c2,_,rfl,hy,rfl⟩:=hv;refine⟨_,rfl,?_⟩;rcases oor_inv ha with ha|ha
  ·exact aappend_ok ok r hn hρ ty ha hx hy
  ·exact aappendZ_ok ok r hn hρ ty ha hx hy
 ·simp only[VRels]at hv;obtain⟨c,_,rfl,hx,c2,_,rfl,hy,rfl⟩:=hv;exact⟨_,rfl,acopy_ok ok r ty ha hx hy⟩
 ·simp only[VRels]at hv;obtain⟨c,_,rfl,hx,rfl⟩:=hv;exact⟨_,rfl,aclear_ok ok r ty ha hx⟩
 ·simp only[VRels]at hv;obtain⟨c,_,rfl,hx,c2,_,rfl,hy,rfl⟩:=hv;obtain⟨a,h1,h2⟩:=map_some_inv ha;cases h2;exact⟨_,rfl,adelS_ok ok r ty h1 hx hy⟩
 ·simp only[VRels]at hv;obtain⟨c,cs,rfl,hx,hxs⟩:=hv;obtain⟨a,h1,h2⟩:=map_some_inv ha;cases h2;obtain⟨d,h3,h4⟩:=amin_ok (E:=E) (w:=w) h1 hx hxs;exact⟨_,rfl,Val.here r (by simpa[Builtin.min_]using h3) h4⟩
 ·simp only[VRels]at hv;obtain⟨c,cs,rfl,hx,hxs⟩:=hv;obtain⟨a,h1,h2⟩:=map_some_inv ha;cases h2;obtain⟨d,h3,h4⟩:=amax_ok (E:=E) (w:=w) h1 hx hxs;exact⟨_,rfl,Val.here r (by simpa[Builtin.max_]using h3) h4⟩
 ·cases ha
set_option maxHeartbeats 4000000 in
theorem aop_ok(ok:EnvOk E)(r:HRel E.G I K ρ h w)(hn:h n=none)(hρ:ρ n=none){a:Act}{o:Oper}{v:Operand→AV}{x:AV}{e:Eff}(ha:aop E n h o.op v=some (x,e))
 (hv:∀x,VRel I w ρ (v x) (a.eval x)):OpOk E I K ρ h n a w o x e:=by
 obtain⟨dst,op,type,pos,after,guard⟩:=o;simp only at ha;unfold aop at ha;split at ha
 ·cases ha;exact⟨_,w,_,ρ,rfl,.inl rfl,Stepped.refl r,hv _,Moves.same _ _ _⟩
 ·cases ha;exact⟨_,w,_,ρ,rfl,.inl rfl,Stepped.refl r,hv _,Moves.same _ _ _⟩
 ·rename_i c p q;split at ha
  case h_2=>cases ha
  rename_i t hc;cases ha;have hcv:=hv c;rw[hc]at hcv;simp only[VRel]at hcv;refine⟨.value (if t then a.eval p else a.eval q),w,_,ρ,?_,.inl rfl,Stepped.refl r,apick_ok (hv p) (hv q),Moves.same _ _ _⟩;simp[execOp,hcv,asBool]
 ·exact OpOk.val rfl (anew_ok ok r hn hρ ha _)
 ·exact OpOk.val rfl (abox_ok r hn hρ ha (hv _))
 ·obtain⟨y,h1,h2⟩:=map_some_inv ha;cases h2;rename_i t ps;have:=abuild_ok (n:=n) ok r h1 (parts_map hv ps.toList);refine OpOk.val (s:=Instr.build t (ps.toList.map λp=>(p.1,a.eval p.2)).toArray) ?_ this;show(do pure (Next.value (←Instr.build t (ps.map λ(i,x)=>(i,a.eval x)))))=_
  congr 2
  apply Array.ext';simp
 ·rename_i t len ps;have:=abuildSlice_ok (n:=n) ok r hn hρ ha (parts_map hv ps.toList);refine OpOk.val (s:=Instr.buildSlice t len (ps.toList.map λp=>(p.1,a.eval p.2)).toArray) ?_ this;show(do pure (Next.value (←Instr.buildSlice t len (ps.map λ(i,x)=>(i,a.eval x)))))=_
  congr 2
  apply Array.ext';simp
 ·obtain⟨y,h1,h2⟩:=map_some_inv ha;cases h2;exact OpOk.val rfl (aload_ok ok r h1 (hv _))
 ·obtain⟨y,h1,h2⟩:=map_some_inv ha;cases h2;exact OpOk.done rfl (astore_ok ok r h1 (hv _) (hv _))
 ·rename_i y;have hy:=hv y;split at ha
  ·rename_i b i o hq;cases ha;rw[hq]at hy;have hy':=hy;simp only[VRel]at hy';obtain⟨m,hm,hc⟩:=hy';exact⟨.value (a.eval y),w,_,ρ,by simp[execOp,hc],.inl rfl,Stepped.refl r,hy,Moves.same _ _ _⟩
  ·rename_i cs hq;cases ha;rw[hq]at hy;have hy':=hy;simp only[VRel]at hy';obtain⟨b,off,hc,_⟩:=hy';exact⟨.value (a.eval y),w,_,ρ,by simp[execOp,hc],.inl rfl,Stepped.refl r,hy,Moves.same _ _ _⟩
  ·rename_i f fs cs hq;cases ha;rw[hq]at hy;have hy':=hy;simp only[VRel]at hy';obtain⟨fs',cs',hc,_⟩:=hy';exact⟨.value (a.eval y),w,_,ρ,by simp[execOp,hc],.inl rfl,Stepped.refl r,hy,Moves.same _ _ _⟩
  ·cases ha
 ·obtain⟨y,h1,h2⟩:=map_some_inv ha;cases h2;obtain⟨c,h3,h4⟩:=abin_ok (E:=E) (w:=w) ok h1 (hv _) (hv _);exact OpOk.val rfl (Val.here r h3 h4)
 ·obtain⟨y,h1,h2⟩:=map_some_inv ha;cases h2;obtain⟨c,h3,h4⟩:=aun_ok (E:=E) (w:=w) h1 (hv _);exact OpOk.val rfl (Val.here r h3 h4)
 ·obtain⟨y,h1,h2⟩:=map_some_inv ha;cases h2;obtain⟨c,h3,h4⟩:=aconvH_ok ok r h1 (hv _);exact OpOk.val rfl (Val.here r h3 h4)
 ·rename_i t y;split at ha
  ·cases ha
  ·rename_i d hne hd;cases ha;refine OpOk.val (s:=Instr.makeInterface t (a.eval y)) rfl (Val.here (c:=.iface t (a.eval y)) r ?_ (by simp only[VRel];exact⟨_,rfl,hv y⟩));simp only[Instr.makeInterface,Sem.run_bind,run_und ok w hd,Result.andThen_ok];cases d<;>first|rfl|(exact absurd rfl (hne _))
  ·cases ha
 ·rename_i fn first cap
  cases ha;refine OpOk.val (s:=Instr.makeFunc fn (first.map a.eval) (cap.map a.eval)) rfl (Val.here r rfl ?_);simp only[VRel];exact⟨_,_,rfl,by rw[Array.toList_map];exact vrels_map hv _,by rw[Array.toList_map];exact vrels_map hv _⟩
 ·rename_i t rr;split at ha
  ·cases ha;exact OpOk.val (s:=Instr.makeMap t none) rfl (newMap_ok r hn hρ (by simp[Instr.makeMap]))
  ·rename_i y;split at ha
   case h_2=>cases ha
   rename_i hd hy;cases ha;have hyv:=hv y;rw[hy]at hyv;simp only[VRel]at hyv;refine OpOk.val (s:=Instr.makeMap t (some (a.eval y))) rfl (newMap_ok r hn hρ ?_);simp[Instr.makeMap,run_und ok w hd,hyv,asInt,asIntOf]
 ·exact OpOk.val rfl (amakeSlice_ok ok r hn hρ ha (hv _) (hv _))
 ·obtain⟨y,h1,h2⟩:=map_some_inv ha;cases h2;exact OpOk.val rfl (aslice_ok ok r h1 (hv _) (optrel_map hv _) (optrel_map hv _) (optrel_map hv _))
 ·obtain⟨y,h1,h2⟩:=map_some_inv ha;cases h2;exact OpOk.val rfl (afieldAddr_ok ok r h1 (hv _))
 ·obtain⟨y,h1,h2⟩:=map_some_inv ha;cases h2;exact OpOk.val rfl (afield_ok ok r h1 (hv _))
 ·obtain⟨y,h1,h2⟩:=map_some_inv ha;cases h2;exact OpOk.val rfl (aindexAddr_ok ok r h1 (hv _) (hv _))
 ·obtain⟨y,h1,h2⟩:=map_some_inv ha;cases h2;exact OpOk.val rfl (aindex_ok ok r h1 (hv _) (hv _))
 ·obtain⟨y,h1,h2⟩:=map_some_inv ha;cases h2;rcases oor_inv h1 with h1|h1
  ·exact OpOk.val rfl (alookup_ok ok r h1 (hv _) (hv _))
  ·exact OpOk.val rfl (alookS_ok ok r h1 (hv _) (hv _))
 ·obtain⟨y,h1,h2⟩:=map_some_inv ha;cases h2;rcases oor_inv h1 with h1|h1
  ·exact OpOk.done rfl (amapUpdate_ok ok r h1 (hv _) (hv _) (hv _))
  ·exact OpOk.done rfl (aupdS_ok ok r h1 (hv _) (hv _) (hv _))
 ·obtain⟨y,h1,h2⟩:=map_some_inv ha;cases h2;rcases oor_inv h1 with h1|h1
  ·exact OpOk.done rfl (amapUpdate_ok ok r h1 (hv _) (hv _) (hv _))
  ·exact OpOk.done rfl (aupdS_ok ok r h1 (hv _) (hv _) (hv _))
 ·exact OpOk.val rfl (amapEntry_ok ok r ha (hv _) (hv _))
 ·obtain⟨y,h1,h2⟩:=map_some_inv ha;cases h2;exact OpOk.done rfl (aentryStore_ok r h1 (hv _) (hv _) (hv _))
 ·rename_i t i;split at ha
  case h_2=>cases ha
  rename_i vs ht;split at ha
  case h_2=>cases ha
  rename_i y hy;cases ha;have htv:=hv t;rw[ht]at htv;simp only[VRel]at htv;obtain⟨cs,hc,hcs⟩:=htv;obtain⟨c,hcc,hr⟩:=VRels.get i hcs hy;refine OpOk.val (s:=Instr.extract (a.eval t) i) rfl (Val.here (c:=c) r ?_ hr);have:cs[i]?=some c:=by simpa using hcc
  simp[Instr.extract,hc,this]
 ·rcases oor_inv ha with ha|ha
  ·exact OpOk.val rfl (arange_ok ok r hn hρ ha (hv _))
  ·exact OpOk.val rfl (arangeS_ok ok r hn hρ ha (hv _))
 ·exact OpOk.val rfl (anext_ok r type ha (hv _))
 ·obtain⟨y,h1,h2⟩:=map_some_inv ha;cases h2;exact OpOk.val rfl (aentryS_ok r h1 (hv _))
 ·rename_i b args ts;obtain⟨s,hs,hval⟩:=ablt_ok (E:=E) ok r hn hρ type (args.map λ|.const _=>true|_=>false) ha (vrels_map hv args.toList);refine OpOk.val ?_ hval;have ht:ts.toList.toArray=ts:=by apply Array.ext';simp
  rw[ht]at hs;rw[←hs];have hm:(args.toList.map a.eval).toArray=args.map a.eval:=by apply Array.ext';simp
  rw[hm];rfl
 ·cases ha
end
end Go.Ax
/- AxRen: block numbers that are renamed; what is frozen. -/
namespace Go.Ax
section
variable {G:GTab (List AV)}{I K:Nat→Prop}{ρ ρ':PMap}{h h':FHeap}{w:World}
theorem HRel.rename(r:HRel G I K ρ h w){π:Nat→Option Nat}(hπ:∀b b' m,π b=some b'→ρ b=some m→ρ' b'=some m)
 (hh:∀b' o',h' b'=some o'→∃b o,h b=some o∧π b=some b'∧o'=renObj π o)(hdom:∀b' m,ρ' b'=some m→m.blk<w.heap.size):HRel G I K ρ' h' w:={
 live b' o' hb':=by obtain⟨b,o,hb,hp,rfl⟩:=hh b' o' hb';obtain⟨m,h1,h2,h3,h4⟩:=r.live b o hb;exact⟨m,hπ b b' m hp h1,h2,h3,ORel.ren hπ o h4⟩
 inj b1 b2 m1 m2 h1 h2 hm1 hm2 he:=by obtain⟨o1,ho1⟩:=Option.isSome_iff_exists.1 h1;obtain⟨o2,ho2⟩:=Option.isSome_iff_exists.1 h2;obtain⟨c1,q1,hc1,hp1,_⟩:=hh b1 o1 ho1;obtain⟨c2,q2,hc2,hp2,_⟩:=hh b2 o2 ho2;obtain⟨n1,hn1,_⟩:=r.live c1 q1 hc1;obtain⟨n2,hn2,_⟩:=r.live c2 q2 hc2;have e1:=hπ c1 b1 n1 hp1 hn1;have e2:=hπ c2 b2 n2 hp2 hn2;rw[hm1]at e1;rw[hm2]at e2;cases e1;cases e2;have:=r.inj c1 c2 _ _ (by simp[hc1]) (by simp[hc2]) hn1 hn2 he;subst this;rw[hp1]at hp2;exact Option.some.inj hp2
 dom:=hdom
 imm:=r.imm
 kept:=r.kept
 apart:=r.apart
 glob:=r.glob}
theorem Ext.keepLess{K':Nat→Prop}{w w':World}(e:Ext I K w w')(hK:∀c,K' c→K c):Ext I K' w w':=⟨e.os,e.tape,e.output,e.size,λc hc=>e.keep c (hc.imp id (hK c))⟩
/-! ### freezing -/
def frzP(m:Nat)(top:Bool)(d:AV→Option AV)(b:Nat)(v:AV):Option AV:=bif Nat.blt b m then(bif top then some v else none)else d v
mutual
def frzV(m:Nat)(top:Bool)(d:AV→Option AV):AV→Option AV
 |.ptr b i o=>frzP m top d b (.ptr b i o)
 |.slice b off len cap=>frzP m top d b (.slice b off len cap)
 |.map b=>frzP m top d b (.map b)
 |.yfn b=>bif top&&Nat.blt b m then some (.yfn b)else none
 |.func fn fs cs=>match frzL m top d fs,frzL m top d cs with
  |some fs,some cs=>some (.func fn fs cs)
  |_,_=>none
 |.iface t x=>match frzV m top d x with
  |some x=>some (.iface t x)
  |none=>none
 |.agg cs=>match frzL m top d cs with
  |some cs=>some (.agg cs)
  |none=>none
 |.tuple cs=>match frzL m top d cs with
  |some cs=>some (.tuple cs)
  |none=>none
 |.iptr cs=>some (.iptr cs)
 |.islice rows cap=>some (.islice rows cap)
 |.imap ks vs bs clock=>some (.imap ks vs bs clock)
 |.iset ks=>some (.iset ks)
 |.junk=>some .junk
 |.bool b=>some (.bool b)
 |.int k n=>some (.int k n)
 |.str s=>some (.str s)
 |.nilptr=>some .nilptr
 |.nilslice=>some .nilslice
 |.nilmap=>some .nilmap
 |.nilfunc=>some .nilfunc
 |.nilifc=>some .nilifc
def frzL(m:Nat)(top:Bool)(d:AV→Option AV):List AV→Option (List AV)
 | []=>some []
 |v::vs=>match frzV m top d v,frzL m top d vs with
  |some v,some vs=>some (v::vs)
  |_,_=>none
end
def frzR(m:Nat)(d:AV→Option AV):List (List AV)→Option (List (List AV))
 | []=>some []
 |r::rs=>match frzL m false d r,frzR m d rs with
  |some r,some rs=>some (r::rs)
  |_,_=>none
def frzD(h:FHeap)(m:Nat):Nat→AV→Option AV
 |0,_=>none
 |n+1,.ptr b i o=>match h b with
  |some (.row _ rows)=>match rows[i]? with
   |some r=>match frzL m false (frzD h m n) (r.drop o)with
    |some cs=>some (.iptr cs)
    |none=>none
   |none=>none
  |_=>none
 |n+1,.slice b off len cap=>match h b with
  |some (.row _ rows)=>bif Nat.ble (off+len) rows.length then
   match frzR m (frzD h m n) ((rows.drop off).take len)with
   |some rs=>some (.islice rs cap)
   |none=>none
   else none
  |_=>none
 |n+1,.map b=>match h b with
  |some (.map ks vs bs cl)=>match frzL m false (frzD h m n) ks,frzL m false (frzD h m n) vs with
   |some ks,some vs=>some (.imap ks vs bs cl)
   |_,_=>none
  |some (.uset ks)=>some (.iset ks)
  |_=>none
 |_+1,_=>none
def Frozen(I:Nat→Prop)(ρ:PMap)(h:FHeap)(m:Nat):Nat→Prop:=λc=>I c∨∃b o p,m≤b∧h b=some o∧ρ b=some p∧p.blk=c
def Reads(I':Nat→Prop)(I:Nat→Prop)(w:World)(ρ:PMap)(m:Nat)(d:AV→Option AV):Prop:=∀b v v' c,(v = .map b∨(∃i o,v = .ptr b i o)∨∃off len cap,v = .slice b off len cap)→m≤b→d v=some v'→VRel I w ρ v c→VRel I' w noP v' c
def PMap.below(ρ:PMap)(m:Nat)(top:Bool):PMap:=λb=>if top=true∧b<m then ρ b else none
theorem noRef_up{I I':Nat→Prop}{w:World}{ρ:PMap}(_:∀c,I c→I' c){v:AV}{c:Value}(h:VRel I' w noP v c):VRel I' w ρ v c:=VRel.mono (λ_ h=>h) (λ_ _=>rfl) v (λ_ _ h=>by simp[noP]at h) h
variable {I':Nat→Prop}{m:Nat}{top:Bool}{d:AV→Option AV}
mutual
theorem frzV_ok(hI:∀c,I c→I' c)(hd:Reads I' I w ρ m d):∀(v:AV) {v':AV} {c:Value},frzV m top d v=some v'→VRel I w ρ v c→VRel I' w (ρ.below m top) v' c
 |.ptr b i o,v',c,hf,hv=>by
  simp only[frzV,frzP]at hf;rw[cond_eq_ite]at hf;split at hf
  ·rename_i hb;rw[cond_eq_ite]at hf;split at hf
   case isFalse=>cases hf
   rename_i ht;cases hf;simp only[VRel]at hv⊢;obtain⟨p,hp,rfl⟩:=hv;exact⟨p,by simp only[PMap.below];rw[if_pos ⟨ht,by simpa[Nat.blt_eq]using hb⟩];exact hp,rfl⟩
  ·rename_i hb;exact noRef_up (I:=I) hI (hd b _ _ _ (.inr (.inl ⟨i,o,rfl⟩)) (by simpa[Nat.blt_eq]using hb) hf hv)
 |.slice b off len cap,v',c,hf,hv=>by
  simp only[frzV,frzP]at hf;rw[cond_eq_ite]at hf;split at hf
  ·rename_i hb;rw[cond_eq_ite]at hf;split at hf
   case isFalse=>cases hf
   rename_i ht;cases hf;simp only[VRel]at hv⊢;obtain⟨a,cc,rfl,h1,h2,h3⟩:=hv;refine⟨a,cc,rfl,h1,h2,h3.imp id ?_⟩
   rintro⟨p,hp,rfl,hr⟩
   exact⟨p,by simp only[PMap.below];rw[if_pos ⟨ht,by simpa[Nat.blt_eq]using hb⟩];exact hp,rfl,hr⟩
  ·rename_i hb;exact noRef_up (I:=I) hI (hd b _ _ _ (.inr (.inr ⟨off,len,cap,rfl⟩)) (by simpa[Nat.blt_eq]using hb) hf hv)
 |.map b,v',c,hf,hv=>by
  simp only[frzV,frzP]at hf;rw[cond_eq_ite]at hf;split at hf
  ·rename_i hb;rw[cond_eq_ite]at hf;split at hf
   case isFalse=>cases hf
   rename_i ht;cases hf;simp only[VRel]at hv⊢;obtain⟨p,hp,rfl⟩:=hv;exact⟨p,by simp only[PMap.below];rw[if_pos ⟨ht,by simpa[Nat.blt_eq]using hb⟩];exact hp,rfl⟩
  ·rename_i hb;exact noRef_up (I:=I) hI (hd b _ _ _ (.inl rfl) (by simpa[Nat.blt_eq]using hb) hf hv)
 |.yfn b,v',c,hf,hv=>by
  simp only[frzV]at hf;rw[cond_eq_ite]at hf;split at hf
  case isFalse=>cases hf
  rename_i hb;cases hf;simp only[Bool.and_eq_true,Nat.blt_eq]at hb;simp only[VRel]at hv⊢;obtain⟨p,hp,rfl⟩:=hv;exact⟨p,by simp only[PMap.below];rw[if_pos hb];exact hp,rfl⟩
 |.func fn fs cs,v',c,hf,hv=>by
  simp only[frzV]at hf;split at hf
  case h_2=>cases hf
  rename_i fs' cs' h1 h2;cases hf;simp only[VRel]at hv⊢;obtain⟨a,b,rfl,h3,h4⟩:=hv;exact⟨a,b,rfl,frzL_ok hI hd fs h1 h3,frzL_ok hI hd cs h2 h4⟩
 |.iface t x,v',c,hf,hv=>by
  simp only[frzV]at hf;split at hf
  case h_2=>cases hf
  rename_i x' h1;cases hf;simp only[VRel]at hv⊢;obtain⟨a,rfl,h3⟩:=hv;exact⟨a,rfl,frzV_ok hI hd x h1 h3⟩
 |.agg cs,v',c,hf,hv=>by
  simp only[frzV]at hf;split at hf
  case h_2=>cases hf
  rename_i cs' h1;cases hf;simp only[VRel]at hv⊢;obtain⟨a,rfl,h3⟩:=hv;exact⟨a,rfl,frzL_ok hI hd cs h1 h3⟩
 |.tuple cs,v',c,hf,hv=>by
  simp only[frzV]at hf;split at hf
  case h_2=>cases hf
  rename_i cs' h1;cases hf;simp only[VRel]at hv⊢;obtain⟨a,rfl,h3⟩:=hv;exact⟨a,rfl,frzL_ok hI hd cs h1 h3⟩
 |.iptr cs,v',c,hf,hv=>by simp only[frzV,Option.some.injEq]at hf;subst hf;exact noRef_up (I:=I) hI (VRel.mono (ρ:=noP) (ρ':=noP) hI (λ_ _=>rfl) _ (λ_ _ h=>h) (by simpa only[VRel]using hv))
 |.islice rows cap,v',c,hf,hv=>by simp only[frzV,Option.some.injEq]at hf;subst hf;exact noRef_up (I:=I) hI (VRel.mono (ρ:=noP) (ρ':=noP) hI (λ_ _=>rfl) _ (λ_ _ h=>h) (by simpa only[VRel]using hv))
 |.imap ks vs bs clock,v',c,hf,hv=>by simp only[frzV,Option.some.injEq]at hf;subst hf;exact noRef_up (I:=I) hI (VRel.mono (ρ:=noP) (ρ':=noP) hI (λ_ _=>rfl) _ (λ_ _ h=>h) (by simpa only[VRel]using hv))
 |.iset ks,v',c,hf,hv=>by simp only[frzV,Option.some.injEq]at hf;subst hf;exact noRef_up (I:=I) hI (VRel.mono (ρ:=noP) (ρ':=noP) hI (λ_ _=>rfl) _ (λ_ _ h=>h) (by simpa only[VRel]using hv))
 |.junk,v',c,hf,hv=>by simp only[frzV,Option.some.injEq]at hf;subst hf;simp[VRel]
 |.bool b,v',c,hf,hv=>by simp only[frzV,Option.some.injEq]at hf;subst hf;simpa[VRel]using hv
 |.int k n,v',c,hf,hv=>by simp only[frzV,Option.some.injEq]at hf;subst hf;simpa[VRel]using hv
 |.str s,v',c,hf,hv=>by simp only[frzV,Option.some.injEq]at hf;subst hf;simpa[VRel]using hv
 |.nilptr,v',c,hf,hv=>by simp only[frzV,Option.some.injEq]at hf;subst hf;simpa[VRel]using hv
 |.nilslice,v',c,hf,hv=>by simp only[frzV,Option.some.injEq]at hf;subst hf;simpa[VRel]using hv
 |.nilmap,v',c,hf,hv=>by simp only[frzV,Option.some.injEq]at hf;subst hf;simpa[VRel]using hv
 |.nilfunc,v',c,hf,hv=>by simp only[frzV,Option.some.injEq]at hf;subst hf;simpa[VRel]using hv
 |.nilifc,v',c,hf,hv=>by simp only[frzV,Option.some.injEq]at hf;subst hf;simpa[VRel]using hv
theorem frzL_ok(hI:∀c,I c→I' c)(hd:Reads I' I w ρ m d):∀(vs:List AV) {vs':List AV} {cs:List Value},frzL m top d vs=some vs'→VRels I w ρ vs cs→VRels I' w (ρ.below m top) vs' cs
 | [],vs',cs,hf,hv=>by simp only[frzL,Option.some.injEq]at hf;subst hf;simpa[VRels]using hv
 |v::vs,vs',cs,hf,hv=>by
  simp only[frzL]at hf;split at hf
  case h_2=>cases hf
  rename_i v1 vs1 h1 h2;cases hf;simp only[VRels]at hv⊢;obtain⟨c,cs',rfl,h3,h4⟩:=hv;exact⟨c,cs',rfl,frzV_ok hI hd v h1 h3,frzL_ok hI hd vs h2 h4⟩
end
theorem below_false(ρ:PMap)(m:Nat):ρ.below m false=noP:=by funext b;simp[PMap.below,noP]
theorem frzL_at(hI:∀c,I c→I' c)(hd:Reads I' I w ρ m d):∀(vs:List AV) {vs':List AV} {b off:Nat},frzL m false d vs=some vs'→VAt I w ρ vs b off→VAt I' w noP vs' b off
 | [],vs',b,off,hf,_=>by simp only[frzL,Option.some.injEq]at hf;subst hf;simp[VAt]
 |v::vs,vs',b,off,hf,hv=>by
  simp only[frzL]at hf;split at hf
  case h_2=>cases hf
  rename_i v1 vs1 h1 h2;cases hf;simp only[VAt]at hv⊢;obtain⟨⟨c,hc,h3⟩,h4⟩:=hv;have:=frzV_ok hI hd v h1 h3;rw[below_false]at this;exact⟨⟨c,hc,this⟩,frzL_at hI hd vs h2 h4⟩
theorem frzL_length{m:Nat}{top:Bool}{d:AV→Option AV}:∀{vs vs':List AV},frzL m top d vs=some vs'→vs'.length=vs.length
 | [],vs',hf=>by simp only[frzL,Option.some.injEq]at hf;subst hf;rfl
 |v::vs,vs',hf=>by
  simp only[frzL]at hf;split at hf
  case h_2=>cases hf
  rename_i v1 vs1 h1 h2;cases hf;simp[frzL_length h2]
theorem frzR_at{k:Nat}(hI:∀c,I c→I' c)(hd:Reads I' I w ρ m d):∀(rs:List (List AV)) {rs':List (List AV)} {b off:Nat},frzR m d rs=some rs'→VRows I w k ρ rs b off→VRows I' w k noP rs' b off
 | [],rs',b,off,hf,_=>by simp only[frzR,Option.some.injEq]at hf;subst hf;simp[VRows]
 |r::rs,rs',b,off,hf,hv=>by
  simp only[frzR]at hf;split at hf
  case h_2=>cases hf
  rename_i v1 vs1 h1 h2;cases hf;simp only[VRows]at hv⊢;obtain⟨h3,h4,h5⟩:=hv;exact⟨by rw[frzL_length h1];exact h3,frzL_at hI hd r h1 h4,frzR_at hI hd rs h2 h5⟩
def frzT(m:Nat)(d:AV→Option AV):List (List AV)→Option (List (List AV))
 | []=>some []
 |r::rs=>match frzL m true d r,frzT m d rs with
  |some r',some rs'=>some (r'::rs')
  |_,_=>none
theorem frzL_atT(hI:∀c,I c→I' c)(hd:Reads I' I w ρ m d):∀(vs:List AV) {vs':List AV} {b off:Nat},frzL m true d vs=some vs'→VAt I w ρ vs b off→VAt I' w (ρ.below m true) vs' b off
 | [],vs',b,off,hf,_=>by simp only[frzL,Option.some.injEq]at hf;subst hf;simp[VAt]
 |v::vs,vs',b,off,hf,hv=>by
  simp only[frzL]at hf;split at hf
  case h_2=>cases hf
  rename_i v1 vs1 h1 h2;cases hf;simp only[VAt]at hv⊢;obtain⟨⟨c,hc,h3⟩,h4⟩:=hv;exact⟨⟨c,hc,frzV_ok hI hd v h1 h3⟩,frzL_atT hI hd vs h2 h4⟩
theorem frzT_at{k:Nat}(hI:∀c,I c→I' c)(hd:Reads I' I w ρ m d):∀(rs:List (List AV)) {rs':List (List AV)} {b off:Nat},frzT m d rs=some rs'→VRows I w k ρ rs b off→VRows I' w k (ρ.below m true) rs' b off
 | [],rs',b,off,hf,_=>by simp only[frzT,Option.some.injEq]at hf;subst hf;simp[VRows]
 |r::rs,rs',b,off,hf,hv=>by
  simp only[frzT]at hf;split at hf
  case h_2=>cases hf
  rename_i v1 vs1 h1 h2;cases hf;simp only[VRows]at hv⊢;obtain⟨h3,h4,h5⟩:=hv;exact⟨by rw[frzL_length h1];exact h3,frzL_atT hI hd r h1 h4,frzT_at hI hd rs h2 h5⟩
theorem frzT_length{m:Nat}{d:AV→Option AV}:∀{rs rs':List (List AV)},frzT m d rs=some rs'→rs'.length=rs.length
 | [],rs',hf=>by simp only[frzT,Option.some.injEq]at hf;subst hf;rfl
 |r::rs,rs',hf=>by
  simp only[frzT]at hf;split at hf
  case h_2=>cases hf
  rename_i v1 vs1 h1 h2;cases hf;simp[frzT_length h2]
theorem frzR_length{m:Nat}{d:AV→Option AV}:∀{rs rs':List (List AV)},frzR m d rs=some rs'→rs'.length=rs.length
 | [],rs',hf=>by simp only[frzR,Option.some.injEq]at hf;subst hf;rfl
 |r::rs,rs',hf=>by
  simp only[frzR]at hf;split at hf
  case h_2=>cases hf
  rename_i v1 vs1 h1 h2;cases hf;simp[frzR_length h2]
end
end Go.Ax
/- AxFrz: a result that is frozen, with the heap that is left. -/
namespace Go.Ax
section
variable {G:GTab (List AV)}{I K:Nat→Prop}{ρ:PMap}{h:FHeap}{w:World}{m:Nat}
theorem frzD_reads(r:HRel G I K ρ h w):∀n,Reads (Frozen I ρ h m) I w ρ m (frzD h m n)
 |0=>by intro b v v' c _ _ hd _;simp[frzD]at hd
 |n+1=>by
  have ih:=frzD_reads r n;have hI:∀c,I c→Frozen I ρ h m c:=λc hc=>.inl hc;intro b v v' c hv hb hd hr;rcases hv with rfl|⟨i,o,rfl⟩|⟨off,len,cap,rfl⟩
  ·simp only[frzD]at hd;split at hd
   case h_3=>cases hd
   case h_2=>rename_i ks hhb;cases hd;simp only[VRel]at hr⊢;obtain⟨p,hp,rfl⟩:=hr;obtain⟨p',hp',_,_,es,cl,he,hs⟩:=r.live b _ hhb;obtain rfl:p=p':=Option.some.inj (hp.symm.trans hp');exact⟨p.blk,es,cl,rfl,.inr ⟨b,_,p,hb,hhb,hp,rfl⟩,he,hs⟩
   rename_i ks vs bs cl hhb;split at hd
   case h_2=>cases hd
   rename_i ks' vs' h1 h2;cases hd;simp only[VRel]at hr⊢;obtain⟨p,hp,rfl⟩:=hr;obtain⟨p',hp',_,_,es,he,hk,hvv,hbs⟩:=r.live b _ hhb;obtain rfl:p=p':=Option.some.inj (hp.symm.trans hp');have e1:=frzL_ok hI ih ks h1 hk;have e2:=frzL_ok hI ih vs h2 hvv;rw[below_false]at e1 e2;exact⟨p.blk,es,rfl,.inr ⟨b,_,p,hb,hhb,hp,rfl⟩,he,e1,e2,hbs⟩
  ·simp only[frzD]at hd;split at hd
   case h_2=>cases hd
   rename_i k rows hhb;split at hd
   case h_2=>cases hd
   rename_i rr hrr;split at hd
   case h_2=>cases hd
   rename_i cs h1;cases hd;simp only[VRel]at hr⊢;obtain⟨p,hp,rfl⟩:=hr;obtain⟨p',hp',_,_,hk,_,_,hrows⟩:=r.live b _ hhb;obtain rfl:p=p':=Option.some.inj (hp.symm.trans hp');obtain⟨hlen,hat⟩:=VRows.get i hrows hrr;have hat':VAt I w ρ (rr.drop o) p.blk (p.off+i*k+o):=by
    by_cases ho:o≤rr.length
    ·exact VAt.drop o ho hat
    ·rw[List.drop_eq_nil_of_le (by omega)];simp[VAt]
   rw[hk];exact⟨p.blk,_,rfl,.inr ⟨b,_,p,hb,hhb,hp,rfl⟩,frzL_at hI ih _ h1 hat'⟩
  ·simp only[frzD]at hd;split at hd
   case h_2=>cases hd
   rename_i k rows hhb;rw[cond_eq_ite]at hd;split at hd
   case isFalse=>cases hd
   rename_i hfit;rw[Nat.ble_eq]at hfit;split at hd
   case h_2=>cases hd
   rename_i rs h1;cases hd;have hlen:rs.length=len:=by rw[frzR_length h1];simp;omega
   simp only[VRel]at hr⊢;obtain⟨a,cc,rfl,hle,hcap,hor⟩:=hr;obtain⟨p',hp',_,_,hk,_,_,hrows⟩:=r.live b _ hhb;refine⟨a,cc,k,by rw[hlen],by rw[hlen];exact hle,hcap,?_⟩;rcases hor with rfl|⟨p,hp,rfl,_⟩
   ·left;exact List.length_eq_zero_iff.1 (by omega)
   ·right;obtain rfl:p=p':=Option.some.inj (hp.symm.trans hp');refine⟨rfl,.inr ⟨b,_,p,hb,hhb,hp,rfl⟩,?_⟩;have:=frzR_at hI ih _ h1 (VRows.take len (VRows.drop off (by omega) hrows));rw[hk];exact this
theorem HRel.grow{I':Nat→Prop}(r:HRel G I K ρ h w)(hI:∀c,I c→I' c)(hlive:∀b o m,h b=some o→ρ b=some m→¬I' m.blk)(hK:∀c,I' c→¬K c)(hsz:∀c,I' c→c<w.heap.size) :
 HRel G I' K ρ h w:={
 live b o hb:=by obtain⟨m,h1,h2,h3,h4⟩:=r.live b o hb;exact⟨m,h1,hlive b o m hb h1,h3,ORel.mono o hI (λ_ _=>rfl) (λ_ _ h=>h) rfl h4⟩
 inj:=r.inj
 dom:=r.dom
 imm:=hsz
 kept:=r.kept
 apart:=hK
 glob g cs hg:=⟨hI _ (r.glob g cs hg).1,GAt.mono hI (λ_ _=>rfl) cs (λ_ _ h=>h) rfl (r.glob g cs hg).2⟩}
def piBelow(m:Nat):Nat→Option Nat:=λb=>bif Nat.blt b m then some b else none
theorem frozen_ok(r:HRel G I K ρ h w){n:Nat}{v v':AV}{c:Value}(hf:frzV m true (frzD h m n) v=some v')(hv:VRel I w ρ v c){h':FHeap}
 (hh:∀b o',h' b=some o'→∃o,b<m∧h b=some o∧o'=renObj (piBelow m) o) :
 HRel G (Frozen I ρ h m) K (ρ.below m true) h' w∧VRel (Frozen I ρ h m) w (ρ.below m true) v' c:=by
 have hI:∀c,I c→Frozen I ρ h m c:=λc hc=>.inl hc;refine⟨?_,frzV_ok hI (frzD_reads r n) v hf hv⟩;have r0:HRel G I K ρ (λb=>if b<m then h b else none) w:=r.fewer (λb o hb=>by
  split at hb
  ·exact hb
  ·cases hb)
 have r1:HRel G (Frozen I ρ h m) K ρ (λb=>if b<m then h b else none) w:=by
  refine r0.grow hI ?_ ?_ ?_
  ·intro b o p hb hp;split at hb
   case isFalse=>cases hb
   rename_i hlt;obtain⟨p',hp',hnI,_,_⟩:=r.live b o hb;obtain rfl:p=p':=Option.some.inj (hp.symm.trans hp')
   rintro(hc|⟨b',o',q,hb',ho',hq,he⟩)
   ·exact hnI hc
   ·have:=r.inj b b' p q (by simp[hb]) (by simp[ho']) hp hq he.symm;omega
  ·rintro c (hc|⟨b',o',q,hb',ho',hq,rfl⟩)
   ·exact r.apart c hc
   ·obtain⟨q',hq',_,hnK,_⟩:=r.live b' o' ho';obtain rfl:q=q':=Option.some.inj (hq.symm.trans hq');exact hnK
  ·rintro c (hc|⟨b',o',q,hb',ho',hq,rfl⟩)
   ·exact r.imm c hc
   ·exact r.dom b' q hq
 refine r1.rename (π:=piBelow m) ?_ ?_ ?_
 ·intro b b' p hp hb;simp only[piBelow]at hp;rw[cond_eq_ite]at hp;split at hp
  case isFalse=>cases hp
  rename_i hlt;cases hp;simp only[PMap.below];rw[if_pos ⟨trivial,by simpa[Nat.blt_eq]using hlt⟩];exact hb
 ·intro b o' hb;obtain⟨o,hlt,ho,rfl⟩:=hh b o' hb;refine⟨b,o,by rw[if_pos hlt];exact ho,?_,rfl⟩;simp only[piBelow];rw[cond_eq_ite,if_pos (by simpa[Nat.blt_eq]using hlt)]
 ·intro b p hb;simp only[PMap.below]at hb;split at hb
  ·exact r.dom b p hb
  ·cases hb
def deepO(m:Nat)(d:AV→Option AV):AObj→AObj
 |.row k rows=>match frzT m d rows with
  |some rows'=>.row k rows'
  |none=>renObj (piBelow m) (.row k rows)
 |o=>renObj (piBelow m) o
theorem deepO_or(m:Nat)(d:AV→Option AV)(o:AObj):deepO m d o=renObj (piBelow m) o∨∃k rows rows',o = .row k rows∧frzT m d rows=some rows'∧deepO m d o = .row k rows':=by
 cases o with
 |row k rows=>
  cases hf:frzT m d rows with
  |none=>left;simp[deepO,hf]
  |some rows'=>right;exact⟨k,rows,rows',rfl,hf,by simp[deepO,hf]⟩
 |_=>left;rfl
theorem frozen_deep(r:HRel G I K ρ h w){n:Nat}{h':FHeap}(hh:∀b o',h' b=some o'→∃o,b<m∧h b=some o∧o'=deepO m (frzD h m n) o) :
 HRel G (Frozen I ρ h m) K (ρ.below m true) h' w:=by
 have hI:∀c,I c→Frozen I ρ h m c:=λc hc=>.inl hc;have h1:=(frozen_ok (h':=λb=>if b<m then(h b).map (renObj (piBelow m))else none) r (v:=.junk) (v':=.junk) (c:=.nilFunc) (n:=n) (m:=m) rfl (by simp[VRel]) (λb o' hb=>by
  split at hb
  case isFalse=>cases hb
  rename_i hlt;cases hx:h b with
  |none=>rw[hx]at hb;cases hb
  |some o=>rw[hx]at hb;cases hb;exact⟨o,hlt,rfl,rfl⟩)).1
 have low:∀b,(h' b).isSome→(if b<m then(h b).map (renObj (piBelow m))else none).isSome:=by intro b hb;obtain⟨o',ho⟩:=Option.isSome_iff_exists.1 hb;obtain⟨o,hlt,hx,_⟩:=hh b o' ho;rw[if_pos hlt,hx];rfl
 refine⟨?_,λb b' p p' hb hb'=>h1.inj b b' p p' (low b hb) (low b' hb'),h1.dom,h1.imm,h1.kept,h1.apart,h1.glob⟩;intro b o' hb;obtain⟨o,hlt,hx,rfl⟩:=hh b o' hb;obtain⟨p,hp,hnF,hnK,hO⟩:=h1.live b (renObj (piBelow m) o) (by simp only[if_pos hlt,hx,Option.map_some]);refine⟨p,hp,hnF,hnK,?_⟩;rcases deepO_or m (frzD h m n) o with e|⟨k,rows,rows',rfl,hf,e⟩
 ·rw[e];exact hO
 ·rw[e];obtain⟨p',hp',_,_,hk,hk0,⟨arr,el,ha1,ha2,ha3⟩,hrows⟩:=r.live b _ hx;have hpb:ρ b=some p:=by
   simp only[PMap.below]at hp;rw[if_pos ⟨trivial,hlt⟩]at hp;exact hp
  obtain rfl:p=p':=Option.some.inj (hpb.symm.trans hp');exact⟨hk,hk0,⟨arr,el,ha1,ha2,by rw[frzT_length hf];exact ha3⟩,frzT_at hI (frzD_reads r n) rows hf hrows⟩
end
end Go.Ax
