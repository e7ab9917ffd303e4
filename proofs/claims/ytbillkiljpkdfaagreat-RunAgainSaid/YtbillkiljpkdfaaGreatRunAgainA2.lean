/- Part of a proof about the given program: the abstract machine, the printed functions, the plain laws. -/
import Derived.Test.YtbillkiljpkdfaaGreatRunAgainA1
import Derived.LoopN
import Derived.Scope
import Derived.Orders
set_option linter.all false
set_option maxRecDepth 100000
set_option maxHeartbeats 4000000
namespace Go.AM
open Go
variable [cU]
section
variable {P:Program} {K K':Col} {μ μ':Nat->Nat} {w w':World} {s:St} {a:Act}
theorem AnL {ids:List Nat} {t:Tag} (h:handed ids t):iD t:=by
 obtain⟨b,_,rfl|⟨o,rfl⟩⟩:=h<;>simp[iD]
structure fT (K:Col) (μ:Nat->Nat) (w:World) (n:Nat) (K':Col) (μ':Nat->Nat) (w':World):Prop where
 step:Step iD K w K' w'
 mu:∀b,b<n->μ' b=μ b
theorem fT.refl (K:Col) (μ:Nat->Nat) (w:World) (n:Nat):fT K μ w n K μ w:=⟨Step.refl _ _ _,λ_ _=>rfl⟩
theorem fT.trans {K₀ K₁ K₂:Col} {μ₀ μ₁ μ₂:Nat->Nat} {w₀ w₁ w₂:World} {n m:Nat} (h:fT K₀ μ₀ w₀ n K₁ μ₁ w₁) (k:fT K₁ μ₁ w₁ m K₂ μ₂ w₂) (hnm:n<=m) :
 fT K₀ μ₀ w₀ n K₂ μ₂ w₂:=⟨h.step.trans k.step,λb hb=>(k.mu b oM).trans (h.mu b hb)⟩
def Callee (P:Program) (f:Nat):Prop:=∃fn,P.funcs[f]?=some fn/\fn.body.isSome=true
def pY (P:Program) (call:Call):Prop:=∀f args lh r,call f args lh=some r->Callee P f/\pO P f args lh r
theorem V.back_rep {ids:List Nat} (hK:∀b o,K b o=.ro->K' b o=.ro) (hμ:∀i b,ids[i]?=some b->μ' b=μ i) {c c':V} {v:Value} (hc:V.back ids c=some c') (h:bY K μ w c v)
  (hp:lG c):bY K' μ' w c' v/\(∀b∈c'.ids,b∈ids)/\lG c':=by
 have many:∀{cs cs':List C} {vs:List Value},aY (C.back ids) cs=some cs'->aZ K μ w cs vs->aZ K' μ' w cs' vs/\∀c∈cs',∀b∈c.ids,b∈ids:=by
  intro cs cs' vs hm hr
  refine⟨hr.mapM hm λc c' v h1 h2=>(AM.back_rep hK hμ h1 h2).1,?_⟩
  intro c' hc' b hb
  obtain⟨i,hi⟩:=List.getElem?_of_mem hc'
  obtain⟨c,hci,hcc⟩:=hC hm hi
  obtain⟨u,_,hru⟩:=hr.get hci
  exact (AM.back_rep hK hμ hcc hru).2.1 b hb
 cases c with
 |c x=>
  simp only[V.back,Option.map_eq_some_iff] at hc
  obtain⟨x',hx,rfl⟩:=hc
  obtain⟨h1,h2,h3⟩:=AM.back_rep (μ':=μ') hK hμ hx h
  refine⟨h1,h2,?_,sM⟩
  intro sz xs e
  simp only[V.c.injEq] at e
  exact hp.1 sz xs (by rw[(h3 sz xs).1 e])
 |view l sz xs=>exact absurd rfl (hp.2 l sz xs)
 |rptr cs=>
  simp only[V.back,sJ] at hc; subst hc
  obtain⟨blk,off,vs,h1,h2,h3⟩:=h
  exact⟨⟨blk,off,vs,h1,λi u hu=>⟨hK _ _ (h2 i u hu).1,(h2 i u hu).2⟩,dN.recolor hK _ _ h3⟩,by simp[V.ids],hp⟩
 |vagg cs=>
  simp only[V.back,Option.map_eq_some_iff] at hc
  obtain⟨cs',hm,rfl⟩:=hc
  obtain⟨vs,h1,h2,h3⟩:=h
  obtain⟨q1,q2⟩:=many hm h2
  refine⟨⟨vs,h1,q1,h3⟩,?_,by simp[lG]⟩
  intro b hb
  simp only[V.ids,List.mem_flatMap] at hb
  obtain⟨c,hc,hb⟩:=hb
  exact q2 c hc b hb
 |vtup nn cs=>
  simp only[V.back,Option.map_eq_some_iff] at hc
  obtain⟨cs',hm,rfl⟩:=hc
  obtain⟨vs,h1,h2,h3⟩:=h
  obtain⟨q1,q2⟩:=many hm h2
  refine⟨⟨vs,h1,q1,h3⟩,?_,by simp[lG]⟩
  intro b hb
  simp only[V.ids,List.mem_flatMap] at hb
  obtain⟨c,hc,hb⟩:=hb
  exact q2 c hc b hb
 |tuple cs=>
  simp only[V.back,Option.map_eq_some_iff] at hc
  obtain⟨cs',hm,rfl⟩:=hc
  obtain⟨vs,h1,h2⟩:=h
  obtain⟨q1,q2⟩:=many hm h2
  refine⟨⟨vs,h1,q1⟩,?_,by simp[lG]⟩
  intro b hb
  simp only[V.ids,List.mem_flatMap] at hb
  obtain⟨c,hc,hb⟩:=hb
  exact q2 c hc b hb
def BdT (K:Col) (μ:Nat->Nat) (s:St) (a:Act) (w:World) (n:Nat):gR->Ending->Prop
 |.val v s',e=>Sim K μ s' a w/\n<=s'.nid/\lG v/\(∀b∈v.ids,b<s'.nid)/\s'.defers=s.defers/\∃u,e=.returned u/\bY K μ w v u
 |.pan d s',e=>Sim K μ s' a w/\n<=s'.nid/\s'.defers=s.defers/\∃u,e=.panicked [⟨u,false,false⟩]/\Rep K w d u
theorem AkN {call:Call} {f:Nat} {args:List C} {r:gR} {ids:List Nat} (h:mU call f args s=some (r,ids)) (hs:Sim K μ s a w)
  {vs:List Value} (hargs:aZ K μ w args vs) :
  ∃args' lh r',call f args' lh=some r'/\aZ (λb o=>iK ids (K b o)) (λi=>μ (ids.getD i 0)) w args' vs/\(∀c∈args',∀b∈c.ids,b<lh.length) /\
   AkA (λb o=>iK ids (K b o)) (λi=>μ (ids.getD i 0)) w lh/\sR (λb o=>iK ids (K b o)) w/\Ak9 (λb o=>iK ids (K b o)) w /\
   ∀e w',(∃K' μ',Step iD (λb o=>iK ids (K b o)) w K' w'/\sR K' w'/\(∀i,i<lh.length->μ' i=μ (ids.getD i 0)) /\
    match r' with
    |.ret v lh'=>lh.length<=lh'.length/\AkA K' μ' w' lh'/\lG v/\(∀b∈v.ids,b<lh'.length)/\∃u,e=.returned u/\bY K' μ' w' v u
    |.pan d lh'=>lh'.length=lh.length/\AkA K' μ' w' lh'/\∃u,e=.panicked [⟨u,false,false⟩]/\Rep K' w' d u) ->
    ∃K' μ',fT K μ w s.nid K' μ' w'/\BdT K' μ' s a w' s.nid r e:=by
 unfold mU at h
 split at h
 ·simp at h
 rename_i ids₀ hreach
 obtain⟨hn,⟨_,_⟩,hin0⟩:=Ac6 hreach sM
 have hin:∀b∈ids₀,b<s.nid:=by
  intro b hb
  rcases hin0 b hb with hb|hb
  ·simp at hb
  obtain⟨cells,hc⟩:=Option.isSome_iff_exists.1 hb
  exact (hs.heap b cells hc).1
 split at h
 ·rename_i args' lh hargs' hlh
  obtain⟨hrep,hlen⟩:=At0 hs hn hlh
  have hro:∀b o,K b o=.ro->iK ids₀ (K b o)=.ro:=λb o h=>by rw[h]; rfl
  have hμ:∀i b,ids₀[i]?=some b->μ (ids₀.getD i 0)=μ b:=λi b h=>by simp[List.getD,h]
  have hargr:aZ (λb o=>iK ids₀ (K b o)) (λi=>μ (ids₀.getD i 0)) w args' vs:=
   hargs.mapM hargs' λc c' v h1 h2=>(into_rep (K':=λb o=>iK ids₀ (K b o)) (μ':=λi=>μ (ids₀.getD i 0)) hro hμ h1 h2).1
  have hargi:∀c∈args',∀b∈c.ids,b<lh.length:=by
   intro c' hc' b hb
   obtain⟨i,hi⟩:=List.getElem?_of_mem hc'
   obtain⟨c,hci,hcc⟩:=hC hargs' hi
   obtain⟨u,_,hru⟩:=hargs.get hci
   rw[hlen]
   exact (into_rep (K':=λb o=>iK ids₀ (K b o)) (μ':=λi=>μ (ids₀.getD i 0)) hro hμ hcc hru).2.1 b hb
  have hbd:sR (λb o=>iK ids₀ (K b o)) w:=λblk off hl=>by simp only[hs.bound blk off hl]; rfl
  split at h
  ·rename_i v lh' hc
   split at h
   ·rename_i lh'' v' hb1 hb2
    simp only[sJ,pJ] at h
    obtain⟨rfl,rfl⟩:=h
    refine⟨args',lh,_,hc,hargr,hargi,hrep,hbd,hs.glob.recolor hro,?_⟩
    rintro e w' ⟨Kc',μ',hst,hbd',hmu,hl1,hh,hpl,hvi,u,rfl,hru⟩
    rw[hlen] at hl1 hmu
    obtain⟨K₂,μ₂,h1,h2,h3,h4,h5⟩:=AyR hs hn hin hst hbd' hmu hh (k:=lh'.length-ids₀.length) oM hb1
    obtain⟨q1,q2,q3⟩:=V.back_rep (μ':=μ₂) h3 h4 hb2 hru hpl
    refine⟨K₂,μ₂,⟨h1.mono λt=>AnL,h2⟩,h5,by show s.nid<=s.nid+_; omega,q3,?_,rfl,u,rfl,q1⟩
    intro b hb
    have:=q2 b hb
    rcases List.mem_append.1 this with hm|hm
    ·have:=hin b hm
     show b<s.nid+_
     omega
    exact (wJ.1 hm).2
   simp at h
  ·rename_i d lh' hc
   split at h
   ·rename_i lh'' hb1
    simp only[sJ,pJ] at h
    obtain⟨rfl,rfl⟩:=h
    refine⟨args',lh,_,hc,hargr,hargi,hrep,hbd,hs.glob.recolor hro,?_⟩
    rintro e w' ⟨Kc',μ',hst,hbd',hmu,hl1,hh,u,rfl,hru⟩
    rw[hlen] at hl1 hmu
    have hnil:ids₀++bD s.nid 0=ids₀:=by simp[bD]
    obtain⟨K₂,μ₂,h1,h2,h3,h4,h5⟩:=AyR hs hn hin hst hbd' hmu hh (k:=0) oM (by rw[hnil]; exact hb1)
    rw[hnil] at h5
    exact⟨K₂,μ₂,⟨h1.mono λt=>AnL,h2⟩,h5,Nat.le_refl _,rfl,u,rfl,Rep.recolor h3 _ _ hru⟩
   simp at h
  simp at h
 simp at h
theorem AeN {call:Call} (hcall:pY P call) {f:Nat} {args:List C} {r:gR} {ids:List Nat} (h:mU call f args s=some (r,ids)) (hs:Sim K μ s a w)
  {vs:List Value} (hargs:aZ K μ w args vs) :
  Calls P f vs.toArray w λe w'=>∃K' μ',fT K μ w s.nid K' μ' w'/\BdT K' μ' s a w' s.nid r e:=by
 obtain⟨args',lh,r',h1,h2,h3,h4,h5,h6,h7⟩:=AkN h hs hargs
 exact ((hcall _ _ _ _ h1).2 _ _ _ _ h2 h3 h4 h5 h6).mono h7
theorem AdG {call:Call} (hcall:pY P call) {f:Nat} {args:List C} {r:gR×List Nat} (h:mU call f args s=some r):Callee P f:=by
 unfold mU at h
 split at h
 ·simp at h
 split at h
 ·split at h
  ·rename_i hc; exact (hcall _ _ _ _ hc).1
  ·rename_i hc; exact (hcall _ _ _ _ hc).1
  ·simp at h
 simp at h
end
end Go.AM
namespace Go.AM
open Go
variable [cU]
section
variable {P:Program} {K K':Col} {μ μ':Nat->Nat} {w w':World} {s:St} {a:Act}
theorem tV {u:TypeId} (h:iB P u=true):(∃e,P.underlying u=some (.slice e))\/P.underlying u=some .string:=by
 unfold iB at h
 split at h
 ·rename_i e hu; exact .inl ⟨e,hu⟩
 ·rename_i hu; exact .inr hu
 simp at h
theorem AeI {y:V} {sz:Nat} {ys:List D} {v:Value} (h:appended y=some (sz,ys)) (hr:bY K μ w y v):∃vs,kI K w sz ys vs /\
  (∀w,(Builtin.lenOf v).run P w=.ok ys.length w)/\∀w₁,(∀b o,w₁.cell? (ad b o)=w.cell? (ad b o))->(Builtin.firstCells sz ys.length v).run P w₁=.ok (cellsOf vs).toArray w₁:=by
 unfold appended at h
 split at h
 ·rename_i sz' xs hd
  simp only[sJ,pJ] at h
  obtain⟨rfl,rfl⟩:=h
  have h1:=Go.AM.V.toD_rep hd hr
  simp only[Rep] at h1
  rcases h1 with ⟨rfl,rfl|⟨ea,ecap,rfl⟩⟩|⟨blk,off,cap,rfl,_,he⟩
  ·exact⟨[],.nil,λw=>by simp[Builtin.lenOf],λw₁ _=>by simp[Builtin.firstCells,cellsOf]⟩
  ·exact⟨[],.nil,λw=>by simp[Builtin.lenOf],λw₁ _=>by
    have:=run_firstCells_some (P:=P) w₁ sz' 0 ea 0 ecap ([]:List Value) sM (λj u hu=>by simp at hu)
    simpa[cellsOf] using this⟩
  obtain⟨vs,hes,hca⟩:=he.es
  refine⟨vs,hes,λw=>by simp[Builtin.lenOf],λw₁ hw=>?_⟩
  exact run_firstCells_some (P:=P) w₁ sz' xs.length (ad blk off) xs.length cap (cellsOf vs) hes.cells λj u hu=>by
   rw[Addr.add_lit]
   exact (hw blk (off+j)).trans (hca j u hu).2
 ·rename_i l hd
  simp only[sJ,pJ] at h
  obtain⟨rfl,rfl⟩:=h
  have h1:=Go.AM.V.toD_rep hd hr
  simp only[Rep] at h1
  subst h1
  obtain⟨hes,hcl⟩:=AdT (K:=K) (w:=w) l
  refine⟨_,hes,λw=>by simp[Builtin.lenOf,Ac8],λw₁ _=>?_⟩
  rw[hcl]
  simp only[Builtin.firstCells,Sem.run_pure,List.length_map]
  congr 1
  have:(⟨l.toArray⟩:ByteArray).extract 0 l.length=⟨l.toArray⟩:=by
   apply ByteArray.ext; simp
  rw[this]
  simp
 simp at h
theorem AeE {t u ty e:TypeId} {sz m:Nat} {x:Value} {news:List Value} (ht:P.underlying t=some (.slice e)) (hu:iB P u=true) (hsz:tsz P e=some sz)
  {b o n cap:Nat} (hlen:∀w,(Builtin.lenOf x).run P w=.ok m w) (hfirst:(Builtin.firstCells sz m x).run P w=.ok news.toArray w) (hroom:n+m<=cap)
  (hex:∀j,j<news.length->(w.cell? (ad b (o+n*sz+j))).isSome=true/\w.frozen? (ad b (o+n*sz+j))=false) (h1:∀v∈news,eZ v=true) :
  (Builtin.append_ #[t,u] ty #[.slice (some (ad b o)) n cap,x]).run P w=.ok (.slice (some (ad b o)) (n+m) cap) (w.setCells b (o+n*sz) news):=by
 have hst:=run_storeCells_cells (P:=P) b (o+n*sz) news 0 w (λj hj=>by simpa using (hex j hj).1) (λj hj=>by simpa using (hex j hj).2) (λv hv=>by rw[←AqA]; exact h1 v hv)
 simp at hst
 rcases tV hu with ⟨e',hu'⟩|hu' <;>
  simp[Builtin.append_,run_underlying ht,run_underlying hu',dX hsz,hlen,hfirst,hroom,Addr.add_lit,hst]
theorem xY {t u ty e:TypeId} {sz m:Nat} {x z:Value} {inf:TypeInfo} {olds news:List Value} (ht:P.underlying t=some (.slice e)) (hu:iB P u=true) (hsz:tsz P e=some sz)
  (hi:P.info? e=some inf) (hz:inf.zero=some z) {base:Option Addr} {n cap:Nat}
  (hlen:∀w,(Builtin.lenOf x).run P w=.ok m w) (hfirst:(Builtin.firstCells sz m x).run P w.drew=.ok news.toArray w.drew) (hroom:cap<n+m)
  (hold:(Builtin.firstCells sz n (.slice base n cap)).run P w.drew=.ok olds.toArray w.drew) (hbound:n+m<=4294967296) (hb:inf.bytes<=1024) :
  (Builtin.append_ #[t,u] ty #[.slice base n cap,x]).run P w=.ok (.slice (some (ad w.heap.size 0)) (n+m) (grownCap w (n+m) cap e))
   (w.drew.alloc (.cells (olds++news++(Builtin.zeroCells z.cells (grownCap w (n+m) cap e-(n+m))).toList).toArray e)):=by
 have hn:¬(n+m<=cap):=oM
 have h63':¬(9223372036854775807<((n:Int)+(m:Int))):=oM
 have hnc:=nextslicecap_le hroom
 have h48':¬(281474976710656<Builtin.nextslicecap (n+m) cap*inf.bytes):=by
  have h1:Builtin.nextslicecap (n+m) cap*inf.bytes<=(2*(n+m))*1024:=Nat.mul_le_mul hnc hb
  omega
 have hsz':inf.size=sz:=by simp[tsz,hi] at hsz; exact hsz
 rcases tV hu with ⟨e',hu'⟩|hu' <;>
 ·simp[Builtin.append_,run_underlying ht,run_underlying hu',dX hsz,hlen,hn,h63',h48',typeInfo,zeroValue,hi,hz,Question.forced,hfirst,hold,newRow,grownCap]
  congr 2
  apply Array.ext'
  simp[List.append_assoc]
end
end Go.AM
namespace Go.AM
open Go
variable [cU]
section
variable {P:Program} {K K':Col} {μ μ':Nat->Nat} {w w':World} {s:St} {a:Act}
theorem Sim.plainCell (h:Sim K μ s a w) {b off sz:Nat} {xs:List D} {cells:List C} (hb:look b s.heap=some cells) (hmo:mapOf cells=none) (hfl:fK cells=cells) (hnh:cells[off]?≠some .hid) (v:Value) (hv:w.cell? (ad (μ b) off)=some v)
  (hr:Rep K w (.list sz xs) v):Sim K μ { s with heap:=upd b (cells.set off (.d (.list sz xs))) s.heap } a w:=by
 have back:∀{b':Nat} {cells':List C},look b' (upd b (cells.set off (.d (.list sz xs))) s.heap)=some cells' ->
   ∃c0,look b' s.heap=some c0/\(cells'=c0\/(b'=b/\c0=cells/\cells'=cells.set off (.d (.list sz xs)))):=by
  intro b' cells' h'
  by_cases e:b'=b
  ·subst e
   rw[cM,sJ] at h'
   exact⟨cells,hb,.inr ⟨rfl,rfl,h'.symm⟩⟩
  rw[cW e] at h'
  exact⟨cells',h',.inl rfl⟩
 refine⟨h.tm,h.tids,h.own,?_,?_,h.bound,h.defs,h.dids,h.glob⟩
 ·intro t l z ys ht
  have hvw:=h.view t l z ys ht
  cases l with
  |tmp u=>exact hvw
  |cell b' off'=>
   intro cells' z' ys' hc hcc
   obtain⟨c0,h0,h1⟩:=back hc
   rcases h1 with rfl|⟨rfl,rfl,rfl⟩
   ·exact hvw cells' z' ys' h0 hcc
   by_cases ho:off'=off
   ·subst ho
    rw[List.getElem?_set_self' ] at hcc
    cases hq:c0[off']?<;>simp[hq] at hcc
   rw[List.getElem?_set_ne oM] at hcc
   exact hvw c0 z' ys' h0 hcc
 intro b' cells' hc
 obtain⟨c0,h0,h1⟩:=back hc
 rcases h1 with rfl|⟨rfl,rfl,rfl⟩
 ·exact h.heap b' cells' h0
 obtain⟨k1,k2,k34⟩:=h.heap b' c0 h0
 obtain⟨k3,k4,_⟩:=k34.old (λhq=>by obtain⟨_,rfl,_⟩:=mP hq; simp[fK,fL] at hfl)
 have k5:=(h.heap b' c0 h0).2.2.cells hmo
 rw[hfl] at k5
 have hcr:fV K μ w b' (c0.set off (.d (.list sz xs))):=by
  intro i c hi hnc
  by_cases ho:i=off
  ·subst ho
   have hlt:i<c0.length:=by
    have:=(List.getElem?_eq_some_iff.1 hi).1; simpa using this
   rw[List.getElem?_set_self hlt,sJ] at hi
   subst hi
   obtain⟨v',hv',g1,g2,_⟩:=k5 i c0[i] (by simp[hlt]) (λe=>hnh (by rw[List.getElem?_eq_getElem hlt,e]))
   rw[hv,sJ] at hv'
   subst hv'
   exact⟨v,hv,g1,g2,hr,sM⟩
  rw[List.getElem?_set_ne oM] at hi
  exact k5 i c hi hnc
 refine⟨k1,?_,.inr ⟨λo ho=>k3 o (λe1=>?_),k4,.inl hcr.blk⟩⟩
 rotate_left
 ·by_cases hoo:o=off
  ·subst hoo; exact hnh e1
  ·rw[List.getElem?_set_ne oM] at ho; exact ho e1
 intro c hc i hi
 rcases List.mem_or_eq_of_mem_set hc with hc|rfl
 ·exact k2 c hc i hi
 simp[C.ids] at hi
theorem iM.append:∀{xs ys:List D} {sz blk off:Nat},iM K w sz blk off xs->iM K w sz blk (off+xs.length*sz) ys->iM K w sz blk off (xs++ys)
 | [],ys,sz,blk,off,_,h=>by simpa using h
 |x::xs,ys,sz,blk,off,h1,h2=>by
  simp only[iM] at h1
  simp only[List.cons_append,iM]
  refine⟨h1.1,iM.append h1.2 ?_⟩
  rw[show off+sz+xs.length*sz=off+(x::xs).length*sz from by simp only[List.length_cons,Nat.add_mul]; omega]
  exact h2
def AvQ (P:Program) (K:Col) (μ:Nat->Nat) (s:St) (a:Act) (w:World) (o:Oper) (V:V) (s':St):Prop:=
 ∃v K' w',(execOp a.eval o).run P w=.ok (.value v) w'/\Step iD K w K' w'/\Sim K' μ s' a w'/\Good K' μ s' a w' o.dst V v/\s'.nid=s.nid/\s'.defers=s.defers
def AzN:Option Nat->Tag
 |some d=>.sp (.tmp d)
 |none=>.other
theorem AxM {d:D} {v:Value} (h:Rep K w d v):∀x∈v.cells.toList,eZ x=true:=(dN.cs (μ:=λ_=>0) (yY h)).2
theorem kI.ones {sz:Nat} {ds:List D} {vs:List Value} (h:kI K w sz ds vs):∀x∈cellsOf vs,eZ x=true:=by
 induction h with
 |nil=>simp[cellsOf]
 |cons h1 _ _ ih=>
  intro x hx
  simp only[cellsOf,List.mem_append] at hx
  rcases hx with hx|hx
  ·exact AxM h1 x hx
  exact ih x hx
theorem zA (z:Array Value) (n:Nat):(Builtin.zeroCells z n).toList.length=n*z.size:=by simp[Builtin.zeroCells]
theorem AfB {t u ty e:TypeId} {n:Nat} {inf:TypeInfo} {z:Value} (ht:P.underlying t=some (.slice e)) (hu:iB P u=true) (hn:tsz P e=some n)
  (hi:P.info? e=some inf) (hz:inf.zero=some z) (hzs:z.cells.size=n) (hb:inf.bytes<=1024)
  {ys:List D} {y:Value} {vs:List Value} (dst:Option Nat) (hys:kI K w n ys vs)
  (hlen:∀w,(Builtin.lenOf y).run P w=.ok ys.length w) (hfirst:∀w₁,(∀b o,w₁.cell? (ad b o)=w.cell? (ad b o))->(Builtin.firstCells n ys.length y).run P w₁=.ok (cellsOf vs).toArray w₁)
  (hmax:ys.length<=4294967296) (hbd:sR K w) (base:Option Addr) :
  ∃v K' w',(Builtin.append_ #[t,u] ty #[.slice base 0 0,y]).run P w=.ok v w'/\Step (λ_=>False) K w K' w'/\sR K' w' /\
   Rep K' w' (.list n ys) v/\∀d,dst=some d->rL K' w' (.tmp d) n v:=by
 by_cases hne:ys=[]
 ·-- nothing,behind nothing
  subst hne
  have hrun:(Builtin.append_ #[t,u] ty #[.slice base 0 0,y]).run P w=.ok (.slice base 0 0) w:=by
   have hf:=hfirst w λ_ _=>rfl
   cases hys
   simp only[cellsOf,List.length_nil] at hf
   cases base with
   |none=>
    rcases tV hu with ⟨e',hu'⟩|hu' <;>
     simp[Builtin.append_,run_underlying ht,run_underlying hu',dX hn,hlen,hf]
   |some ea=>
    have hst:(Go.storeCells ea []).run P w=.ok () w:=rfl
    rcases tV hu with ⟨e',hu'⟩|hu' <;>
     simp[Builtin.append_,run_underlying ht,run_underlying hu',dX hn,hlen,hf,Addr.add,hst]
  refine⟨_,K,w,hrun,Step.refl _ _ _,hbd,?_,λd _=>?_⟩
  ·simp only[Rep]
   cases base with
   |none=>exact .inl ⟨sM,.inl rfl⟩
   |some ea=>exact .inl ⟨sM,.inr ⟨ea,0,rfl⟩⟩
  cases base with
  |none=>exact .inl (.inl rfl)
  |some ea=>exact .inl (.inr ⟨ea,rfl⟩)
 have hold:(Builtin.firstCells n 0 (.slice base 0 0)).run P w.drew=.ok (([]:List Value).toArray) w.drew:=by
  cases base with
  |none=>simp[Builtin.firstCells]
  |some ea=>
   have:=run_firstCells_some (P:=P) w.drew n 0 ea 0 0 ([]:List Value) sM (λj u hu=>by simp at hu)
   simpa using this
 have hrun:=xY (P:=P) (w:=w) (ty:=ty) (news:=cellsOf vs) ht hu hn hi hz (n:=0) (cap:=0) hlen (hfirst w.drew λ_ _=>rfl)
  (by have:=List.length_pos_iff.2 hne; omega) hold (by simpa using hmax) hb
 have hle:=zN w ys.length e 0
 have hll:=hys.cells
 let f:Nat->Tag:=λi=>if i<ys.length*n then .ro else AzN dst
 have hom:=AaU w (.cells (cellsOf vs++(Builtin.zeroCells z.cells (grownCap w ys.length 0 e-ys.length)).toList).toArray e)
 simp only[List.nil_append,Nat.zero_add] at hrun
 refine⟨_,gS K w.heap.size f,_,hrun,(hom.step f).mono sM,hom.bound hbd f,?_,?_⟩
 ·exact AiI (K:=K) (w:=w) (cap:=grownCap w ys.length 0 e) f (by intro i hi'; rw[hll] at hi'; simp[f,hi']) hom hys hle
 intro d hd
 refine .inr ⟨w.heap.size,0,ys.length,_,rfl,hle,λj hj hj'=>⟨?_,?_,?_⟩⟩
 ·simp only[gS,if_true,Nat.zero_add,f,hd]
  rw[if_neg oM]; rfl
 ·rw[hom.cell,Nat.zero_add]
  simp only[List.getElem?_toArray]
  rw[getElem?_pos _ _ (by
   rw[List.length_append,hll,zA,hzs,←Nat.add_mul]
   rw[show ys.length+(grownCap w ys.length 0 e-ys.length)=grownCap w ys.length 0 e from by omega]
   exact hj')]
  rfl
 rw[hom.frozen]; simp
theorem Aw7 {t u ty e:TypeId} {n:Nat} {inf:TypeInfo} {z:Value} (ht:P.underlying t=some (.slice e)) (hu:iB P u=true) (hn:tsz P e=some n)
  (hi:P.info? e=some inf) (hz:inf.zero=some z) (hzs:z.cells.size=n) (hb:inf.bytes<=1024)
  {l:Loc} {xs ys:List D} {vx y:Value} {vs:List Value} (dst:Option Nat)
  (hx:Rep K w (.list n xs) vx) (hsp:rL K w l n vx) (hys:kI K w n ys vs)
  (hlen:∀w,(Builtin.lenOf y).run P w=.ok ys.length w) (hfirst:∀w₁,(∀b o,w₁.cell? (ad b o)=w.cell? (ad b o))->(Builtin.firstCells n ys.length y).run P w₁=.ok (cellsOf vs).toArray w₁)
  (hmax:xs.length+ys.length<=4294967296) (hbd:sR K w) :
  ∃v K' w',(Builtin.append_ #[t,u] ty #[vx,y]).run P w=.ok v w'/\Step (λt=>t=.sp l) K w K' w'/\sR K' w' /\
   Rep K' w' (.list n (xs++ys)) v/\∀d,dst=some d->rL K' w' (.tmp d) n v:=by
 simp only[Rep] at hx
 have nilc:∀base:Option Addr,xs=[]->vx=.slice base 0 0->∃v K' w',(Builtin.append_ #[t,u] ty #[vx,y]).run P w=.ok v w'/\Step (λt=>t=.sp l) K w K' w'/\sR K' w' /\
   Rep K' w' (.list n (xs++ys)) v/\∀d,dst=some d->rL K' w' (.tmp d) n v:=by
  rintro base rfl rfl
  obtain⟨v,K',w',r1,r2,r3,r4,r5⟩:=AfB (P:=P) (ty:=ty) ht hu hn hi hz hzs hb dst hys hlen hfirst (by simpa using hmax) hbd base
  exact⟨v,K',w',r1,r2.mono sM,r3,by simpa using r4,r5⟩
 have hx:∃blk off cap,vx=.slice (some (ad blk off)) xs.length cap/\xs.length<=cap/\iM K w n blk off xs\/(xs=[]/\∃base,vx=.slice base 0 0):=by
  rcases hx with ⟨rfl,hv|⟨ea,ecap,hv⟩⟩|⟨blk,off,cap,h⟩
  ·exact⟨0,0,0,.inr ⟨rfl,_,hv⟩⟩
  ·rcases hsp with (h|⟨a',h⟩)|⟨blk',off',len',cap',e1,e2,e3⟩
   ·rw[hv] at h; simp at h
   ·exact⟨0,0,0,.inr ⟨rfl,_,h⟩⟩
   ·rw[hv] at e1
    simp only[Value.slice.injEq,sJ] at e1
    obtain⟨rfl,rfl,rfl⟩:=e1
    exact⟨blk',off',ecap,.inl ⟨hv,sM,by simp[iM]⟩⟩
  exact⟨blk,off,cap,.inl h⟩
 obtain⟨blk,off,cap,⟨hvx,hcap,hxe⟩|⟨h1,base,h2⟩⟩:=hx
 rotate_left
 ·exact nilc base h1 h2
 by_cases hxn:xs=[]/\∃base,vx=.slice base 0 0
 ·obtain⟨h1,base,h2⟩:=hxn
  exact nilc base h1 h2
 clear nilc
 have hsp:∃blk' off' len' cap',vx=.slice (some (ad blk' off')) len' cap'/\len'<=cap' /\
   ∀j,len'*n<=j->j<cap'*n->K blk' (off'+j)=.sp l/\(w.cell? (ad blk' (off'+j))).isSome=true/\w.frozen? (ad blk' (off'+j))=false:=by
  rcases hsp with (h|⟨a',h⟩)|h
  ·rw[hvx] at h; simp at h
  ·exfalso
   rw[hvx] at h
   simp only[Value.slice.injEq] at h
   exact hxn ⟨List.eq_nil_of_length_eq_zero h.2.1,_,by rw[hvx,h.2.1,h.2.2]⟩
  exact h
 subst hvx
 obtain⟨blk',off',len',cap',e1,e2,e3⟩:=hsp
 simp only[Value.slice.injEq,sJ,Addr.mk.injEq,and_true] at e1
 obtain⟨⟨rfl,rfl⟩,rfl,rfl⟩:=e1
 have hcl:=hys.cells
 by_cases hroom:xs.length+ys.length<=cap
 ·-- within the capacity
  have hmul:(xs.length+ys.length)*n<=cap*n:=Nat.mul_le_mul_right _ hroom
  have hadd:(xs.length+ys.length)*n=xs.length*n+ys.length*n:=Nat.add_mul _ _ _
  have hex:∀j,j<(cellsOf vs).length->(w.cell? (ad blk (off+xs.length*n+j))).isSome=true/\w.frozen? (ad blk (off+xs.length*n+j))=false/\K blk (off+xs.length*n+j)=.sp l:=by
   intro j hj
   have:=e3 (xs.length*n+j) oM oM
   rw[←Nat.add_assoc] at this
   exact⟨this.2.1,this.2.2,this.1⟩
  have hrun:=AeE (P:=P) (ty:=ty) ht hu hn hlen (hfirst w λ_ _=>rfl) hroom (λj hj=>⟨(hex j hj).1,(hex j hj).2.1⟩) hys.ones
  let K':Col:=λb o=>if K b o=.sp l then (if b=blk/\off+xs.length*n<=o/\o<off+(xs.length+ys.length)*n then .ro else AzN dst) else K b o
  have hst:Step (λt=>t=.sp l) K w K' (w.setCells blk (off+xs.length*n) (cellsOf vs)):=
   AdR (λj hj=>(hex j hj).2.2) λb o hn=>if_neg hn
  refine⟨_,K',_,hrun,hst,?_,?_,?_⟩
  ·intro b o hl
   rw[setCells_size] at hl
   simp only[K',hbd b o hl]; simp
  ·simp only[Rep]
   refine .inr ⟨blk,off,cap,sM,by simpa using hroom,iM.append (iM.step hst sM _ _ _ _ hxe) ?_⟩
   refine (hys.step hst sM).lies ?_
   intro i v hv
   have hi':=(List.getElem?_eq_some_iff.1 hv).1
   have hc:=World.cell?_setCells_in blk (cellsOf vs) (off+xs.length*n) w (λj hj=>(hex j hj).1) i hi'
   refine⟨?_,?_⟩
   ·simp only[K',(hex i hi').2.2,if_true]
    rw[if_pos ⟨by first|rfl|trivial,oM,oM⟩]
   rw[(List.getElem?_eq_some_iff.1 hv).2] at hc; exact hc
  intro d hd
  subst hd
  refine .inr ⟨blk,off,xs.length+ys.length,cap,rfl,hroom,λj hj hj'=>?_⟩
  obtain⟨t1,t2,t3⟩:=e3 j oM hj'
  refine⟨?_,?_,by rw[World.frozen?_setCells]; exact t3⟩
  ·simp only[K',t1,if_true]
   rw[if_neg oM]; rfl
  rw[World.cell?_setCells_out]
  ·exact t2
  intro _ _; simp only; omega
 -- a new array
 obtain⟨vo,hvo,hco⟩:=hxe.es
 have hold:(Builtin.firstCells n xs.length (.slice (some (ad blk off)) xs.length cap)).run P w.drew=.ok (cellsOf vo).toArray w.drew:=
  run_firstCells_some (P:=P) w.drew n xs.length (ad blk off) xs.length cap (cellsOf vo) hvo.cells λj u hu=>by
   rw[Addr.add_lit]; exact (hco j u hu).2
 have hrun:=xY (P:=P) (ty:=ty) ht hu hn hi hz hlen (hfirst w.drew λ_ _=>rfl) oM hold hmax hb
 have hes:kI K w n (xs++ys) (vo++vs):=by
  have aux:∀{a b:List D} {c d:List Value},kI K w n a c->kI K w n b d->kI K w n (a++b) (c++d):=by
   intro a b c d h1 h2
   induction h1 with
   |nil=>exact h2
   |cons q1 q2 _ ih=>exact .cons q1 q2 ih
  exact aux hvo hys
 have happ:∀l1 l2:List Value,cellsOf (l1++l2)=cellsOf l1++cellsOf l2:=by
  intro l1 l2
  induction l1 with
  |nil=>simp[cellsOf]
  |cons x l ih=>simp[cellsOf,ih,List.append_assoc]
 rw[←happ] at hrun
 have hle:=zN w (xs.length+ys.length) e cap
 have hll:(cellsOf (vo++vs)).length=(xs.length+ys.length)*n:=by
  have:=hes.cells; simpa using this
 let f:Nat->Tag:=λi=>if i<(xs.length+ys.length)*n then .ro else AzN dst
 have hom:=AaU w (.cells (cellsOf (vo++vs)++(Builtin.zeroCells z.cells (grownCap w (xs.length+ys.length) cap e-(xs.length+ys.length))).toList).toArray e)
 refine⟨_,gS K w.heap.size f,_,hrun,(hom.step f).mono sM,hom.bound hbd f,?_,?_⟩
 ·have:=AiI (K:=K) (w:=w) (cap:=grownCap w (xs.length+ys.length) cap e) f (by intro i hi'; rw[hll] at hi'; simp[f,hi']) hom hes (by simpa using hle)
  simpa using this
 intro d hd
 subst hd
 refine .inr ⟨w.heap.size,0,xs.length+ys.length,_,rfl,hle,λj hj hj'=>⟨?_,?_,?_⟩⟩
 ·simp only[gS,if_true,Nat.zero_add,f]
  rw[if_neg oM]; rfl
 ·rw[hom.cell,Nat.zero_add]
  simp only[List.getElem?_toArray]
  rw[getElem?_pos _ _ (by
   rw[List.length_append,hll,zA,hzs,←Nat.add_mul]
   rw[show xs.length+ys.length+(grownCap w (xs.length+ys.length) cap e-(xs.length+ys.length))=grownCap w (xs.length+ys.length) cap e from by omega]
   exact hj')]
  rfl
 rw[hom.frozen]; simp
end
end Go.AM
namespace Go.AM
open Go
variable [cU]
section
variable {P:Program} {K K':Col} {μ μ':Nat->Nat} {w w':World} {s:St} {a:Act}
theorem AvJ {l:Loc} {t:Tag} (h:t=.sp l):iD t:=by subst h; simp[iD]
theorem AjE {e:TypeId} {n:Nat} (h:lV P e n=true):∃inf z,P.info? e=some inf/\inf.zero=some z/\z.cells.size=n:=by
 unfold lV at h
 split at h
 ·rename_i z hz
  split at h
  ·rename_i cs hcs
   obtain⟨v,_,hr,_,inf,hi,hz'⟩:=uE (P:=P) (K:=λ_ _=>.other) (μ:=λ_=>0) (w:=default) hz
   have:=(V.cells_rep hcs hr).1.length
   simp at h this
   exact⟨inf,v,hi,hz',oM⟩
  simp at h
 simp at h
theorem Aj0 {tm:List (Nat×V)} (v:Value) {l:Loc} {sz:Nat} {xs:List D}:ev tm (.const v)≠some (.view l sz xs):=V.ofValue_no_view
theorem ArJ {P:Program} {t:TypeId} {tm:List (Nat×V)} {x:Operand} {sz:Nat} {xs:List D} (h:evT P t tm x=some (.c (.own sz xs))):∃u,x=.tmp u/\look u tm=some (.c (.own sz xs)):=by
 have h:=AuL h
 cases x with
 |tmp u=>exact⟨u,rfl,h⟩
 |const v=>exact absurd h V.ofValue_no_own
 |global g=>simp[ev] at h
 |func f=>simp[ev] at h
theorem AaV {u:Nat} {l:Loc} (h:AvB { s with tmps:=AM.plainAt u s.tmps } l):l≠.tmp u:=by
 rintro rfl
 obtain⟨sz,xs,h⟩:=h
 exact AoD u s.tmps sz xs h
theorem AqK {b off sz:Nat} {xs:List D} {cells:List C} {l:Loc} (hb:look b s.heap=some cells) (h:AvB { s with heap:=upd b (cells.set off (.d (.list sz xs))) s.heap } l):l≠.cell b off:=by
 rintro rfl
 obtain⟨cells',z,ys,h1,h2⟩:=h
 rw[show look b ({ s with heap:=upd b (cells.set off (.d (.list sz xs))) s.heap }:St).heap=look b (upd b (cells.set off (.d (.list sz xs))) s.heap) from rfl,cM,sJ] at h1
 subst h1
 rw[List.getElem?_set_self'] at h2
 cases hq:cells[off]?<;>simp[hq] at h2
theorem Bd6 (hs:Sim K μ s a w) {o:Oper} {c:Go.Call} {t u:TypeId} {x y:Operand} (ho:o.op=.call c) (hc:c.callee=.builtin .append)
  (hargs:c.args.toList=[x,y]) (hty:c.argTypes.toList=[t,u]) {V:V} {s':St} (h:jP P t u x y s=some (V,s')):AvQ P K μ s a w o V s':=by
 have hargs':c.args=#[x,y]:=by apply Array.ext'; simpa using hargs
 have hty':c.argTypes=#[t,u]:=by apply Array.ext'; simpa using hty
 have exec:∀{v:Value} {w':World},(Builtin.append_ #[t,u] o.type #[a.eval x,a.eval y]).run P w=.ok v w'->(execOp a.eval o).run P w=.ok (.value v) w':=by
  intro v w' hr
  simp[execOp,ho,resolve,hc,hargs',hty',invoke,builtin,hr]
 unfold jP at h
 split at h
 ·rename_i e vx sz' ys ht hx hy
  have hte:=rJ ht
  rw[Option.bind_eq_some_iff] at hy
  obtain⟨vy,hvy,happ⟩:=hy
  have hyr:=fN hs hvy
  have hxr:=fN hs hx
  split at h
  ·rename_i n hn hu
   split at h
   ·rename_i hcond
    obtain⟨rfl,hb,hzf⟩:=hcond
    obtain⟨inf,z,hi,hz,hzs⟩:=AjE hzf
    have hb':inf.bytes<=1024:=by simpa[Program.bytesOf,hi] using hb
    obtain⟨vs,hes,hlen,hfirst⟩:=AeI (P:=P) happ hyr
    have core:∀{l:Loc} {xs:List D},Rep K w (.list sz' xs) (a.eval x)->rL K w l sz' (a.eval x)->xs.length+ys.length<=4294967296 ->
      ∀s':St,Sim K μ s' a w->(∀l',AvB s' l'->l'≠l)->s'.nid=s.nid->s'.defers=s.defers->AvQ P K μ s a w o (.c (.own sz' (xs++ys))) s':=by
     intro l xs h1 h2 h3 s' h4 h5 h6 h7
     obtain⟨v,K',w',r1,r2,r3,r4,r5⟩:=Aw7 (P:=P) (ty:=o.type) hte hu hn hi hz hzs hb' o.dst h1 h2 hes hlen hfirst h3 hs.bound
     refine⟨v,K',w',exec r1,r2.mono λt=>AvJ,?_,⟨r4,by simp[Go.AM.V.ids,C.ids],?_,sM⟩,h6,h7⟩
     ·refine h4.step r2 sM sM ?_ r3
      intro l' hl' e'
      simp only[Tag.sp.injEq] at e'
      exact h5 l' hl' e'
     intro sz' xs' e' t' ht'
     simp only[Go.AM.V.c.injEq,C.own.injEq] at e'
     rw[←e'.1]; exact r5 t' ht'
    split at h
    ·split at h
     ·rename_i hmax
      simp only[sJ,pJ] at h
      obtain⟨rfl,rfl⟩:=h
      simp only[bY,RepC] at hxr
      obtain⟨v,K',w',r1,r2,r3,r4,r5⟩:=AfB (P:=P) (ty:=o.type) hte hu hn hi hz hzs hb' o.dst hes hlen hfirst hmax hs.bound none
      rw[←hxr] at r1
      refine⟨v,K',w',exec r1,r2.mono sM,?_,⟨r4,by simp[Go.AM.V.ids,C.ids],?_,sM⟩,rfl,rfl⟩
      ·exact hs.step r2 sM sM sM r3
      intro sz' xs' e' t' ht'
      simp only[Go.AM.V.c.injEq,C.own.injEq] at e'
      rw[←e'.1]; exact r5 t' ht'
     ·simp at h
    ·rename_i sz xs
     split at h
     ·rename_i hc2
      obtain⟨rfl,hmax⟩:=hc2
      simp only[sJ,pJ] at h
      obtain⟨rfl,rfl⟩:=h
      simp only[bY,RepC] at hxr
      refine core (l:=.cell s.nid 0) hxr.1 (hxr.2.spare _ _) hmax _ hs ?_ rfl rfl
      rintro l' hl' rfl
      obtain⟨cells,_,_,hb,_⟩:=hl'
      exact Nat.lt_irrefl _ (hs.heap _ _ hb).1
     simp at h
    ·rename_i sz xs
     obtain⟨v,rfl,hv⟩:=ArJ hx
     simp only at h
     split at h
     ·rename_i hc2
      obtain⟨rfl,hmax⟩:=hc2
      simp only[sJ,pJ] at h
      obtain⟨rfl,rfl⟩:=h
      exact core (l:=.tmp v) hxr (hs.own v _ _ hv) hmax _ (hs.plainAt v) (λl' hl'=>AaV hl') rfl rfl
     simp at h
    ·rename_i v sz xs
     replace hx:=ApR hx
     split at h
     ·rename_i sz'' xs'' hv
      split at h
      ·rename_i hc2
       obtain⟨rfl,rfl,hmax⟩:=hc2
       simp only[sJ,pJ] at h
       obtain⟨rfl,rfl⟩:=h
       cases x with
       |tmp tx=>
        have h1:=hs.view tx _ _ _ hx _ _ hv
        have h2:=hs.own v _ _ hv
        rw[h1] at h2
        exact core (l:=.tmp v) hxr h2 hmax _ (hs.plainAt v) (λl' hl'=>AaV hl') rfl rfl
       |const cv=>exact absurd hx (Aj0 cv)
       |global g=>simp[ev] at hx
       |func f=>simp[ev] at hx
      simp at h
     simp at h
    ·rename_i b off sz xs
     replace hx:=ApR hx
     split at h
     ·rename_i cells hcells0
      obtain⟨cs0,hcells,hmo,hfl0⟩:=yO hcells0
      split at h
      ·rename_i sz'' xs'' hcc
       have hfl:fK cs0=cs0:=by rw[hfl0] at hcc; exact Ai6 hcc
       rw[hfl] at hfl0
       subst hfl0
       split at h
       ·rename_i hc2
        obtain⟨rfl,rfl,hmax⟩:=hc2
        simp only[sJ,pJ] at h
        obtain⟨rfl,rfl⟩:=h
        cases x with
        |tmp tx=>
         have h1:=hs.view tx _ _ _ hx _ _ _ hcells hcc
         obtain⟨vv,g1,_,_,_,g5⟩:=(hs.heap b _ hcells).2.2.cells hmo off _ (by rw[hfl]; exact hcc) sM
         rw[h1,sJ] at g1
         have h2:=g5 _ _ rfl
         rw[←g1] at h2
         exact core (l:=.cell b off) hxr h2 hmax _ (hs.plainCell hcells hmo hfl (by rw[hcc]; simp) _ h1 hxr) (λl' hl'=>AqK hcells hl') rfl rfl
        |const cv=>exact absurd hx (Aj0 cv)
        |global g=>simp[ev] at hx
        |func f=>simp[ev] at hx
       simp at h
      simp at h
     simp at h
    simp at h
   simp at h
  simp at h
 simp at h
end
end Go.AM
namespace Go.AM
open Go
variable [cU]
def dP (n:Nat):Code->Bool
 |.region _ ops _=>ops.toList.all λo=>match o.dst with|some d=>decide (d<n)|none=>true
 |.seq a b=>dP n a&&dP n b
 |.cond _ a b=>dP n a&&dP n b
 |.block _ c=>dP n c
 |.loop c=>dP n c
 |.scope c=>dP n c
 |_=>true
def AjT (fn:Func):Bool:=
 !(fn.name == "runtime.NumGoroutine")&&match fn.body with|some c=>dP fn.ntmps c|none=>true
structure oW (P:Program):Prop where
 func:∀(f:Nat) (fn:Func),P.funcs[f]?=some fn->AjT fn=true
 mixed:P.follows .mixedOrders=true
section
variable {P:Program} {K K':Col} {μ μ':Nat->Nat} {w w':World} {s:St} {a:Act}
theorem Sim.weaken (h:Sim K μ s a w) {tm:List (Nat×V)} (hb:∀t v,look t tm=some v->∃v',look t s.tmps=some v'/\(v=v'\/∃l sz xs,v'=.view l sz xs/\v=.d (.list sz xs))) :
  Sim K μ { s with tmps:=tm } a w:=by
 refine⟨?_,?_,?_,?_,h.heap,h.bound,h.defs,h.dids,h.glob⟩
 ·intro t V ht
  obtain⟨v',h1,h2⟩:=hb t V ht
  refine⟨(h.tm t v' h1).1,?_⟩
  rcases h2 with rfl|⟨l',sz,xs,rfl,rfl⟩
  ·exact (h.tm t _ h1).2
  exact (h.tm t _ h1).2
 ·intro t V ht b hbb
  obtain⟨v',h1,h2⟩:=hb t V ht
  rcases h2 with rfl|⟨l',sz,xs,rfl,rfl⟩
  ·exact h.tids t _ h1 b hbb
  simp[Go.AM.V.ids,C.ids] at hbb
 ·intro t sz xs ht
  obtain⟨v',h1,h2⟩:=hb t _ ht
  rcases h2 with rfl|⟨l',sz',xs',rfl,e⟩
  ·exact h.own t sz xs h1
  simp at e
 intro t l' sz xs ht
 obtain⟨v',h1,h2⟩:=hb t _ ht
 rcases h2 with rfl|⟨l'',sz',xs',rfl,e⟩
 ·have hv:=h.view t l' sz xs h1
  cases l' with
  |cell b off=>exact hv
  |tmp k=>
   intro z ys hk
   obtain⟨v'',h3,h4⟩:=hb k _ hk
   rcases h4 with rfl|⟨_,_,_,rfl,e⟩
   ·exact hv z ys h3
   simp at e
 simp at e
theorem Sim.unviewIn (h:Sim K μ s a w) (ids:List Nat):Sim K μ { s with tmps:=AM.unviewIn ids s.tmps } a w:=by
 refine h.weaken λt v ht=>?_
 obtain⟨v',h1,h2,_⟩:=rY ht
 refine⟨v',h1,?_⟩
 rcases h2 with rfl|⟨b,off,sz,xs,e1,e2⟩
 ·exact .inl rfl
 exact .inr ⟨_,sz,xs,e1,e2⟩
theorem BbI {t:Nat} {v:V}:∀{l:List (Nat×V)},look t l=some v->∃u,(t,u)∈l
 | [],h=>by simp[look] at h
 |(j,u)::r,h=>by
  simp only[look] at h
  split at h
  ·rename_i hj
   subst hj
   exact⟨u,sM⟩
  obtain⟨w,hw⟩:=BbI h
  exact⟨w,List.mem_cons_of_mem _ hw⟩
theorem qO {id:Nat} {tm:List (Nat×V)} (h:noView id tm=true) (t off sz:Nat) (xs:List D):look t tm≠some (.view (.cell id off) sz xs):=by
 intro hl
 obtain⟨u,hu⟩:=BbI hl
 simp only[noView,List.all_eq_true] at h
 have:=h _ hu
 simp[hl] at this
theorem Bd3 {id:Nat} {tm:List (Nat×V)} (h:∀(t off sz:Nat) (xs:List D),look t tm≠some (.view (.cell id off) sz xs)):noView id tm=true:=by
 simp only[noView,List.all_eq_true]
 rintro⟨t,v⟩ _
 cases hl:look t tm with
 |none=>rfl
 |some u=>
  cases u with
  |view l sz xs=>
   cases l with
   |cell b off=>
    by_cases hb:b=id
    ·subst hb; exact absurd hl (h t off sz xs)
    simp[hb]
   |tmp _=>rfl
  |_=>rfl
theorem AeK (hP:oW P) {f:Nat} (hf:Callee P f) (args:Array Value) (w:World):(callFunc f args).run P w=.ok (.enter f args) w:=by
 obtain⟨fn,h1,h2⟩:=hf
 have h3:=hP.func f fn h1
 simp only[AjT,Bool.and_eq_true,Bool.not_eq_true'] at h3
 replace h3:=h3.1
 obtain⟨c,hc⟩:=Option.isSome_iff_exists.1 h2
 simp[callFunc,h1,hc]
 intro h
 rw[beq_eq_false_iff_ne] at h3
 exact absurd h h3
structure AjF (P:Program) (K:Col) (μ:Nat->Nat) (s:St) (a:Act) (w:World) (o:Oper) (r:gR) (next:Act->World->Prop) (Q:Exit->Act->World->Prop):Prop where
 val:∀V s' K' μ' a' w',r=.val V s'->fT K μ w s.nid K' μ' w'->s.nid<=s'.nid->Sim K' μ' (putDst o V s') a' w'->a'.tmps.size=a.tmps.size->next a' w'
 pan:∀d s' K' μ' w' u,r=.pan d s'->fT K μ w s.nid K' μ' w'->s.nid<=s'.nid->Sim K' μ' s' a w'->Rep K' w' d u->Q (.panic [⟨u,false,false⟩]) a w'
theorem mA {o:Oper} {V:V} {s':St} {next:Act->World->Prop} {Q:Exit->Act->World->Prop} (hb:AjF P K μ s a w o (.val V s') next Q)
  (hst:Step iD K w K' w') (hmu:∀b,b<s.nid->μ' b=μ b) (hnid:s.nid<=s'.nid) (hs':Sim K' μ' s' a w') (hd:∀t,o.dst=some t->t<a.tmps.size) {v:Value} (hg:Good K' μ' s' a w' o.dst V v) :
  next (a.put o.dst v) w':=by
 refine hb.val V s' K' μ' (a.put o.dst v) w' rfl ⟨hst,hmu⟩ hnid ?_ (mS _ _ _)
 exact hs'.put hd hg
def Bi2 (nb:Option (List C)) (s:St):St:=
 match nb with
 |none=>s
 |some cs=>{ s with heap:=(s.nid,cs)::s.heap,nid:=s.nid+1 }
theorem Step.none_mine {K:Col} {w:World} {K':Col} {w':World} (h:Step (λ_=>False) K w K' w'):Step iD K w K' w':=h.mono sM
theorem BfG {o:Oper} (hs:Sim K μ s a w) (hd:∀t,o.dst=some t->t<a.tmps.size) {V:V} {nb:Option (List C)} (h:evR P s.nid o s.tmps s.heap=some (V,nb))
  {next:Act->World->Prop} {Q:Exit->Act->World->Prop}
  (hnv:nb.isSome=true->noView s.nid s.tmps=true) (hb:AjF P K μ s a w o (.val V (Bi2 nb s)) next Q):o.wp P a w next Q:=by
 rcases BcN hs h with ⟨rfl,v,K',w',hrun,hst,hbd,hg⟩|⟨cs,c,rfl,rfl,hmc,arr,e,hrun,hmsz,hcs⟩
 ·simp only[Oper.wp,hrun,Oper.upon_value]
  refine mA hb hst.none_mine (λ_ _=>rfl) (Nat.le_refl _) ?_ hd hg
  exact hs.step hst sM sM sM hbd
 simp only[Oper.wp,hrun,Oper.upon_value]
 have hom:=iF w (.cells arr e)
 have hs1:Sim (gS K w.heap.size λ_=>.blk s.nid) μ s a (w.alloc (.cells arr e)):=
  hs.step (hom.step λ_=>.blk s.nid) sM sM sM (hom.bound hs.bound _)
 obtain⟨h1,h2,h3,h4⟩:=hcs μ hs
 have hcell:∀i v,arr.toList[i]?=some v->(w.alloc (.cells arr e)).cell? (ad w.heap.size i)=some v/\(w.alloc (.cells arr e)).frozen? (ad w.heap.size i)=false:=by
  intro i v hv
  refine⟨?_,by rw[hom.frozen]; simp⟩
  rw[hom.cell]
  simpa using hv
 have hs2:=hs1.addBlk (g:=w.heap.size) (cs:=cs) (vs:=arr.toList) sM (λoff=>by simp[gS]) hcell (h1.step (hom.step λ_=>.blk s.nid) sM) h2 h3 h4 (qO (hnv rfl))
 refine mA hb (hom.step λ_=>.blk s.nid).none_mine (λb hb=>nF μ _ oM) (by show s.nid<=s.nid+1; omega) hs2 hd ⟨?_,?_,by intro sz xs e; rcases hmc with rfl|⟨n,k,rfl⟩<;>simp at e,sM⟩
 ·exact hmc.rep (fR _ _ _) hmsz λi hi=>⟨by rw[hom.cell]; simp[hi],by rw[hom.frozen]; simp⟩
 intro b hb
 simp only[V.ids,hmc.ids,List.mem_singleton] at hb
 subst hb
 show s.nid<s.nid+1
 omega
theorem AqJ {o:Oper} (hd:∀t,o.dst=some t->t<a.tmps.size) {V:V} {s':St} (h:AvQ P K μ s a w o V s') {next:Act->World->Prop} {Q:Exit->Act->World->Prop}
  (hb:AjF P K μ s a w o (.val V s') next Q):o.wp P a w next Q:=by
 obtain⟨v,K',w',hrun,hst,hs',hg,hnid,_⟩:=h
 simp only[Oper.wp,hrun,Oper.upon_value]
 exact mA hb hst (λ_ _=>rfl) oM hs' hd hg
theorem AwR (hs:Sim K μ s a w) {o:Oper} {x:Operand} (ho:o.op=.assign x) {call:Call} {r:gR} {ft:eX} (h:cV P call s.nid o s=some (r,ft)) :
  ∃V s',r=.val V s'/\AvQ P K μ s a w o V s':=by
 have hrun:(execOp a.eval o).run P w=.ok (.value (a.eval x)) w:=by simp[execOp,ho]
 simp only[cV,ho] at h
 split at h
 ·rename_i sz xs hx
  split at h
  ·rename_i u
   simp only[sJ,pJ] at h
   obtain⟨rfl,rfl⟩:=h
   refine⟨_,_,rfl,a.eval (.tmp u),?_⟩
   have hr:=fN hs hx
   replace hx:=AuL hx
   have hsp:=hs.own u sz xs hx
   cases hdst:o.dst with
   |none=>
    exact⟨K,w,hrun,Step.refl _ _ _,hs.plainAt u,⟨hr,by simp[V.ids,C.ids],by intro _ _ _ t ht; simp at ht,sM⟩,rfl,rfl⟩
   |some d=>
    have hst:=AtO K w (.tmp u) (.tmp d)
    refine⟨AcE K (.tmp u) (.tmp d),w,hrun,hst.mono λt=>AvJ,?_,⟨hr.step hst sM,by simp[V.ids,C.ids],?_,sM⟩,rfl,rfl⟩
    ·refine (hs.plainAt u).step hst sM sM ?_ (Ap4 hs.bound _ _)
     intro l hl e
     simp only[Tag.sp.injEq] at e
     exact AaV hl e
    intro sz' xs' e t ht
    simp only[V.c.injEq,C.own.injEq] at e
    simp only[sJ] at ht
    subst ht
    rw[←e.1]
    exact hsp.move
  simp at h
 ·rename_i n hx
  simp only[sJ,pJ] at h
  obtain⟨rfl,rfl⟩:=h
  have hq:=fN hs hx
  simp only[bY,RepC] at hq
  exact⟨_,_,rfl,a.eval x,K,w,hrun,Step.refl _ _ _,hs,⟨by simp only[bY,RepC,Rep]; exact .inl ⟨sM,.inl hq⟩,by simp[V.ids,C.ids],λsz xs e t ht=>.inl (.inl hq),sM⟩,rfl,rfl⟩
 ·rename_i n xs hx
  simp only[sJ,pJ] at h
  obtain⟨rfl,rfl⟩:=h
  have hq:=fN hs hx
  simp only[bY,RepC] at hq
  exact⟨_,_,rfl,a.eval x,K,w,hrun,Step.refl _ _ _,hs,⟨hq.1,by simp[V.ids,C.ids],λsz xs e t ht=>by simp only[V.c.injEq,C.own.injEq] at e; rw[←e.1]; exact hq.2.spare _ _,sM⟩,rfl,rfl⟩
 ·rename_i l sz xs hx
  simp only[sJ,pJ] at h
  obtain⟨rfl,rfl⟩:=h
  exact⟨_,_,rfl,a.eval x,K,w,hrun,Step.refl _ _ _,hs,⟨by have q:=fN hs hx; exact q,by simp[V.ids,C.ids],sM,sM⟩,rfl,rfl⟩
 ·rename_i v hno hnn hnf hnv hx
  simp only[sJ,pJ] at h
  obtain⟨rfl,rfl⟩:=h
  exact⟨_,_,rfl,a.eval x,K,w,hrun,Step.refl _ _ _,hs,⟨fN hs hx,xE hs hx,λsz xs e=>(hno sz xs e).elim,λl sz xs e=>(hnv l sz xs e).elim⟩,rfl,rfl⟩
 simp at h
theorem AaX {t:TypeId} {v:Value} {blk off:Nat} (hn:tsz P t=some v.cells.size) (hex:∀j,j<v.cells.toList.length->(w.cell? (ad blk (off+j))).isSome=true/\w.frozen? (ad blk (off+j))=false)
  (h1:∀x∈v.cells.toList,eZ x=true):(storeVar t (ad blk off) v).run P w=.ok () (w.setCells blk off v.cells.toList):=by
 have hst:=run_storeCells_cells (P:=P) blk off v.cells.toList 0 w (λj hj=>by simpa using (hex j hj).1) (λj hj=>by simpa using (hex j hj).2) (λv hv=>by rw[←AqA]; exact h1 v hv)
 simp at hst
 simp[storeVar,dX hn,hst]
theorem kI.lens {sz:Nat} {ds:List D} {vs:List Value} (h:kI K w sz ds vs):∀d∈ds,d.cells.length=sz:=by
 induction h with
 |nil=>simp
 |cons h1 h2 _ ih=>
  intro d hd
  rcases List.mem_cons.1 hd with rfl|hd
  ·have:=(yY h1).length
   rw[this,Array.length_toList]; exact h2
  exact ih d hd
theorem AaT (xs ys:List D):fL (xs++ys)=fL xs++fL ys:=by simp[fL]
theorem BhK (hs:Sim K μ s a w) {o:Oper} {c:Go.Call} {t u:TypeId} {x y:Operand} (ho:o.op=.call c) (hc:c.callee=.builtin .copy)
  (hargs:c.args.toList=[x,y]) (hty:c.argTypes.toList=[t,u]) {V:V} {s':St} (h:Am4 P t u x y s=some (V,s')):AvQ P K μ s a w o V s':=by
 have hargs':c.args=#[x,y]:=by apply Array.ext'; simpa using hargs
 have hty':c.argTypes=#[t,u]:=by apply Array.ext'; simpa using hty
 have exec:∀{v:Value} {w':World},(Builtin.copy_ #[t,u] o.type #[a.eval x,a.eval y]).run P w=.ok v w'->(execOp a.eval o).run P w=.ok (.value v) w':=by
  intro v w' hr
  simp[execOp,ho,resolve,hc,hargs',hty',invoke,builtin,hr]
 have good:∀{K':Col} {s':St} {w':World} (n:Int),Good K' μ s' a w' o.dst (.c (.d (.int .i64 n))) (.int .i64 n):=λn=>
  ⟨rfl,by simp[Go.AM.V.ids,C.ids],sM,sM⟩
 unfold Am4 at h
 split at h
 ·rename_i e b n sz sz' ys ht hx hy
  have hte:=rJ ht
  rw[Option.bind_eq_some_iff] at hy
  obtain⟨vy,hvy,happ⟩:=hy
  have hyr:=fN hs hvy
  have hxr:=cY hs hx
  simp only[bY,RepC] at hxr
  obtain⟨vs,hes,hlen,hfirst⟩:=AeI (P:=P) happ hyr
  split at h
  ·rename_i hcond
   obtain⟨hn,rfl⟩:=hcond
   split at h
   ·rename_i hm0
    simp only[sJ,pJ] at h
    obtain⟨rfl,rfl⟩:=h
    have hys:ys=[]:=List.length_eq_zero_iff.1 hm0
    subst hys
    obtain⟨base,cap,hv⟩:=hxr.one
    cases hes
    have hf:=hfirst w λ_ _=>rfl
    simp only[cellsOf,List.length_nil] at hf hlen
    refine⟨_,K,w,exec (v:=.int .i64 0) ?_,Step.refl _ _ _,hs,good 0,rfl,rfl⟩
    rw[hv]
    cases base<;>simp[Builtin.copy_,run_underlying hte,dX hn,hlen,hf,Go.storeCells,goInt]
   rename_i m hm
   split at h
   ·rename_i sz2 ds hb
    split at h
    ·rename_i hc2
     obtain⟨rfl,rfl,hmn⟩:=hc2
     simp only[sJ,pJ] at h
     obtain⟨rfl,rfl⟩:=h
     obtain⟨cap,hv,hcap,hal⟩:=hxr.based oM
     have hok:=(hs.heap b _ hb).2.2.seq.2
     obtain⟨hyc,hy1⟩:=kI.cellsC (μ:=μ) hes
     have hyl:=hes.lens
     have hcl:(cellsOf vs).length=ys.length*sz2:=hes.cells
     have hfl:(fL ys).length=ys.length*sz2:=by rw[←hcl]; exact hyc.length
     have hall:∀(l:List D),(∀d∈l,d.cells.length=sz2)->(fL l).length=l.length*sz2:=by
      intro l hl
      induction l with
      |nil=>simp[fL]
      |cons d l ih=>
       have h1:=hl d sM
       have h2:=ih λd hd=>hl d (by simp[hd])
       simp only[fL,List.flatMap_cons,List.length_append,List.length_map,List.length_cons] at h2 ⊢
       rw[h1,h2,Nat.succ_mul]; omega
     have hsplit:fL ds=fL (ds.take (m+1))++fL (ds.drop (m+1)):=by rw[←AaT,List.take_append_drop]
     have htl:(fL (ds.take (m+1))).length=(fL ys).length:=by
      rw[hall _ λd hd=>hok.2 d (List.mem_of_mem_take hd),hfl,hm,List.length_take,Nat.min_eq_left hmn]
     have hnh:∀o:Nat,([.seq sz2 ds]:List C)[o]?≠some .hid:=λo e=>by cases o<;>simp at e
     obtain⟨q1,q2,q3⟩:=hs.storeG (off:=0) (cells0:=[.seq sz2 ds]) (new:=[.seq sz2 (ys++ds.drop (m+1))]) (ncs:=fL ys) (nvs:=cellsOf vs) hb (λhq=>by
       obtain⟨_,e,_⟩:=mP hq
       simp only[List.cons.injEq,C.seq.injEq,and_true] at e
       obtain⟨_,rfl⟩:=e
       simp at hmn) rfl (by
       simp only[fK]
       rw[AaT,hsplit]
       have:=AeT (fL ys) [] (fL (ds.take (m+1))) (fL (ds.drop (m+1))) htl
       simpa using this.symm) rfl (λz es e=>by
       simp only[List.cons.injEq,C.seq.injEq,and_true] at e
       obtain⟨rfl,rfl⟩:=e
       refine⟨hok.1,λd hd=>?_⟩
       rcases List.mem_append.1 hd with hd|hd
       ·exact hyl d hd
       exact hok.2 d (List.mem_of_mem_drop hd)) (λj _ e=>by obtain⟨d,hd⟩:=qD (List.mem_of_getElem? e); simp at hd) (λo ho=>absurd ho (hnh o))
      (by simp only[fK]; rw[hsplit,List.length_append,htl]; omega) hyc hy1 (λc hc i hi=>by obtain⟨d,rfl⟩:=qD hc; simp[C.ids] at hi)
      (λi sz xs hi=>by obtain⟨d,hd⟩:=qD (List.mem_of_getElem? hi); simp at hd)
      (λt i sz xs z zs _ e=>by obtain⟨d,hd⟩:=qD (List.mem_of_getElem? e); simp at hd)
     have hf:=hfirst w λ_ _=>rfl
     have hst:=run_storeCells_cells (P:=P) (μ b) 0 (cellsOf vs) 0 w (λj hj=>(q3 j hj).1) (λj hj=>(q3 j hj).2) (λv hv=>by rw[←AqA]; exact hy1 v hv)
     simp at hst
     refine⟨_,K,_,exec (v:=.int .i64 (m+1:Nat)) ?_,q2.mono (by rintro t rfl; simp[iD]),q1,good _,rfl,rfl⟩
     rw[hv]
     rw[hm] at hlen hf
     have hmin:(m+1).min ds.length=m+1:=Nat.min_eq_left oM
     simp[Builtin.copy_,run_underlying hte,dX hn,hlen,hmin,hf,hst,goInt]
    simp at h
   simp at h
  simp at h
 simp at h
theorem BfH (hs:Sim K μ s a w) {o:Oper} {t:TypeId} {x y:Operand} (ho:o.op=.store t x y) {call:Call} {r:gR} {ft:eX} (h:cV P call s.nid o s=some (r,ft)) :
  ∃s' K' w',r=.val (.c .undef) s'/\(execOp a.eval o).run P w=.ok .skip w'/\Step iD K w K' w'/\Sim K' μ s' a w'/\s'.nid=s.nid/\s'.defers=s.defers:=by
 simp only[cV,ho] at h
 split at h
 ·rename_i b off sz xs hx hy
  split at h
  ·rename_i hn
   split at h
   ·rename_i u hp hst
    simp only[sJ,pJ] at h
    obtain⟨rfl,rfl⟩:=h
    have hxr:=cY hs hx
    simp only[bY,RepC] at hxr
    have hyr:=fN hs hy
    have hsp:=hs.own u sz xs (AuL hy)
    have h1:eZ (a.eval (.tmp u))=true:=xH (d:=.list sz xs) hyr sM
    have hmv:=AtO K w (.tmp u) (.cell b off)
    have hs1:=hs.plainAt u
    have hs2:Sim (AcE K (.tmp u) (.cell b off)) μ { s with tmps:=AM.plainAt u s.tmps } a w:=by
     refine hs1.step hmv sM sM ?_ (Ap4 hs.bound _ _)
     intro l hl e
     simp only[Tag.sp.injEq] at e
     exact AaV hl e
    obtain⟨hs3,hnv⟩:=hs2.unview (.cell b off)
    have hcs:(a.eval (.tmp u)).cells.toList=[a.eval (.tmp u)]:=by rw[wV h1]
    obtain⟨q1,q2,q3⟩:=hs3.storeCells (ncs:=[.own sz xs]) (nvs:=[a.eval (.tmp u)]) hst
     (.cons (hyr.step hmv sM) .nil) (by simpa using h1) (by simp[C.ids])
     (by
      intro i z ys hi v hv
      cases i with
      |zero=>
       simp at hi hv; subst hv
       rw[←hi.1]
       exact hsp.move
      |succ i=>simp at hi)
     (by
      intro t i sz' xs' z ys ht hi
      cases i with
      |zero=>exact hnv t sz' xs' (by simpa using ht)
      |succ i=>simp at hi)
    refine⟨_,_,_,rfl,?_,(hmv.mono λt=>AvJ).trans (q2.mono λt ht=>by subst ht; simp[iD]),q1,rfl,rfl⟩
    have hrun:=AaX (P:=P) (w:=w) (t:=t) (v:=a.eval (.tmp u)) (blk:=μ b) (off:=off) (by rw[hn,wV h1]; rfl) (by rw[hcs]; exact q3) (by rw[hcs]; simpa using h1)
    rw[hcs] at hrun
    simp[execOp,ho,hxr,Instr.storeAt,Instr.sureAddr,hrun]
   simp at h
  simp at h
 ·rename_i b off v hno hx hy
  split at h
  ·rename_i cs hcs
   split at h
   ·rename_i hn
    split at h
    ·split at h
     ·rename_i hp hst hnv
      simp only[sJ,pJ] at h
      obtain⟨rfl,rfl⟩:=h
      have hxr:=cY hs hx
      simp only[bY,RepC] at hxr
      have hyr:=fN hs hy
      obtain⟨r1,r2⟩:=V.cells_rep hcs hyr
      obtain⟨q1,q2,q3⟩:=hs.storeCells (ncs:=cs.map C.placed) (nvs:=(a.eval y).cells.toList) hst r1.placed r2
       (by
        intro c hc i hi
        simp only[List.mem_map] at hc
        obtain⟨c',hc',rfl⟩:=hc
        rw[C.placed_ids] at hi
        exact xE hs hy i (V.cells_ids hcs c' hc' i hi))
       (by
        intro i z ys hi v hv
        simp only[List.getElem?_map,Option.map_eq_some_iff] at hi
        obtain⟨c',hci,hc'⟩:=hi
        obtain⟨u,hu,hru⟩:=r1.get hci
        rw[hv,sJ] at hu
        subst hu
        exact (C.placed_capped hc' hru).spare _ _)
       (by
        intro t i sz' xs' z ys ht hi
        exact absurd ht (qO hnv t (off+i) sz' xs'))
      refine⟨_,_,_,rfl,?_,q2.mono λt ht=>by subst ht; simp[iD],q1,rfl,rfl⟩
      have hl:=r1.length
      have hrun:=AaX (P:=P) (w:=w) (t:=t) (v:=a.eval y) (blk:=μ b) (off:=off) (by rw[hn,hl]; simp) q3 r2
      simp[execOp,ho,hxr,Instr.storeAt,Instr.sureAddr,hrun]
     ·simp at h
    split at h
    ·rename_i hp hst
     simp only[sJ,pJ] at h
     obtain⟨rfl,rfl⟩:=h
     have hxr:=cY hs hx
     simp only[bY,RepC] at hxr
     have hyr:=fN hs hy
     obtain⟨r1,r2⟩:=V.cells_rep hcs hyr
     obtain⟨q1,q2,q3⟩:=hs.storeCells (ncs:=cs.map C.plain) (nvs:=(a.eval y).cells.toList) hst r1.plain r2
      (by
       intro c hc i hi
       simp only[List.mem_map] at hc
       obtain⟨c',hc',rfl⟩:=hc
       rw[C.plain_ids] at hi
       exact xE hs hy i (V.cells_ids hcs c' hc' i hi))
      (by
       intro i z ys hi
       simp only[List.getElem?_map,Option.map_eq_some_iff] at hi
       obtain⟨c',_,hc'⟩:=hi
       cases c'<;>simp[C.plain] at hc')
      (by
       intro t i sz' xs' z ys _ hi
       simp only[List.getElem?_map,Option.map_eq_some_iff] at hi
       obtain⟨c',_,hc'⟩:=hi
       cases c'<;>simp[C.plain] at hc')
     refine⟨_,_,_,rfl,?_,q2.mono λt ht=>by subst ht; simp[iD],q1,rfl,rfl⟩
     have hl:=r1.length
     have hrun:=AaX (P:=P) (w:=w) (t:=t) (v:=a.eval y) (blk:=μ b) (off:=off) (by rw[hn,hl]; simp) q3 r2
     simp[execOp,ho,hxr,Instr.storeAt,Instr.sureAddr,hrun]
    simp at h
   simp at h
  simp at h
 simp at h
theorem sW {K:Col} {w:World} {dst:Option Nat}:Good K μ s a w dst (.c .undef) Go.undef:=⟨by simp[bY,RepC],by simp[V.ids,C.ids],sM,sM⟩
theorem BbN:∀caps:List Nat,aZ K μ w (caps.map λb=>C.ptr b 0) (caps.map λb=>Value.pointer (some (ad (μ b) 0)))
 | []=>.nil
 |_::caps=>.cons rfl (BbN caps)
theorem AhX (hs:Sim K μ s a w):∀{l:List Operand} {ts:List TypeId} {cs:List C},pF P s.tmps l ts=some cs->aZ K μ w cs (l.map a.eval)
 | [],_,cs,h=>by simp only[pF,sJ] at h; subst h; exact .nil
 |x::l,ts,cs,h=>by
  simp only[pF] at h
  split at h
  ·rename_i c cs' hc hcs
   simp only[sJ] at h; subst h
   rw[Option.bind_eq_some_iff] at hc
   obtain⟨vx,hvx,hax⟩:=hc
   exact .cons (AkG (fN hs hvx) hax).1 (AhX hs hcs)
  simp at h
theorem MV.of_rep {v:V} {m:MV} {u:Value} (h:MV.of v=some m) (hr:bY K μ w v u):RepC K μ w m.toC u/\∀b∈m.ids,b∈v.ids:=by
 unfold MV.of at h
 split at h
 ·simp only[sJ] at h; subst h
  exact⟨hr,λb hb=>hb⟩
 simp only[Option.map_eq_some_iff] at h
 obtain⟨d,hd,rfl⟩:=h
 exact⟨V.toD_rep hd hr,by simp[MV.ids]⟩
theorem AyO {x:D} {m:MV} {Q:Nat->Prop} (hm:∀b∈m.ids,Q b):∀{kvs kvs':List (D×MV)},AlR x m kvs=some kvs'->(∀y∈kvs,∀b∈y.2.ids,Q b)->∀y∈kvs',∀b∈y.2.ids,Q b
 | [],kvs',h,_=>by
  simp only[AlR,sJ] at h; subst h
  intro y hy; simp only[List.mem_singleton] at hy; subst hy; exact hm
 |(k,m')::r,kvs',h,hq=>by
  simp only[AlR] at h
  split at h
  ·simp only[sJ] at h; subst h
   intro y hy
   rcases List.mem_cons.1 hy with rfl|hy
   ·exact hm
   exact hq y (by simp[hy])
  ·simp only[Option.map_eq_some_iff] at h
   obtain⟨r',h,rfl⟩:=h
   intro y hy
   rcases List.mem_cons.1 hy with rfl|hy
   ·exact hq _ sM
   exact AyO hm h (λy hy=>hq y (by simp[hy])) y hy
  simp at h
theorem AlM (hs:Sim K μ s a w) {o:Oper} {t:TypeId} {m k v:Operand} (ho:o.op=.mapUpdate t m k v\/o.op=.insert t m k v) {call:Call} {r:gR} {ft:eX} (h:cV P call s.nid o s=some (r,ft)) :
  ∃s' K' w',r=.val (.c .undef) s'/\(execOp a.eval o).run P w=.ok .skip w'/\Step iD K w K' w'/\Sim K' μ s' a w'/\s'.nid=s.nid/\s'.defers=s.defers:=by
 obtain⟨s1,b1,h',hr1⟩:∃s1 b1,Bb1 P t m k v s=some (s1,b1)/\r=.val (.c .undef) s1:=by
  rcases ho with ho|ho<;>simp only[cV,ho] at h<;>split at h<;>first
   |(simp only[sJ,pJ] at h; obtain⟨rfl,_⟩:=h; exact⟨_,_,by assumption,rfl⟩)
   |(simp at h; done)
 subst hr1
 unfold Bb1 at h'
 have hexec:∀{w':World},(Instr.mapUpdate t (a.eval m) (a.eval k) (a.eval v)).run P w=.ok () w'->(execOp a.eval o).run P w=.ok .skip w':=by
  intro w' hr
  rcases ho with ho|ho<;>simp[execOp,ho,hr]
 split at h'
 ·rename_i kt e b kd hmt hx hy
  obtain⟨htt,d,hkt⟩:=AmM hmt
  have hxr:=cY hs hx
  simp only[bY,RepC] at hxr
  obtain⟨yv,hyv,hyd⟩:=Option.bind_eq_some_iff.1 hy
  have hyr:=V.toD_rep hyd (cY hs hyv)
  split at h'
  ·rename_i mv cs hkey hv hb
   split at h'
   ·rename_i kvs hm
    split at h'
    ·rename_i kvs' hset
     simp only[sJ,pJ] at h'
     obtain⟨rfl,rfl⟩:=h'
     obtain⟨vv,hvv,hmv⟩:=Option.bind_eq_some_iff.1 hv
     obtain⟨hvr,hvi⟩:=MV.of_rep hmv (fN hs hvv)
     have hik:=Aq9 hkey hkt hyr
     obtain⟨es,clk,hobj,hrep,hbn⟩:=(hs.heap b cs hb).2.2.map hm
     have hids:∀x∈kvs',∀i∈x.2.ids,i<s.nid:=by
      refine AyO (λi hi=>xE hs hvv i (hvi i hi)) hset ?_
      obtain⟨cm,hcm,_,hcid,_⟩:=AiC hm
      subst hcm
      intro y hy i hi
      exact (hs.heap b _ hb).2.1 cm sM i (hcid y hy i hi)
     rcases AtJ hyr hik hvr 0 hset hrep with ⟨g1,g2⟩|⟨j,en,g1,g2,g3,g4⟩
     ·obtain⟨q1,q2⟩:=hs.storeMap (AqH hm hset) (clk':=clk+1) (es':=es.push { key:=a.eval k,val:=a.eval v,born:=clk }) hb hm hobj (by simpa using g2 clk) (by simpa using hbn.push rfl) hids
      refine⟨_,_,_,rfl,hexec ?_,q2.mono λt ht=>by subst ht; simp[iD],q1,rfl,rfl⟩
      simp[Instr.mapUpdate,hxr,run_underlying htt,MapKept.run_getObj_map hobj,MapKept.run_checkKey hkt hik,MapKept.run_findKey hkt g1,MapKept.run_setObj_map _ hobj]
     have hj:es[j]?=some en:=by simpa using g2
     have hmod:(es.modify j λe=>{ e with key:=a.eval k,val:=a.eval v }).toList=es.toList.set j { en with key:=a.eval k,val:=a.eval v }:=by
       apply List.ext_getElem?
       intro i
       rw[Array.getElem?_toList,Array.getElem?_modify,List.getElem?_set]
       by_cases hij:j=i
       ·subst hij
        have hl:j<es.toList.length:=(List.getElem?_eq_some_iff.1 g2).1
        simp only[if_true,hj,Option.map_some,hl]
       simp only[hij,if_false,Array.getElem?_toList]
     obtain⟨q1,q2⟩:=hs.storeMap (AqH hm hset) (clk':=clk) (es':=es.modify j λe=>{ e with key:=a.eval k,val:=a.eval v }) hb hm hobj (by
      rw[hmod]
      exact g4) (by
      rw[hmod]
      refine hbn.same ?_
      apply List.ext_getElem?
      intro i
      rw[List.map_set,List.getElem?_set]
      by_cases hij:j=i
      ·subst hij
       have hl:j<es.toList.length:=(List.getElem?_eq_some_iff.1 g2).1
       rw[if_pos rfl,List.length_map,if_pos hl,List.getElem?_map,g2]
       rfl
      rw[if_neg hij]) hids
     refine⟨_,_,_,rfl,hexec ?_,q2.mono λt ht=>by subst ht; simp[iD],q1,rfl,rfl⟩
     simp[Instr.mapUpdate,hxr,run_underlying htt,MapKept.run_getObj_map hobj,MapKept.run_checkKey hkt hik,MapKept.run_findKey hkt g1,hj,g3,MapKept.run_keyThatStays hik,MapKept.run_setObj_map _ hobj]
    simp at h'
   simp at h'
  simp at h'
 simp at h'
theorem Ba4 {o:Oper} {t:TypeId} (ho:o.op=.makeMap t none) (hs:Sim K μ s a w) (hd:∀t,o.dst=some t->t<a.tmps.size) (hnv:noView s.nid s.tmps=true) {next:Act->World->Prop} {Q:Exit->Act->World->Prop}
  (hb:AjF P K μ s a w o (.val (.c (.mp s.nid)) { s with heap:=(s.nid,[.mdat []])::s.heap,nid:=s.nid+1 }) next Q):o.wp P a w next Q:=by
 have hrun:(execOp a.eval o).run P w=.ok (.value (.map (some w.heap.size))) (w.alloc (.map #[] 0)):=by
  simp[execOp,ho,run_makeMap_plain]
 simp only[Oper.wp,hrun,Oper.upon_value]
 have hom:=iF w (.map #[] 0)
 have hs1:Sim (gS K w.heap.size λ_=>.blk s.nid) μ s a (w.alloc (.map #[] 0)):=
  hs.step (hom.step λ_=>.blk s.nid) sM sM sM (hom.bound hs.bound _)
 have hs2:=hs1.addB (g:=w.heap.size) (cs:=[.mdat []]) (.inr ⟨λoff _=>by rw[fR]; simp[gS],by rw[fR]; simp,.inr ⟨[],rfl,#[],0,by rw[fR]; exact hom.new,rfl,.nil _⟩⟩) (by simp[C.ids]) (qO hnv)
 refine mA hb (hom.step λ_=>.blk s.nid).none_mine (λb hb=>nF μ _ oM) (by show s.nid<=s.nid+1; omega) hs2 hd ⟨?_,?_,sM,sM⟩
 ·simp only[bY,RepC,fR]
 intro b hb
 simp only[V.ids,C.ids,List.mem_singleton] at hb
 subst hb
 show s.nid<s.nid+1
 omega
theorem uV {call:Call} (hcall:pY P call) (hP:oW P) (hs:Sim K μ s a w) {o:Oper} {r:gR} {ft:eX} (h:cV P call s.nid o s=some (r,ft))
  (hd:∀t,o.dst=some t->t<a.tmps.size) {next:Act->World->Prop} {Q:Exit->Act->World->Prop} (hb:AjF P K μ s a w o r next Q):o.wp P a w next Q:=by
 have quiet:∀{V:V} {nb:Option (List C)},evR P s.nid o s.tmps s.heap=some (V,nb) ->
   (nb.isSome=true->noView s.nid s.tmps=true)->r=.val V (Bi2 nb s)->o.wp P a w next Q:=by
  intro V nb h1 hnv h2
  subst h2
  exact BfG hs hd h1 hnv hb
 cases ho:o.op with
 |assign x=>
  obtain⟨V,s',rfl,hdn⟩:=AwR hs ho h
  exact AqJ hd hdn hb
 |store t x y=>
  obtain⟨s',K',w',rfl,hrun,hst,hs',hnid,_⟩:=BfH hs ho h
  simp only[Oper.wp,hrun,Oper.upon_skip]
  exact mA hb hst (λ_ _=>rfl) oM hs' hd sW
 |defer c=>
  simp only[cV,ho] at h
  split at h
  ·rename_i f hf hargs
   split at h
   ·rename_i g caps hx
    simp only[sJ,pJ] at h
    obtain⟨rfl,rfl⟩:=h
    have hxr:=cY hs hx
    have hxi:=Aa4 hs hx
    simp only[bY,RepC] at hxr
    have hargs':c.args=#[]:=by apply Array.ext'; simpa using hargs
    have hrun:(execOp a.eval o).run P w=.ok (.defer (AbE μ (g,caps))) w:=by
     simp[execOp,ho,resolve,hf,hargs',Deferred.ofValue,hxr,AbE]
    simp only[Oper.wp,hrun,Oper.upon_defer]
    have hs':Sim K μ { s with defers:=(g,caps)::s.defers } { a with defers:=AbE μ (g,caps)::a.defers } w:=by
     refine⟨hs.tm,hs.tids,hs.own,?_,hs.heap,hs.bound,by simp[hs.defs],?_,hs.glob⟩
     ·intro t l sz xs ht
      have:=hs.view t l sz xs ht
      cases l<;>exact this
     intro x hx b hb'
     rcases List.mem_cons.1 hx with rfl|hx
     ·exact hxi b (by simpa[V.ids,C.ids] using hb')
     exact hs.dids x hx b hb'
    refine hb.val _ _ K μ _ w rfl (fT.refl _ _ _ _) (Nat.le_refl _) ?_ (by rw[mS])
    exact hs'.put (dst:=o.dst) hd sW
   simp at h
  simp at h
 |mapUpdate t m k v=>
  obtain⟨s',K',w',rfl,hrun,hst,hs',hnid,_⟩:=AlM hs (.inl ho) h
  simp only[Oper.wp,hrun,Oper.upon_skip]
  exact mA hb hst (λ_ _=>rfl) oM hs' hd sW
 |insert t m k v=>
  obtain⟨s',K',w',rfl,hrun,hst,hs',hnid,_⟩:=AlM hs (.inr ho) h
  simp only[Oper.wp,hrun,Oper.upon_skip]
  exact mA hb hst (λ_ _=>rfl) oM hs' hd sW
 |makeMap t res=>
  cases res with
  |none=>
   simp only[cV,ho] at h
   split at h
   ·rename_i hnv
    simp only[sJ,pJ] at h
    obtain⟨rfl,rfl⟩:=h
    exact Ba4 ho hs hd hnv hb
   simp at h
  |some x=>simp[cV,ho,evR] at h
 |panic x=>
  simp only[cV,ho] at h
  split at h
  ·rename_i t d hx
   simp only[sJ,pJ] at h
   obtain⟨rfl,rfl⟩:=h
   rw[Option.bind_eq_some_iff] at hx
   obtain⟨vx,hvx,hdx⟩:=hx
   have hr:=V.toD_rep hdx (cY hs hvx)
   have hr':=hr
   simp only[Rep] at hr
   obtain⟨u,hu,_⟩:=hr
   have hrun:(execOp a.eval o).run P w=.halt (.panic (a.eval x)) w:=by
    simp[execOp,ho,hu,Instr.panic]
   simp only[Oper.wp,hrun,Oper.upon_panic]
   exact hb.pan _ _ K μ w _ rfl (fT.refl _ _ _ _) (Nat.le_refl _) hs hr'
  simp at h
 |call c=>
  simp only[cV,ho] at h
  split at h
  ·rename_i hc
   split at h
   ·rename_i x y t u hargs hty
    split at h
    ·rename_i V s' hap
     simp only[sJ,pJ] at h
     obtain⟨rfl,rfl⟩:=h
     exact AqJ hd (Bd6 hs ho hc hargs hty hap) hb
    simp at h
   simp at h
  ·rename_i hc
   split at h
   ·rename_i x y t u hargs hty
    split at h
    ·rename_i V s' hap
     simp only[sJ,pJ] at h
     obtain⟨rfl,rfl⟩:=h
     exact AqJ hd (BhK hs ho hc hargs hty hap) hb
    simp at h
   simp at h
  ·split at h
   ·rename_i V hev
    simp only[sJ,pJ] at h
    obtain⟨rfl,rfl⟩:=h
    exact quiet hev sM rfl
   ·simp at h
  ·rename_i f hc
   split at h
   ·rename_i g caps args hf hargs
    split at h
    ·rename_i r' ids hdc
     simp only[sJ,pJ] at h
     obtain⟨rfl,rfl⟩:=h
     have hfr:=cY hs hf
     simp only[bY,RepC] at hfr
     have hargr:aZ K μ w args (c.args.toList.map a.eval):=AhX hs hargs
     have happ:aZ K μ w (args++caps.map λb=>.ptr b 0) (c.args.toList.map a.eval++caps.map λb=>Value.pointer (some (ad (μ b) 0))):=by
      have aux:∀{x y:List C} {p q:List Value},aZ K μ w x p->aZ K μ w y q->aZ K μ w (x++y) (p++q):=by
       intro x y p q h1 h2
       induction h1 with
       |nil=>exact h2
       |cons q1 _ ih=>exact .cons q1 ih
      refine aux hargr ?_
      exact BbN caps
     have hcal:=AeN hcall hdc hs happ
     have hrun:(execOp a.eval o).run P w=.ok (.enter g ((c.args.toList.map a.eval++caps.map λb=>Value.pointer (some (ad (μ b) 0))).toArray)) w:=by
      have he:=AeK hP (AdG hcall hdc) (c.args.map a.eval++(caps.map λb=>Value.pointer (some (ad (μ b) 0))).toArray) w
      have e2:(c.args.toList.map a.eval++caps.map λb=>Value.pointer (some (ad (μ b) 0))).toArray=c.args.map a.eval++(caps.map λb=>Value.pointer (some (ad (μ b) 0))).toArray:=by
       apply Array.ext'; simp
      rw[e2]
      simp[execOp,ho,resolve,hc,Deferred.ofValue,hfr,invoke,he]
     simp only[Oper.wp,hrun,Oper.upon_enter]
     refine hcal.mono ?_
     rintro e w' ⟨K',μ',haf,hres⟩
     cases r' with
     |val v s'=>
      obtain⟨h1,h2,h3,h4,_,u,rfl,h6⟩:=hres
      exact mA hb haf.step haf.mu h2 h1 hd ⟨h6,h4,λsz xs e=>absurd e (h3.1 sz xs),λl sz xs e=>absurd e (h3.2 l sz xs)⟩
     |pan d s'=>
      obtain⟨h1,h2,_,u,rfl,h6⟩:=hres
      exact hb.pan d s' K' μ' w' u rfl haf h2 h1 h6
    simp at h
   ·rename_i g x args hf hargs
    split at h
    ·rename_i r' ids hdc
     simp only[sJ,pJ] at h
     obtain⟨rfl,rfl⟩:=h
     have hfr:=cY hs hf
     simp only[bY,RepC] at hfr
     obtain⟨uf,hfv,huf⟩:=hfr
     have hargr:aZ K μ w args (c.args.toList.map a.eval):=AhX hs hargs
     have happ:aZ K μ w (.d x::args) (uf::c.args.toList.map a.eval):=.cons huf hargr
     have hcal:=AeN hcall hdc hs happ
     have hrun:(execOp a.eval o).run P w=.ok (.enter g ((uf::c.args.toList.map a.eval).toArray)) w:=by
      have he:=AeK hP (AdG hcall hdc) (#[uf]++c.args.map a.eval) w
      have e2:(uf::c.args.toList.map a.eval).toArray=#[uf]++c.args.map a.eval:=by
       apply Array.ext'; simp
      rw[e2]
      simp[execOp,ho,resolve,hc,Deferred.ofValue,hfv,invoke,he]
     simp only[Oper.wp,hrun,Oper.upon_enter]
     refine hcal.mono ?_
     rintro e w' ⟨K',μ',haf,hres⟩
     cases r' with
     |val v s'=>
      obtain⟨h1,h2,h3,h4,_,u,rfl,h6⟩:=hres
      exact mA hb haf.step haf.mu h2 h1 hd ⟨h6,h4,λsz xs e=>absurd e (h3.1 sz xs),λl sz xs e=>absurd e (h3.2 l sz xs)⟩
     |pan d s'=>
      obtain⟨h1,h2,_,u,rfl,h6⟩:=hres
      exact hb.pan d s' K' μ' w' u rfl haf h2 h1 h6
    simp at h
   simp at h
  simp at h
 |_=>
  simp only[cV,ho] at h
  split at h
  ·rename_i V hev
   simp only[sJ,pJ] at h
   obtain⟨rfl,rfl⟩:=h
   exact quiet hev sM rfl
  ·rename_i V cs hev
   split at h
   ·rename_i hnv
    simp only[sJ,pJ] at h
    obtain⟨rfl,rfl⟩:=h
    exact quiet hev (λ_=>hnv) rfl
   simp at h
  simp at h
end
end Go.AM
namespace Go.AM
open Go
variable [cU]
section
variable {P:Program} {K K':Col} {μ μ':Nat->Nat} {w w':World} {s:St} {a:Act}
theorem tW {bs:List Nat} {j:Nat}:∀{hp:List (Nat×List C)} {cells:List C},look j (without bs hp)=some cells->look j hp=some cells/\j∉bs
 | [],cells,h=>by simp[without,look] at h
 |(i,c)::r,cells,h=>by
  by_cases hi:i∈bs
  ·have hc:(!bs.contains i)=false:=by simpa using hi
   have h':look j (without bs r)=some cells:=by
    simpa only [without,List.filter_cons,hc,fJ,if_false] using h
   obtain⟨h1,h2⟩:=tW h'
   refine⟨?_,h2⟩
   simp only[look]
   rw[if_neg (λe=>h2 (by rw[←e]; exact hi))]; exact h1
  have hc:(!bs.contains i)=true:=by simpa using hi
  have h':(if i=j then some c else look j (without bs r))=some cells:=by
   simpa only [without,List.filter_cons,hc,if_true,look] using h
  simp only[look]
  split at h'
  ·rename_i e; subst e
   exact⟨by rw[if_pos rfl]; exact h',hi⟩
  rename_i e
  rw[if_neg e]; exact tW h'
theorem Sim.without (h:Sim K μ s a w) (bs:List Nat):Sim K μ { s with heap:=AM.without bs s.heap } a w:=by
 refine⟨h.tm,h.tids,h.own,?_,?_,h.bound,h.defs,h.dids,h.glob⟩
 ·intro t l sz xs ht
  have:=h.view t l sz xs ht
  cases l with
  |tmp u=>exact this
  |cell b' off=>
   intro cells z ys hb hcc
   exact this cells z ys (tW hb).1 hcc
 intro b' cells hb
 exact h.heap b' cells (tW hb).1
theorem Ba3 (μ:Nat->Nat) (b:Nat):xQ μ b (μ b)=μ:=by
 funext i
 simp only[xQ]
 split
 ·rename_i e; rw[e]
 rfl
theorem Sim.addNil (h:Sim K μ s a w) {n:Nat} (hn:0<n) (hnv:noView s.nid s.tmps=true):Sim K μ { s with heap:=(s.nid,[.seq n []])::s.heap,nid:=s.nid+1 } a w:=by
 have:=h.addB (g:=μ s.nid) (cs:=[.seq n []]) (.inl (.mk n hn)) (by simp[C.ids]) (qO hnv)
 rwa [Ba3] at this
def AtX (K:Col) (μ:Nat->Nat) (s:St) (a:Act) (w:World) (bs:List Nat) (n:Nat) (xs:List D) (run:Value->World->Prop):Prop:=
 ∃v K' μ' w',run v w'/\Step iD K w K' w'/\(∀b,b<s.nid->μ' b=μ b)/\AiK μ' w' s.nid xs.length n v /\
  Sim K' μ' { s with heap:=(s.nid,[.seq n xs])::AM.without bs s.heap,nid:=s.nid+1 } a w'
theorem BbC {n:Nat} {xs:List D} {vs:List Value} (hn:0<n) (hl:∀d∈xs,d.cells.length=n) (h:aZ K μ w (fL xs) vs):AoP K μ w [.seq n xs] vs:=
 ⟨h,rfl,λsz ds e=>by
  simp only[List.cons.injEq,C.seq.injEq,and_true] at e
  obtain⟨rfl,rfl⟩:=e
  exact⟨hn,hl⟩⟩
omit [cU] in
theorem Al9 (w:World) {need:Nat} (old:Nat) (e:TypeId) (h:need<=4294967296):grownCap w need old e<=9223372036854775807:=by
 have hlt:=Nat.mod_lt (w.tape w.drawn (.appendCap need old e)) (show 0<2 ^ 63-need by omega)
 simp only[grownCap,Question.cut]
 omega
theorem BaQ {run:Value->World->Prop} (hs:Sim K μ s a w) {bs:List Nat} {n:Nat} {xs:List D} {cap:Nat} {rest:List Value} {e:TypeId} (hn:0<n) (hx:xs≠[]) {us:List Value}
  (hl:∀d∈xs,d.cells.length=n) (hu:aZ K μ w (fL xs) us) (h1:∀x∈us,eZ x=true) (hcap:xs.length<=cap/\cap<=9223372036854775807) (hrest:us.length+rest.length=cap*n)
  (hrun:run (.slice (some (ad w.heap.size 0)) xs.length cap) (w.drew.alloc (.cells (us++rest).toArray e))) (hnv:noView s.nid s.tmps=true):AtX K μ s a w bs n xs run:=by
 have hom:=AaU w (.cells (us++rest).toArray e)
 have hst:=hom.step (K:=K) λ_=>.blk s.nid
 have hs1:=(hs.without bs).step hst sM sM sM (hom.bound hs.bound _)
 have hcell:∀i,i<cap*n->AoN (w.drew.alloc (.cells (us++rest).toArray e)) w.heap.size i:=by
  intro i hi
  refine⟨?_,by rw[hom.frozen]; simp⟩
  rw[hom.cell]
  simp only[List.getElem?_toArray]
  rw[getElem?_pos _ _ (by rw[List.length_append,hrest]; exact hi)]
  rfl
 have hs2:=hs1.addBlk (g:=w.heap.size) (cs:=[.seq n xs]) (vs:=us) (by rw[hom.size]; omega) (λoff=>by simp[gS])
  (λi v hv=>⟨by rw[hom.cell]; simp only[List.getElem?_toArray]; rw[List.getElem?_append_left (List.getElem?_eq_some_iff.1 hv).1]; exact hv,by rw[hom.frozen]; simp⟩)
  (BbC hn hl (hu.step hst sM)) h1 (by simp[C.ids]) (by intro i sz ys v hc; cases i<;>simp at hc) (qO hnv)
 refine⟨_,_,xQ μ s.nid w.heap.size,_,hrun,hst.mono sM,λb hb=>nF μ _ oM,?_,hs2⟩
 exact .inr ⟨List.length_pos_iff.2 hx,cap,by rw[fR],hcap,λj hj=>by rw[fR]; exact hcell j hj⟩
theorem BdZ {t u ty e:TypeId} {n:Nat} {inf:TypeInfo} {z:Value} (ht:P.underlying t=some (.slice e)) (hu:iB P u=true) (hn:tsz P e=some n) (hn0:0<n)
  (hi:P.info? e=some inf) (hz:inf.zero=some z) (hzs:z.cells.size=n) (hb:inf.bytes<=1024)
  (hs:Sim K μ s a w) {X:V} {bs:List Nat} {ds ys:List D} {vx y:Value} {vs:List Value} (hX:yC s.heap X=some (bs,n,ds)) (hx:bY K μ w X vx) (hys:kI K w n ys vs)
  (hlen:∀w,(Builtin.lenOf y).run P w=.ok ys.length w) (hfirst:∀w₁,(∀b o,w₁.cell? (ad b o)=w.cell? (ad b o))->(Builtin.firstCells n ys.length y).run P w₁=.ok (cellsOf vs).toArray w₁)
  (hmax:ds.length+ys.length<=4294967296) (hnv:noView s.nid s.tmps=true) :
  AtX K μ s a w bs n (ds++ys) λv w'=>(Builtin.append_ #[t,u] ty #[vx,y]).run P w=.ok v w':=by
 obtain⟨hyc,hy1⟩:=kI.cellsC (μ:=μ) hys
 have hyl:=hys.lens
 have hll:(cellsOf vs).length=ys.length*n:=hys.cells
 have hgc:∀m cap,m<=cap->∀l:List Value,l.length=m*n->l.length+(Builtin.zeroCells z.cells (cap-m)).toList.length=cap*n:=by
  intro m cap hmc l hl
  rw[zA,hzs,hl,←Nat.add_mul,show m+(cap-m)=cap from by omega]
 have zero:ds=[]->Bj5 vx->AtX K μ s a w bs n (ds++ys) λv w'=>(Builtin.append_ #[t,u] ty #[vx,y]).run P w=.ok v w':=by
  rintro rfl hz0
  rw[List.nil_append]
  obtain⟨base,rfl⟩:∃base,vx=.slice base 0 0:=by
   rcases hz0 with h|⟨a,h⟩
   ·exact⟨none,h⟩
   exact⟨some a,h⟩
  by_cases hne:ys=[]
  ·subst hne
   have hrun:(Builtin.append_ #[t,u] ty #[.slice base 0 0,y]).run P w=.ok (.slice base 0 0) w:=by
    have hf:=hfirst w λ_ _=>rfl
    cases hys
    simp only[cellsOf,List.length_nil] at hf
    cases base with
    |none=>
     rcases tV hu with ⟨e',hu'⟩|hu' <;>
      simp[Builtin.append_,run_underlying ht,run_underlying hu',dX hn,hlen,hf]
    |some ea=>
     have hst:(Go.storeCells ea []).run P w=.ok () w:=rfl
     rcases tV hu with ⟨e',hu'⟩|hu' <;>
      simp[Builtin.append_,run_underlying ht,run_underlying hu',dX hn,hlen,hf,Addr.add,hst]
   exact⟨_,K,μ,w,hrun,Step.refl _ _ _,λ_ _=>rfl,.inl ⟨rfl,hz0⟩,(hs.without bs).addNil hn0 hnv⟩
  have hold:(Builtin.firstCells n 0 (.slice base 0 0)).run P w.drew=.ok (([]:List Value).toArray) w.drew:=by
   cases base with
   |none=>simp[Builtin.firstCells]
   |some ea=>
    have:=run_firstCells_some (P:=P) w.drew n 0 ea 0 0 ([]:List Value) sM (λj u hu=>by simp at hu)
    simpa using this
  have hrun:=xY (P:=P) (w:=w) (ty:=ty) (news:=cellsOf vs) ht hu hn hi hz (n:=0) (cap:=0) hlen (hfirst w.drew λ_ _=>rfl)
   (by have:=List.length_pos_iff.2 hne; omega) hold (by simpa using hmax) hb
  have hle:=zN w ys.length e 0
  simp only[List.nil_append,Nat.zero_add] at hrun
  exact BaQ hs hn0 hne hyl hyc hy1 ⟨hle,Al9 w _ _ (by simpa using hmax)⟩ (hgc _ _ hle _ hll) hrun hnv
 unfold yC at hX
 split at hX
 ·rename_i b m sz
  split at hX
  ·rename_i sz' ds' hbl
   split at hX
   ·rename_i hc
    obtain⟨rfl,hc⟩:=hc
    simp only[sJ,pJ] at hX
    obtain⟨rfl,rfl,rfl⟩:=hX
    simp only[bY,RepC] at hx
    rcases hx with ⟨hm0,hz0⟩|⟨hm0,cap,rfl,hcap,hal⟩
    ·exact zero (List.length_eq_zero_iff.1 oM) hz0
    subst hc
    have hbr:=(hs.heap b _ hbl).2.2
    have hnr:¬Ac3 [.seq sz' ds']:=by
     intro hq
     obtain⟨_,e,_⟩:=mP hq
     simp only[List.cons.injEq,C.seq.injEq,and_true] at e
     rw[e.2] at hm0; simp at hm0
    obtain⟨hcr,hok⟩:=hbr.seq
    have htag:∀off,K (μ b) off=.blk b:=λoff=>hbr.tag hnr (by cases off<;>simp)
    have hlt:=(hbr.old hnr).2.1
    obtain⟨v0,hv0,hc0⟩:=hcr.vals
    have hv0l:v0.length=ds'.length*sz':=by rw[←hv0.length,Ai7 hok.2]
    have hc0':∀i v,v0[i]?=some v->w.cell? (ad (μ b) i)=some v/\eZ v=true/\w.frozen? (ad (μ b) i)=false:=by
     intro i v hv
     refine hc0 i v hv ?_
     intro e
     obtain⟨d,hd⟩:=qD (List.mem_of_getElem? e)
     simp at hd
    have hall:∀d∈ds'++ys,d.cells.length=sz':=by
     intro d hd
     rcases List.mem_append.1 hd with hd|hd
     ·exact hok.2 d hd
     exact hyl d hd
    have h1all:∀x∈v0++cellsOf vs,eZ x=true:=by
     intro x hx
     rcases List.mem_append.1 hx with hx|hx
     ·obtain⟨i,hi⟩:=List.getElem?_of_mem hx
      exact (hc0' i x hi).2.1
     exact hy1 x hx
    by_cases hroom:ds'.length+ys.length<=cap
    ·-- within the room
     have hmul:(ds'.length+ys.length)*sz'<=cap*sz':=Nat.mul_le_mul_right _ hroom
     have hadd:(ds'.length+ys.length)*sz'=ds'.length*sz'+ys.length*sz':=Nat.add_mul _ _ _
     have hex:∀j,j<(cellsOf vs).length->(w.cell? (ad (μ b) (0+ds'.length*sz'+j))).isSome=true/\w.frozen? (ad (μ b) (0+ds'.length*sz'+j))=false:=by
      intro j hj
      have:=hal (ds'.length*sz'+j) oM
      rw[Nat.zero_add]
      exact this
     have hrun:=AeE (P:=P) (ty:=ty) ht hu hn hlen (hfirst w λ_ _=>rfl) hroom hex hys.ones
     let K':Col:=λblk off=>if blk=μ b then .blk s.nid else K blk off
     have hst:Step (λt=>t=.blk b) K w K' (w.setCells (μ b) (0+ds'.length*sz') (cellsOf vs)):=
      AdR (λj _=>htag _) λblk off hne=>by
       simp only[K']
       rw[if_neg]
       rintro rfl
       exact hne (htag off)
     have hs1:=(hs.without [b]).step hst sM (λb' cells' hb' e=>(tW hb').2 (by simp only[Tag.blk.injEq] at e; simp[e])) (λl _ e=>by simp at e) (λblk off hl=>by
      rw[setCells_size] at hl
      simp only[K']
      rw[if_neg oM]
      exact hs.bound blk off hl)
     have hs2:=hs1.addBlk (g:=μ b) (cs:=[.seq sz' (ds'++ys)]) (vs:=v0++cellsOf vs) (by rw[setCells_size]; exact hlt) (λoff=>by simp[K'])
      (λi v hv=>by
       refine⟨?_,?_⟩
       ·rw[List.getElem?_append] at hv
        split at hv
        ·rename_i hin
         rw[World.cell?_setCells_out]
         ·exact (hc0' i v hv).1
         intro _ _; simp only; omega
        rename_i hin
        have hj:=(List.getElem?_eq_some_iff.1 hv).1
        have:=World.cell?_setCells_in (μ b) (cellsOf vs) (0+ds'.length*sz') w (λj hj=>(hex j hj).1) (i-v0.length) hj
        rw[(List.getElem?_eq_some_iff.1 hv).2,show 0+ds'.length*sz'+(i-v0.length)=i from by omega] at this
        exact this
       rw[World.frozen?_setCells]
       rw[List.getElem?_append] at hv
       split at hv
       ·exact (hc0' i v hv).2.2
       rename_i hin
       have hj:=(List.getElem?_eq_some_iff.1 hv).1
       have:=(hex (i-v0.length) hj).2
       rwa [show 0+ds'.length*sz'+(i-v0.length)=i from by omega] at this)
      (BbC hn0 hall (by rw[AaT]; exact (hv0.append hyc).step hst sM)) h1all (by simp[C.ids]) (by intro i sz ys v hc; cases i<;>simp at hc) (qO hnv)
     refine⟨_,_,xQ μ s.nid (μ b),_,hrun,hst.mono (by rintro t rfl; simp[iD]),λb' hb'=>nF μ _ oM,?_,hs2⟩
     refine .inr ⟨by rw[List.length_append]; omega,cap,by rw[fR,List.length_append],⟨by rw[List.length_append]; exact hroom,oM⟩,λj hj=>?_⟩
     rw[fR]
     exact hst.ex _ _ (hal j hj)
    -- a new object
    have hold:(Builtin.firstCells sz' ds'.length (.slice (some (ad (μ b) 0)) ds'.length cap)).run P w.drew=.ok v0.toArray w.drew:=
     run_firstCells_some (P:=P) w.drew sz' ds'.length (ad (μ b) 0) ds'.length cap v0 (by rw[hv0l]) λj u hu=>by
      rw[Addr.add_lit,Nat.zero_add]; exact (hc0' j u hu).1
    have hrun:=xY (P:=P) (ty:=ty) ht hu hn hi hz hlen (hfirst w.drew λ_ _=>rfl) oM hold hmax hb
    have hle:=zN w (ds'.length+ys.length) e cap
    have hl2:(v0++cellsOf vs).length=(ds'.length+ys.length)*sz':=by rw[List.length_append,hv0l,hll,Nat.add_mul]
    have:=BaQ (bs:=[b]) (xs:=ds'++ys) (us:=v0++cellsOf vs) (cap:=grownCap w (ds'.length+ys.length) cap e) (run:=λv w'=>(Builtin.append_ #[t,u] ty #[.slice (some (ad (μ b) 0)) ds'.length cap,y]).run P w=.ok v w') hs hn0
     (by intro e; simp only[List.append_eq_nil_iff] at e; rw[e.1] at hm0; simp at hm0) hall (by rw[AaT]; exact hv0.append hyc) h1all ⟨by rw[List.length_append]; exact hle,Al9 w _ _ hmax⟩ (hgc _ _ hle _ hl2) (by rw[List.length_append]; exact hrun) hnv
    exact this
   simp at hX
  simp at hX
 ·simp only[sJ,pJ] at hX
  obtain⟨rfl,rfl,rfl⟩:=hX
  exact zero rfl (.inl hx)
 ·simp only[sJ,pJ] at hX
  obtain⟨rfl,rfl,rfl⟩:=hX
  refine zero rfl ?_
  simp only[bY,RepC,Rep] at hx
  obtain⟨h1,h2⟩:=hx
  rcases h2 with h2|h2|⟨blk,off,m,rfl⟩
  ·exact .inl h2
  ·exact .inr h2
  rcases h1 with ⟨_,h1|⟨a',cap',h1⟩⟩|⟨blk',off',cap',h1,_⟩
  ·simp at h1
  ·simp only[Value.slice.injEq] at h1
   obtain⟨_,rfl,_⟩:=h1
   exact .inr ⟨_,rfl⟩
  simp only[Value.slice.injEq,List.length_nil] at h1
  obtain⟨_,rfl,_⟩:=h1
  exact .inr ⟨_,rfl⟩
 simp at hX
theorem Ay6 {c:C} {v:Value} (h:RepC K μ w c v):RepC K μ w c.placedM v:=by
 cases c with
 |full sz xs=>exact h.1
 |_=>exact h
theorem Ay5 (c:C):c.placedM.ids=c.ids:=by cases c<;>rfl
theorem AvC {cs:List C} {vs:List Value} (h:aZ K μ w cs vs):aZ K μ w (cs.map C.placedM) vs:=by
 induction h with
 |nil=>exact .nil
 |cons h _ ih=>exact .cons (Ay6 h) ih
theorem AnV (hs:Sim K μ s a w) {o:Oper} {V:V} {s':St} (h:AaI P o s=some (V,s')) (hd:∀t,o.dst=some t->t<a.tmps.size)
  {next:Act->World->Prop} {Q:Exit->Act->World->Prop} (hb:AjF P K μ s a w o (.val V s') next Q):o.wp P a w next Q:=by
 unfold AaI at h
 split at h
 ·rename_i x ho
  split at h
  ·rename_i n hx
   simp only[sJ,pJ] at h
   obtain⟨rfl,rfl⟩:=h
   have hrun:(execOp a.eval o).run P w=.ok (.value (a.eval x)) w:=by simp[execOp,ho]
   simp only[Oper.wp,hrun,Oper.upon_value]
   exact mA hb (Step.refl _ _ _) (λ_ _=>rfl) (Nat.le_refl _) hs hd ⟨fN hs hx,by simp[V.ids,C.ids],sM,sM⟩
  simp at h
 ·rename_i t p x ho
  split at h
  ·rename_i b off cs hp hx
   split at h
   ·rename_i hn
    split at h
    ·rename_i hh hst
     simp only[sJ,pJ] at h
     obtain⟨rfl,rfl⟩:=h
     have hxr:=cY hs hp
     simp only[bY,RepC] at hxr
     obtain⟨v,hv,hcs⟩:=Option.bind_eq_some_iff.1 hx
     have hyr:=fN hs hv
     obtain⟨r1,r2⟩:=V.cells_rep hcs hyr
     obtain⟨q1,q2,q3⟩:=hs.storeCells (ncs:=cs.map C.placedM) (nvs:=(a.eval x).cells.toList) hst (AvC r1) r2
      (by
       intro c hc i hi
       simp only[List.mem_map] at hc
       obtain⟨c',hc',rfl⟩:=hc
       rw[Ay5] at hi
       exact xE hs hv i (V.cells_ids hcs c' hc' i hi))
      (by
       intro i z ys hi
       simp only[List.getElem?_map,Option.map_eq_some_iff] at hi
       obtain⟨c',_,hc'⟩:=hi
       cases c'<;>simp[C.placedM] at hc')
      (by
       intro t i sz' xs' z ys _ hi
       simp only[List.getElem?_map,Option.map_eq_some_iff] at hi
       obtain⟨c',_,hc'⟩:=hi
       cases c'<;>simp[C.placedM] at hc')
     have hl:=r1.length
     have hrun:=AaX (P:=P) (w:=w) (t:=t) (v:=a.eval x) (blk:=μ b) (off:=off) (by rw[hn.1,hl]; simp) q3 r2
     have hrun':(execOp a.eval o).run P w=.ok .skip (w.setCells (μ b) off (a.eval x).cells.toList):=by
      simp[execOp,ho,hxr,Instr.storeAt,Instr.sureAddr,hrun]
     simp only[Oper.wp,hrun',Oper.upon_skip]
     exact mA hb (q2.mono λt ht=>by subst ht; simp[iD]) (λ_ _=>rfl) (Nat.le_refl _) q1 hd sW
    simp at h
   simp at h
  simp at h
 ·rename_i c ho
  split at h
  ·rename_i hc
   split at h
   ·rename_i x y t u hargs hty
    split at h
    ·rename_i e bs sz ds sz' ys ht hx hy
     split at h
     ·rename_i n hn hu
      split at h
      ·rename_i hcond
       obtain⟨rfl,rfl,hn0,hbb,hzf,hmax,hnv⟩:=hcond
       simp only[sJ,pJ] at h
       obtain⟨rfl,rfl⟩:=h
       obtain⟨X,hX,hX2⟩:=Option.bind_eq_some_iff.1 hx
       obtain⟨vy,hvy,happ⟩:=Option.bind_eq_some_iff.1 hy
       have hyr:=fN hs hvy
       have hxr:=fN hs hX
       obtain⟨inf,z,hi,hz,hzs⟩:=AjE hzf
       have hb':inf.bytes<=1024:=by simpa[Program.bytesOf,hi] using hbb
       obtain⟨vs,hes,hlen,hfirst⟩:=AeI (P:=P) happ hyr
       obtain⟨v,K',μ',w',hrun,hst,hmu,hav,hs2⟩:=BdZ (P:=P) (ty:=o.type) (rJ ht) hu hn hn0 hi hz hzs hb' hs hX2 hxr hes hlen hfirst hmax hnv
       have hargs':c.args=#[x,y]:=by apply Array.ext'; simpa using hargs
       have hty':c.argTypes=#[t,u]:=by apply Array.ext'; simpa using hty
       have hrun':(execOp a.eval o).run P w=.ok (.value v) w':=by
        simp[execOp,ho,resolve,hc,hargs',hty',invoke,builtin,hrun]
       simp only[Oper.wp,hrun',Oper.upon_value]
       rw[List.length_append] at hav
       exact mA hb hst hmu (Nat.le_succ _) hs2 hd ⟨hav,λi hi=>by simp only[V.ids,C.ids,List.mem_singleton] at hi; subst hi; exact Nat.lt_succ_self _,sM,sM⟩
      simp at h
     simp at h
    simp at h
   simp at h
  simp at h
 simp at h
end
end Go.AM
namespace Go.AM
open Go
variable [cU]
section
variable {P:Program} {K K':Col} {μ μ':Nat->Nat} {w w':World} {s:St} {a:Act}
def Out (K:Col) (w:World):AX->Exit->Prop
 |.normal,e=>e=.normal
 |.exit id,e=>e=.exit id
 |.ret,e=>e=.ret
 |.pan d,e=>∃u,e=.panic [⟨u,false,false⟩]/\Rep K w d u
def AjG (K:Col) (μ:Nat->Nat) (w:World) (n:Nat) (sz:Nat) (x:AX) (s':St) (Q:Exit->Act->World->Prop):Prop:=
 ∀e K' μ' a' w',Out K' w' x e->fT K μ w n K' μ' w'->n<=s'.nid->Sim K' μ' s' a' w'->a'.tmps.size=sz->Q e a' w'
theorem AjG.later {n m sz:Nat} {x:AX} {s':St} {Q:Exit->Act->World->Prop} (h:AjG K μ w n sz x s' Q) (ha:fT K μ w n K' μ' w') (hnm:n<=m):AjG K' μ' w' m sz x s' Q:=
 fun e K'' μ'' a'' w'' ho ha' hn hs hsz=>h e K'' μ'' a'' w'' ho (ha.trans ha' hnm) oM hs hsz
theorem AeZ:∀{ks:List Nat} {tm:List (Nat×V)} {t:Nat} {v:V},look t (uT ks tm)=some v ->
  ∃v',look t tm=some v'/\(v=v'\/∃l sz xs,v'=.view l sz xs/\v=.d (.list sz xs))
 | [],tm,t,v,h=>by simp[uT,look] at h
 |k::ks,tm,t,v,h=>by
  simp only[uT] at h
  split at h
  ·rename_i l sz xs hk
   simp only[look] at h
   split at h
   ·rename_i hkt
    simp only[sJ] at h; subst h; subst hkt
    exact⟨_,hk,.inr ⟨l,sz,xs,rfl,rfl⟩⟩
   exact AeZ h
  ·rename_i v' hno hk
   simp only[look] at h
   split at h
   ·rename_i hkt
    simp only[sJ] at h; subst h; subst hkt
    exact⟨_,hk,.inl rfl⟩
   exact AeZ h
  exact AeZ h
theorem Sim.keep (h:Sim K μ s a w) (ks:List Nat):Sim K μ { s with tmps:=uT ks s.tmps } a w:=
 h.weaken λ_ _ ht=>AeZ ht
theorem AcS {n b:Nat}:∀{hp:List (Nat×List C)} {cells:List C},look b (hp.filter (·.1<n))=some cells->look b hp=some cells/\b<n
 | [],cells,h=>by simp[look] at h
 |(j,c)::r,cells,h=>by
  by_cases hj:j<n
  ·simp only[List.filter_cons,hj,decide_true,if_true,look] at h ⊢
   split at h
   ·rename_i e; subst e
    simp only[if_true]; exact⟨h,hj⟩
   rename_i e
   rw[if_neg e]; exact AcS h
  simp only[List.filter_cons,hj,decide_false,fJ,if_false] at h
  obtain⟨h1,h2⟩:=AcS h
  refine⟨?_,h2⟩
  simp only[look]
  rw[if_neg oM]; exact h1
theorem pK {α:Type} {k:Nat} {v:α}:∀{l:List (Nat×α)},look k l=some v->(k,v)∈l
 | [],h=>by simp[look] at h
 |(j,u)::r,h=>by
  simp only[look] at h
  split at h
  ·rename_i e; subst e; simp only[sJ] at h; subst h; simp
  exact List.mem_cons_of_mem _ (pK h)
theorem C.below_ids {n:Nat} {c:C} (h:c.below n=true):∀b∈c.ids,b<n:=by
 simp only[C.below,List.all_eq_true,decide_eq_true_eq] at h
 exact h
theorem V.below_ids {n:Nat} {v:V} (h:v.below n=true):∀b∈v.ids,b<n:=by
 cases v with
 |c x=>exact C.below_ids h
 |vagg cs=>
  simp only[V.below,List.all_eq_true] at h
  intro b hb
  simp only[V.ids,List.mem_flatMap] at hb
  obtain⟨c,hc,hb⟩:=hb
  exact C.below_ids (h c hc) b hb
 |vtup nn cs=>
  simp only[V.below,List.all_eq_true] at h
  intro b hb
  simp only[V.ids,List.mem_flatMap] at hb
  obtain⟨c,hc,hb⟩:=hb
  exact C.below_ids (h c hc) b hb
 |tuple cs=>
  simp only[V.below,List.all_eq_true] at h
  intro b hb
  simp only[V.ids,List.mem_flatMap] at hb
  obtain⟨c,hc,hb⟩:=hb
  exact C.below_ids (h c hc) b hb
 |view l sz xs=>simp[V.ids]
 |rptr cs=>simp[V.ids]
theorem Sim.plainCellH (h:Sim K μ s a w) (b off:Nat):Sim K μ { s with heap:=AM.plainCellH b off s.heap } a w:=by
 unfold AM.plainCellH
 split
 ·rename_i cells hb
  split
  ·rename_i sz xs hc
   have hm:mapOf cells=none:=by
    cases hq:mapOf cells with
    |none=>rfl
    |some kvs=>
     rcases iN hq with rfl|⟨l,rfl,rfl⟩<;>cases off<;>simp at hc
   obtain⟨v,hv,_,_,hr,_⟩:=(h.heap b cells hb).2.2.cells hm off _ (by rw[AeU hc]; exact hc) sM
   exact h.plainCell hb hm (AeU hc) (by rw[hc]; simp) v hv hr
  exact h
 exact h
theorem Sim.demT:∀(ks:List Nat) {s:St},Sim K μ s a w->Sim K μ { s with tmps:=AM.demT ks s.tmps } a w
 | [],_,h=>h
 |k::r,s,h=>by
  simp only[AM.demT]
  split
  ·exact Sim.demT r (h.plainAt (k-5000000))
  exact Sim.demT r h
theorem Sim.demH:∀(ks:List Nat) {s:St},Sim K μ s a w->Sim K μ { s with heap:=AM.demH ks s.heap } a w
 | [],_,h=>h
 |k::r,s,h=>by
  simp only[AM.demH]
  split
  ·exact Sim.demH r (h.plainCellH _ _)
  exact Sim.demH r h
theorem Sim.cleanO (h:Sim K μ s a w) {ks:List Nat} {n:Nat} {s':St} (hc:AM.cleanO ks n s=some s'):Sim K μ s' a w/\s'.nid=n/\s'.defers=s.defers:=by
 unfold AM.cleanO at hc
 simp only at hc
 split at hc
 ·rename_i hall
  simp only[Bool.and_eq_true,List.all_eq_true] at hall
  obtain⟨⟨h1,h2⟩,h3⟩:=hall
  simp only[sJ] at hc; subst hc
  have hd:=Sim.demH ks (Sim.demT ks h)
  have hk:=hd.keep ks
  refine⟨⟨hk.tm,?_,hk.own,?_,?_,hk.bound,hk.defs,?_,hk.glob⟩,rfl,rfl⟩
  ·intro t v ht
   exact V.below_ids (h1 _ (pK ht))
  ·intro t l sz xs ht
   have:=hk.view t l sz xs ht
   cases l with
   |tmp u=>exact this
   |cell b off=>
    intro cells z ys hb hcc
    exact this cells z ys (AcS hb).1 hcc
  ·intro b cells hb
   obtain⟨hb1,hb2⟩:=AcS hb
   refine⟨hb2,?_,(hd.heap b cells hb1).2.2⟩
   intro c hc
   exact C.below_ids (h2 _ (pK hb) c hc)
  intro x hx b hb
  have:=h3 x hx b hb
  simpa using this
 simp at hc
theorem AvD {f:Nat->Option Nat} {W:Tag->Prop} (hst:Step W K w K' w) (hro:¬W .ro) (hμ:∀b i,f b=some i->μ' i=μ b) {c c':C} {v:Value} (hc:C.ren f c=some c') (h:RepC K μ w c v) :
  RepC K' μ' w c' v/\(∀i∈c'.ids,∃b,f b=some i)/\(∀sz xs,c'=.own sz xs↔c=.own sz xs):=by
 have other:(if c.ids.all (λb=>f b==some b) then some c else none)=some c'->RepC K' μ' w c' v/\(∀i∈c'.ids,∃b,f b=some i)/\(∀sz xs,c'=.own sz xs↔c=.own sz xs):=by
  intro e
  split at e
  ·rename_i hall
   simp only[sJ] at e; subst e
   simp only[List.all_eq_true,beq_iff_eq] at hall
   exact⟨(h.step hst hro).mu λb hb=>hμ b b (hall b hb),λi hi=>⟨i,hall i hi⟩,λ_ _=>Iff.rfl⟩
  simp at e
 cases c with
 |ptr b off=>
  simp only[C.ren,Option.map_eq_some_iff] at hc
  obtain⟨i,hi,rfl⟩:=hc
  simp only[RepC] at h ⊢
  exact⟨by rw[hμ b i hi]; exact h,λj hj=>by simp only[C.ids,List.mem_singleton] at hj; subst hj; exact⟨b,hi⟩,sM⟩
 |arr b n sz=>
  simp only[C.ren,Option.map_eq_some_iff] at hc
  obtain⟨i,hi,rfl⟩:=hc
  simp only[RepC,AiK] at h ⊢
  exact⟨by rw[hμ b i hi]; exact h,λj hj=>by simp only[C.ids,List.mem_singleton] at hj; subst hj; exact⟨b,hi⟩,sM⟩
 |_=>exact other hc
theorem BbM {f:Nat->Option Nat} {c c':C} (h:C.ren f c=some c'):c=.hid↔c'=.hid:=by
 cases c<;>simp only[C.ren,Option.map_eq_some_iff] at h<;>first
  |(obtain⟨_,_,rfl⟩:=h; simp)
  |(split at h
    ·simp only[sJ] at h; subst h; simp
    ·simp at h)
theorem AiH {f:Nat->Option Nat} {W:Tag->Prop} (hst:Step W K w K' w) (hro:¬W .ro) (hμ:∀b i,f b=some i->μ' i=μ b):∀{cs cs':List C} {vs:List Value},aY (C.ren f) cs=some cs'->aZ K μ w cs vs ->
  aZ K' μ' w cs' vs/\∀c∈cs',∀i∈c.ids,∃b,f b=some i
 | [],cs',vs,e,hr=>by
  simp only[aY,sJ] at e; subst e
  cases hr
  exact⟨.nil,sM⟩
 |c::cs,cs',vs,e,hr=>by
  simp only[aY] at e
  split at e
  ·rename_i y ys hy hys
   simp only[sJ] at e; subst e
   cases hr with
   |cons h1 h2=>
    obtain⟨a1,a2,_⟩:=AvD hst hro hμ hy h1
    obtain⟨b1,b2⟩:=AiH hst hro hμ hys h2
    refine⟨.cons a1 b1,λc' hc'=>?_⟩
    rcases List.mem_cons.1 hc' with rfl|hc'
    ·exact a2
    exact b2 c' hc'
  simp at e
theorem AhL {f:Nat->Option Nat} {W:Tag->Prop} (hst:Step W K w K' w) (hro:¬W .ro) (hμ:∀b i,f b=some i->μ' i=μ b) {V V':AM.V} {v:Value} (e:AM.V.ren f V=some V') (hr:bY K μ w V v) :
  bY K' μ' w V' v/\(∀i∈V'.ids,∃b,f b=some i)/\(∀sz xs,V'=.c (.own sz xs)->V=.c (.own sz xs))/\(∀l sz xs,V'=.view l sz xs->V=.view l sz xs):=by
 cases V with
 |c x=>
  simp only[AM.V.ren,Option.map_eq_some_iff] at e
  obtain⟨c',e,rfl⟩:=e
  obtain⟨g1,g2,g3⟩:=AvD hst hro hμ e hr
  exact⟨g1,g2,λsz xs e=>by simp only[V.c.injEq] at e ⊢; exact (g3 sz xs).1 e,sM⟩
 |vagg cs=>
  simp only[AM.V.ren,Option.map_eq_some_iff] at e
  obtain⟨cs',e,rfl⟩:=e
  obtain⟨vs,rfl,hcs,h1⟩:=hr
  obtain⟨g1,g2⟩:=AiH hst hro hμ e hcs
  refine⟨⟨vs,rfl,g1,h1⟩,λi hi=>?_,sM,sM⟩
  simp only[V.ids,List.mem_flatMap] at hi
  obtain⟨c,hc,hi⟩:=hi
  exact g2 c hc i hi
 |vtup nn cs=>
  simp only[AM.V.ren,Option.map_eq_some_iff] at e
  obtain⟨cs',e,rfl⟩:=e
  obtain⟨vs,rfl,hcs,h1⟩:=hr
  obtain⟨g1,g2⟩:=AiH hst hro hμ e hcs
  refine⟨⟨vs,rfl,g1,h1⟩,λi hi=>?_,sM,sM⟩
  simp only[V.ids,List.mem_flatMap] at hi
  obtain⟨c,hc,hi⟩:=hi
  exact g2 c hc i hi
 |tuple cs=>
  simp only[AM.V.ren,Option.map_eq_some_iff] at e
  obtain⟨cs',e,rfl⟩:=e
  obtain⟨vs,rfl,hcs⟩:=hr
  obtain⟨g1,g2⟩:=AiH hst hro hμ e hcs
  refine⟨⟨vs,rfl,g1⟩,λi hi=>?_,sM,sM⟩
  simp only[V.ids,List.mem_flatMap] at hi
  obtain⟨c,hc,hi⟩:=hi
  exact g2 c hc i hi
 |view l sz xs=>
  simp only[AM.V.ren,sJ] at e; subst e
  exact⟨hr.step hst hro,by simp[V.ids],sM,λ_ _ _ h=>h⟩
 |rptr cs=>
  simp only[AM.V.ren,sJ] at e; subst e
  exact⟨hr.step hst hro,by simp[V.ids],sM,sM⟩
theorem AaZ {f:Nat->Option Nat} {t:Nat}:∀{tm tm':List (Nat×V)} {v:V},BfL f tm=some tm'->look t tm'=some v->∃v0,look t tm=some v0/\AM.V.ren f v0=some v
 | [],tm',v,e,h=>by
  simp only[BfL,sJ] at e; subst e
  simp[look] at h
 |(k,x)::r,tm',v,e,h=>by
  simp only[BfL] at e
  split at e
  ·rename_i v' r' h1 h2
   simp only[sJ] at e; subst e
   simp only[look] at h ⊢
   split at h
   ·rename_i hk
    simp only[sJ] at h; subst h
    exact⟨x,by rw[if_pos hk],h1⟩
   rename_i hk
   rw[if_neg hk]
   exact AaZ h2 h
  simp at e
theorem AiB {f:Nat->Option Nat} {n b:Nat} {xs:List Nat}:∀{hp hp':List (Nat×List C)} {cs:List C},BdB f n xs hp=some hp'->look b hp'=some cs ->
  ∃cs0,look b hp=some cs0/\aY (C.ren f) cs0=some cs/\b<n/\b∉xs
 | [],hp',cs,e,h=>by
  simp only[BdB,sJ] at e; subst e
  simp[look] at h
 |(k,x)::r,hp',cs,e,h=>by
  simp only[BdB] at e
  split at e
  ·rename_i hk
   obtain⟨cs0,g1,g2,g3,g4⟩:=AiB e h
   refine⟨cs0,?_,g2,g3,g4⟩
   simp only[look]
   rw[if_neg]
   ·exact g1
   rintro rfl
   simp only[Bool.and_eq_false_iff,Bool.not_eq_false',List.contains_iff_mem] at hk
   rcases hk with hk|hk
   ·have:Nat.blt k n=true:=by rw[Nat.blt_eq]; exact g3
    rw[this] at hk; simp at hk
   exact g4 hk
  rename_i hk
  split at e
  ·rename_i cs' r' h1 h2
   simp only[sJ] at e; subst e
   simp only[look] at h ⊢
   split at h
   ·rename_i hkb
    simp only[sJ] at h; subst h
    subst hkb
    simp only[Bool.and_eq_true,Nat.blt_eq,Bool.not_eq_true',←Bool.not_eq_true,List.contains_iff_mem] at hk
    exact⟨x,by rw[if_pos rfl],h1,hk.1,hk.2⟩
   rename_i hkb
   rw[if_neg hkb]
   exact AiB h2 h
  simp at e
theorem AmK {b:Nat} {hp:List (Nat×List C)}:∀{n:Nat} {xs:List Nat} {hx:List (Nat×List C)} {cs:List C},BfM hp n xs=some hx->look b hx=some cs ->
  ∃x sz ds,xs[b-n]?=some x/\n<=b/\look x hp=some [.seq sz ds]/\cs=[.seq sz ds]
 |n,[],hx,cs,e,h=>by
  simp only[BfM,sJ] at e; subst e
  simp[look] at h
 |n,y::r,hx,cs,e,h=>by
  simp only[BfM] at e
  split at e
  ·rename_i sz ds l h1 h2
   simp only[sJ] at e; subst e
   simp only[look] at h
   split at h
   ·rename_i hb
    simp only[sJ] at h; subst h; subst hb
    exact⟨y,sz,ds,sM,Nat.le_refl _,h1,rfl⟩
   obtain⟨x,sz',ds',g1,g2,g3,g4⟩:=AmK h2 h
   refine⟨x,sz',ds',?_,oM,g3,g4⟩
   rw[show b-n=(b-(n+1))+1 from by omega]
   simpa using g1
  simp at e
theorem AgZ {b:Nat}:∀{l m:List (Nat×List C)} {cs:List C},look b (l++m)=some cs->look b l=some cs\/look b m=some cs
 | [],m,cs,h=>.inr h
 |(k,x)::l,m,cs,h=>by
  simp only[List.cons_append,look] at h ⊢
  split at h
  ·rename_i e; rw[if_pos e]; exact .inl h
  rename_i e; rw[if_neg e]; exact AgZ h
theorem AnS:∀{l:List Nat},Av8 l=true->l.Nodup
 | [],_=>.nil
 |x::r,h=>by
  simp only[Av8,Bool.and_eq_true,Bool.not_eq_true',←Bool.not_eq_true,List.contains_iff_mem] at h
  exact List.nodup_cons.2 ⟨h.1,AnS h.2⟩
theorem Sim.cleanX (h:Sim K μ s a w) {ks xs:List Nat} {n:Nat} {s':St} (hc:AM.cleanX ks xs n s=some s') :
  ∃K' μ',Step iD K w K' w/\(∀b,b<n->μ' b=μ b)/\Sim K' μ' s' a w/\n<=s'.nid/\s'.defers=s.defers:=by
 unfold AM.cleanX at hc
 split at hc
 ·rename_i tm hp hx htm hhp hhx
  split at hc
  ·rename_i hq
   simp only[Bool.and_eq_true,List.all_eq_true,beq_iff_eq] at hq
   obtain⟨hnd,hdf⟩:=hq
   have hnd:=AnS hnd
   simp only[sJ] at hc; subst hc
   have hk:=(Sim.demT ks h).keep ks
   have hd:=Sim.demH ks h
   let μ':Nat->Nat:=λi=>if n<=i/\i-n<xs.length then μ (xs.getD (i-n) 0) else μ i
   let K':Col:=λblk off=>match K blk off with
    |.blk b=>(match idx b xs n with
     |some i=>.blk i
     |none=>.blk b)
    |t=>t
   have hmu:∀b,b<n->μ' b=μ b:=λb hb=>by simp only[μ']; rw[if_neg oM]
   have hix:∀{b i:Nat},idx b xs n=some i->n<=i/\xs[i-n]?=some b:=λe=>xG e
   have hf:∀b i,AyA xs n b=some i->μ' i=μ b/\i<n+xs.length:=by
    intro b i e
    unfold AyA at e
    split at e
    ·rename_i i' hi
     simp only[sJ] at e; subst e
     obtain⟨h1,h2⟩:=hix hi
     have h3:=(List.getElem?_eq_some_iff.1 h2).1
     refine⟨?_,oM⟩
     simp only[μ']
     rw[if_pos ⟨h1,h3⟩]
     simp[List.getD,h2]
    split at e
    ·rename_i hb
     simp only[sJ] at e; subst e
     exact⟨hmu _ hb,oM⟩
    simp at e
   have hfμ:∀b i,AyA xs n b=some i->μ' i=μ b:=λb i e=>(hf b i e).1
   have hst:Step (λt=>∃b,b∈xs/\t=.blk b) K w K' w:=by
    refine⟨rfl,rfl,rfl,Nat.le_refl _,λ_ _ _=>rfl,λblk off hl hn=>⟨rfl,rfl,?_⟩,λ_ _ h=>h⟩
    simp only[K']
    split
    ·rename_i b hb
     rw[AlB (λhm=>hn ⟨b,hm,hb⟩)]
     exact hb.symm
    rfl
   have hro:¬∃b,b∈xs/\Tag.ro=.blk b:=by rintro⟨_,_,e⟩; simp at e
   have hsp:∀l,¬∃b,b∈xs/\Tag.sp l=.blk b:=by rintro l ⟨_,_,e⟩; simp at e
   refine⟨K',μ',hst.mono (by rintro t ⟨b,_,rfl⟩; simp[iD]),hmu,⟨?_,?_,?_,?_,?_,?_,?_,?_,h.glob.step hst hro⟩,Nat.le_add_right _ _,rfl⟩
   ·intro t V ht
    obtain⟨V0,h0,h1⟩:=AaZ htm ht
    exact⟨(hk.tm t V0 h0).1,(AhL hst hro hfμ h1 (hk.tm t V0 h0).2).1⟩
   ·intro t V ht b hb
    obtain⟨V0,h0,h1⟩:=AaZ htm ht
    obtain⟨b0,hb0⟩:=(AhL hst hro hfμ h1 (hk.tm t V0 h0).2).2.1 b hb
    exact (hf _ _ hb0).2
   ·intro t sz ys ht
    obtain⟨V0,h0,h1⟩:=AaZ htm ht
    have:=(AhL hst hro hfμ h1 (hk.tm t V0 h0).2).2.2.1 sz ys rfl
    subst this
    exact (hk.own t sz ys h0).step hst (hsp _)
   ·intro t l sz ys ht
    obtain⟨V0,h0,h1⟩:=AaZ htm ht
    have:=(AhL hst hro hfμ h1 (hk.tm t V0 h0).2).2.2.2 l sz ys rfl
    subst this
    have hv:=hk.view t l sz ys h0
    cases l with
    |tmp u=>
     intro z zs hu
     obtain⟨V1,h2,h3⟩:=AaZ htm hu
     have:=(AhL hst hro hfμ h3 (hk.tm u V1 h2).2).2.2.1 z zs rfl
     subst this
     exact hv z zs h2
    |cell b off=>
     have hv':=(Sim.demH ks ((Sim.demT ks h).keep ks)).view t (.cell b off) sz ys h0
     intro cells z zs hb hcc
     rcases AgZ hb with hb|hb
     ·obtain⟨x,sz',ds',_,_,_,rfl⟩:=AmK hhx hb
      cases off<;>simp at hcc
     obtain⟨cs0,g1,g2,g3,g4⟩:=AiB hhp hb
     obtain⟨c0,hc0,hr0⟩:=hC g2 hcc
     rw[hmu b g3]
     have hc0':c0=.own z zs:=by
      cases c0<;>simp only[C.ren,Option.map_eq_some_iff] at hr0<;>first
       |(obtain⟨_,_,e⟩:=hr0; simp at e; done)
       |( split at hr0
          · simp only[sJ] at hr0; exact hr0
          · simp at hr0)
     subst hc0'
     exact hv' cs0 z zs g1 hc0
   ·intro b cells hb
    rcases AgZ hb with hb|hb
    ·obtain⟨x,sz,ds,g1,g2,g3,rfl⟩:=AmK hhx hb
     have hlt:=(List.getElem?_eq_some_iff.1 g1).1
     refine⟨by show b<n+xs.length; omega,by intro c hc i hi; simp only[List.mem_singleton] at hc; subst hc; simp[C.ids] at hi,?_⟩
     have hμb:μ' b=μ x:=by
      simp only[μ']
      rw[if_pos ⟨g2,hlt⟩]
      simp[List.getD,g1]
     rcases (h.heap x _ g3).2.2 with hnr|⟨k1,k2,k3⟩
     ·exact .inl hnr
     refine .inr ⟨λoff ho=>?_,by rw[hμb]; exact k2,?_⟩
     ·rw[hμb]
      have e:=k1 off (by cases off<;>simp)
      simp only[K',e]
      rw[AuS hnd g1,show n+(b-n)=b from by omega]
     rcases k3 with ⟨q1,q2,q3⟩|⟨kvs,q,_⟩
     ·refine .inl ⟨q1,?_,q3⟩
      intro i c hi hnh
      obtain⟨v,r1,r2,r3,r4,r5⟩:=q2 i c hi hnh
      obtain⟨d,rfl⟩:=qD (List.mem_of_getElem? hi)
      exact⟨v,by rw[hμb]; exact r1,r2,by rw[hμb]; exact r3,(RepC.step hst hro r4:RepC K' μ w (.d d) v),sM⟩
     simp[mapOf] at q
    obtain⟨cs0,g1,g2,g3,g4⟩:=AiB hhp hb
    obtain⟨k1,k2,k3⟩:=hd.heap b cs0 g1
    have hids:∀c∈cells,∀i∈c.ids,i<n+xs.length:=by
     intro c hc i hi
     obtain⟨q,hq⟩:=List.getElem?_of_mem hc
     obtain⟨c0,hc0,hr0⟩:=hC g2 hq
     have:∃b0,AyA xs n b0=some i:=by
      cases c0<;>simp only[C.ren,Option.map_eq_some_iff] at hr0<;>first
       |( obtain⟨j,hj,rfl⟩:=hr0
          simp only[C.ids,List.mem_singleton] at hi
          subst hi
          exact⟨_,hj⟩)
       |( split at hr0
          · rename_i hall
            simp only[sJ] at hr0
            subst hr0
            simp only[List.all_eq_true,beq_iff_eq] at hall
            exact⟨i,hall i hi⟩
          · simp at hr0)
     obtain⟨b0,hb0⟩:=this
     exact (hf _ _ hb0).2
    refine⟨by show b<n+xs.length; omega,hids,?_⟩
    have hbx:¬∃b',b'∈xs/\Tag.blk b=.blk b':=by
     rintro⟨b',hm,e⟩
     simp only[Tag.blk.injEq] at e
     subst e; exact g4 hm
    by_cases hplain:mapOf cs0=none/\∀sz ds,cs0≠[.seq sz ds]
    ·obtain⟨hmo,hns⟩:=hplain
     have hnr:¬Ac3 cs0:=λhq=>by obtain⟨sz,e,_⟩:=mP hq; exact hns _ _ e
     obtain⟨q1,q2,_⟩:=k3.old hnr
     have q3:=k3.cells hmo
     rw[fD hns] at q3
     have hcr:fV K' μ' w b cells:=by
      intro i c hi hnh
      obtain⟨c0,hc0,hr0⟩:=hC g2 hi
      obtain⟨v,r1,r2,r3,r4,r5⟩:=q3 i c0 hc0 (λe=>hnh ((BbM hr0).1 e))
      obtain⟨p1,_,p3⟩:=AvD hst hro hfμ hr0 r4
      refine⟨v,by rw[hmu b g3]; exact r1,r2,by rw[hmu b g3]; exact r3,p1,λsz ys e=>?_⟩
      exact (r5 sz ys ((p3 sz ys).1 e)).step hst (hsp _)
     refine .inr ⟨λoff ho=>?_,by rw[hmu b g3]; exact q2,.inl hcr.blk⟩
     rw[hmu b g3]
     have e:=q1 off (λe=>by
      obtain⟨c1,hr1,hc1⟩:=(kO g2).2 off _ e
      have:=(BbM hr1).1 rfl
      subst this
      exact ho hc1)
     simp only[K',e]
     rw[AlB g4]
    have hcs:cells=cs0/\∀c∈cs0,∀j∈c.ids,μ' j=μ j:=by
     have one:∀c,cs0=[c]->(∀b off,c≠.ptr b off)->(∀b m z,c≠.arr b m z)->cells=cs0/\∀c∈cs0,∀j∈c.ids,μ' j=μ j:=by
      rintro c rfl hp1 hp2
      simp only[aY] at g2
      split at g2
      · rename_i y ys hy hys
        simp only[sJ] at g2 hys
        subst hys; subst g2
        have:(if c.ids.all (λb=>AyA xs n b==some b) then some c else none)=some y:=by
          cases c<;>first|exact hy|exact absurd rfl (hp1 _ _)|exact absurd rfl (hp2 _ _ _)
        split at this
        · rename_i hall
          simp only[sJ] at this; subst this
          simp only[List.all_eq_true,beq_iff_eq] at hall
          refine⟨rfl,λc' hc' j hj=>?_⟩
          simp only[List.mem_singleton] at hc'; subst hc'
          exact hfμ j j (hall j hj)
        simp at this
      simp at g2
     cases hmo:mapOf cs0 with
     |some kvs=>
      rcases iN hmo with this|⟨l,this,_⟩
      · exact one _ this sM sM
      exact one _ this sM sM
     |none=>
      have:∃sz ds,cs0=[.seq sz ds]:=by
        by_cases hq:∃sz ds,cs0=[.seq sz ds]
        · exact hq
        exact absurd ⟨hmo,λsz ds e=>hq ⟨sz,ds,e⟩⟩ hplain
      obtain⟨sz,ds,this⟩:=this
      exact one _ this sM sM
    obtain⟨rfl,hm⟩:=hcs
    refine (k3.mu (hmu b g3) hm).step hst hro hbx λoff sz ys e=>hsp _
   ·intro blk off hl
    simp only[K',h.bound blk off hl]
   ·show a.defers=s.defers.map (AbE μ')
    rw[h.defs]
    refine List.map_congr_left λx hx=>?_
    unfold AbE
    congr 3
    refine List.map_congr_left λb hb=>?_
    rw[hfμ b b (hdf x hx b hb)]
   intro x hx b hb
   exact (hf b b (hdf x hx b hb)).2
  simp at hc
 simp at hc
theorem Sim.clean (h:Sim K μ s a w) {ks:List Nat} {n:Nat} {s':St} (hc:aJ ks n s=some s') :
  ∃K' μ',Step iD K w K' w/\(∀b,b<n->μ' b=μ b)/\Sim K' μ' s' a w/\n<=s'.nid/\s'.defers=s.defers:=by
 unfold aJ at hc
 split at hc
 ·obtain⟨h1,h2,h3⟩:=h.cleanO hc
  exact⟨K,μ,Step.refl _ _ _,λ_ _=>rfl,h1,oM,h3⟩
 ·exact h.cleanX hc
 simp at hc
theorem Aw5:∀ds:List D,AjI (ds.map C.d)=some ds
 | []=>rfl
 |d::ds=>by simp only[List.map_cons,AjI,C.toD,Aw5 ds]
theorem AsS {K':Col} {g sz:Nat}:∀{off:Nat} {ds:List D},(∀d∈ds,d.cells.length=sz) ->
  (∀i c,(fL ds)[i]?=some c->∃v,w.cell? (ad g (off+i))=some v/\eZ v=true/\RepC K' μ w c v)->(∀i,K' g i=.ro) ->
  iM K' w sz g off ds
 |off,[],_,_,_=>by simp only[iM]
 |off,d::ds,hl,hc,hk=>by
  have hd:=hl d sM
  have ih:=AsS (off:=off+sz) (ds:=ds) (λd hd=>hl d (by simp[hd])) (λi c hi=>by
   rw[show off+sz+i=off+(sz+i) from by omega]
   refine hc _ c ?_
   rw[AbP,List.getElem?_append_right (by simp; omega)]
   simpa[hd] using hi) hk
  have hvs:∃vs:List Value,vs.length=sz/\aZ K' μ w (d.cells.map C.d) vs/\(∀x∈vs,eZ x=true)/\∀i v,vs[i]?=some v->w.cell? (ad g (off+i))=some v:=by
   have hc':∀i,i<sz->∃c v,(d.cells.map C.d)[i]?=some c/\w.cell? (ad g (off+i))=some v/\eZ v=true/\RepC K' μ w c v:=by
    intro i hi
    have hlt:i<(d.cells.map C.d).length:=by simp; omega
    obtain⟨v,h1,h2,h3⟩:=hc i (d.cells.map C.d)[i] (by rw[AbP,List.getElem?_append_left hlt,List.getElem?_eq_getElem hlt])
    exact⟨_,v,List.getElem?_eq_getElem hlt,h1,h2,h3⟩
   have hget:∀i,i<sz->((List.range sz).map λi=>(w.cell? (ad g (off+i))).getD Go.undef)[i]?=some ((w.cell? (ad g (off+i))).getD Go.undef):=λi hi=>by
    simp[List.getElem?_map,List.getElem?_range hi]
   have hlt:∀i v,((List.range sz).map λi=>(w.cell? (ad g (off+i))).getD Go.undef)[i]?=some v->i<sz:=λi v hv=>by
    have:=(List.getElem?_eq_some_iff.1 hv).1; simpa using this
   refine⟨(List.range sz).map λi=>(w.cell? (ad g (off+i))).getD Go.undef,sM,?_,?_,?_⟩
   ·refine aZ.of_get (by simp[hd]) λi c v hi hv=>?_
    have hisz:=hlt i v hv
    obtain⟨c',v',h1,h2,_,h4⟩:=hc' i hisz
    rw[hi,sJ] at h1; subst h1
    rw[hget i hisz,h2,Option.getD_some,sJ] at hv
    subst hv; exact h4
   ·intro x hx
    obtain⟨i,hi⟩:=List.getElem?_of_mem hx
    have hisz:=hlt i x hi
    obtain⟨c',v',h1,h2,h3,h4⟩:=hc' i hisz
    rw[hget i hisz,h2,Option.getD_some,sJ] at hi
    subst hi; exact h3
   intro i v hv
   have hisz:=hlt i v hv
   obtain⟨c',v',h1,h2,h3,h4⟩:=hc' i hisz
   rw[hget i hisz,h2,Option.getD_some,sJ] at hv
   subst hv; exact h2
  obtain⟨vs,hvl,hrs,hone,hcell⟩:=hvs
  have hL:=Ab9 (Aw5 d.cells) hrs hone
  simp only[iM]
  refine⟨?_,ih⟩
  have mk:∀v:Value,Rep K' w d v->v.cells.toList=vs->∃v,Rep K' w d v/\v.cells.size=sz/\sG K' w g off v.cells.toList:=by
   intro v h1 h2
   refine⟨v,h1,by rw[←Array.length_toList,h2]; exact hvl,?_⟩
   rw[h2]
   intro i u hu
   exact⟨hk _,hcell i u hu⟩
  cases d with
  |agg cs=>
   exact mk (.agg vs.toArray) (by simp only[Rep]; exact⟨vs,rfl,hL⟩) (by simp[Value.cells])
  |_=>
   simp only[D.cells,dN] at hL
   obtain⟨v,r,rfl,ho,hr,rfl⟩:=hL
   exact mk v hr (by rw[wV ho])
theorem AqN (a:Act) {t:Nat} (h:t<a.tmps.size):a.put (some t) (a.tmps.getD t Go.undef)=a:=by
 obtain⟨tmps,df⟩:=a
 simp only[Act.put,Act.mk.injEq,and_true]
 simp only at h
 apply Array.ext
 ·simp
 intro i h1 h2
 simp only[Array.getElem_setIfInBounds h2]
 split
 ·rename_i e; subst e; simp[Array.getD,h2]
 rfl
def AtY (K':Col) (μ:Nat->Nat) (w:World) (hp:List (Nat×List C)) (bs:List Nat):Prop:=
 ∀b∈bs,∀sz ds v,look b hp=some [.seq sz ds]->AiK μ w b ds.length sz v->Rep K' w (.list sz ds) v
open Classical in
theorem Sim.freeze (h:Sim K μ s a w) (bs:List Nat):∃K',Step iD K w K' w/\Sim K' μ { s with heap:=AM.without bs s.heap } a w/\AtY K' μ w s.heap bs:=by
 let hit:Nat->Prop:=λblk=>∃b,b∈bs/\(∃sz ds,look b s.heap=some [.seq sz ds]/\ds≠[])/\blk=μ b
 let K':Col:=λblk off=>if hit blk then .ro else K blk off
 have htag:∀b sz ds,look b s.heap=some [.seq sz ds]->ds≠[]->(∀off,K (μ b) off=.blk b)/\μ b<w.heap.size:=by
  intro b sz ds hb hne
  have hbr:=(h.heap b _ hb).2.2
  have hnr:¬Ac3 [.seq sz ds]:=by
   intro hq
   obtain⟨_,e,_⟩:=mP hq
   simp only[List.cons.injEq,C.seq.injEq,and_true] at e
   exact hne e.2
  exact⟨λoff=>hbr.tag hnr (by cases off<;>simp),(hbr.old hnr).2.1⟩
 have hst:Step (λt=>∃b,b∈bs/\t=.blk b) K w K' w:=by
  refine⟨rfl,rfl,rfl,Nat.le_refl _,λ_ _ _=>rfl,λblk off hl hn=>⟨rfl,rfl,?_⟩,λ_ _ h=>h⟩
  show (if hit blk then Tag.ro else K blk off)=K blk off
  split
  ·rename_i hh
   obtain⟨b,hb,⟨sz,ds,hlk,hne⟩,rfl⟩:=hh
   exact absurd ⟨b,hb,(htag b sz ds hlk hne).1 off⟩ hn
  rfl
 have h1:=(h.without bs).step (K':=K') (w':=w) hst (by rintro⟨_,_,e⟩; simp at e) (λb' cells' hb'=>by
  rintro⟨b,hb,e⟩
  simp only[Tag.blk.injEq] at e
  subst e
  exact (tW hb').2 hb) (λl _=>by rintro⟨_,_,e⟩; simp at e) (λblk off hl=>by
  show (if hit blk then Tag.ro else K blk off)=.other
  rw[if_neg]
  ·exact h.bound blk off hl
  rintro⟨b,_,⟨sz,ds,h1,hne⟩,rfl⟩
  exact absurd (htag b sz ds h1 hne).2 oM)
 refine⟨K',hst.mono (by rintro t ⟨b,_,rfl⟩; simp[iD]),h1,?_⟩
 intro b hb sz ds v hl hv
 by_cases hne:ds=[]
 ·subst hne
  rcases hv with ⟨_,hz⟩|⟨h0,_⟩
  ·simp only[Rep]
   refine .inl ⟨trivial,?_⟩
   rcases hz with h|⟨a,h⟩
   ·exact .inl h
   exact .inr ⟨a,0,h⟩
  simp at h0
 obtain⟨cap,hv,hcap,_⟩:=hv.based (List.length_pos_iff.2 hne)
 obtain⟨hcells,hok⟩:=(h.heap b _ hl).2.2.seq
 have hg:=AsS (K':=K') (w:=w) (μ:=μ) (g:=μ b) (off:=0) hok.2 (λi c hi=>by
  obtain⟨v,hv,hv1,_,hv3,_⟩:=hcells i c hi (by obtain⟨d,rfl⟩:=qD (List.mem_of_getElem? hi); simp)
  rw[Nat.zero_add]
  exact⟨v,hv,hv1,hv3.step hst (by rintro⟨_,_,e⟩; simp at e)⟩) (λi=>by
   show (if hit (μ b) then Tag.ro else _)=.ro
   rw[if_pos ⟨b,hb,⟨sz,ds,hl,hne⟩,rfl⟩])
 rw[hv]
 simp only[Rep]
 exact .inr ⟨μ b,0,cap,rfl,hcap.1,hg⟩
theorem AxD {hp:List (Nat×List C)} {bs:List Nat} (hst:Step iD K w K' w) (hf:AtY K' μ w hp bs) {c c':C} {v:Value} (e:Al7 hp c=some c') (hb:∀b∈c.arrs,b∈bs) (hr:RepC K μ w c v) :
  RepC K' μ w c' v/\∀i∈c'.ids,i∈c.ids:=by
 unfold Al7 at e
 split at e
 ·rename_i b n sz
  split at e
  ·rename_i sz' ds hl
   split at e
   ·rename_i hc
    obtain⟨rfl,rfl⟩:=hc
    simp only[sJ] at e; subst e
    exact⟨hf b (hb b (by simp[C.arrs])) _ _ _ hl hr,by simp[C.ids]⟩
   simp at e
  simp at e
 simp only[sJ] at e; subst e
 exact⟨hr.step hst (by simp[iD]),λ_ h=>h⟩
theorem AmG {hp:List (Nat×List C)} {bs:List Nat} (hst:Step iD K w K' w) (hf:AtY K' μ w hp bs):∀{cs cs':List C} {vs:List Value},aY (Al7 hp) cs=some cs'->(∀b∈cs.flatMap C.arrs,b∈bs)->aZ K μ w cs vs ->
  aZ K' μ w cs' vs/\∀c∈cs',∀i∈c.ids,∃c0∈cs,i∈c0.ids
 | [],cs',vs,e,_,hr=>by
  simp only[aY,sJ] at e; subst e
  cases hr
  exact⟨.nil,sM⟩
 |c::cs,cs',vs,e,hb,hr=>by
  simp only[aY] at e
  split at e
  ·rename_i y ys hy hys
   simp only[sJ] at e; subst e
   cases hr with
   |cons h1 h2=>
    obtain⟨a1,a2⟩:=AxD hst hf hy (λb hb'=>hb b (by simp[hb'])) h1
    obtain⟨b1,b2⟩:=AmG hst hf hys (λb hb'=>hb b (by simp only[List.flatMap_cons,List.mem_append]; exact .inr hb')) h2
    refine⟨.cons a1 b1,λc' hc' i hi=>?_⟩
    rcases List.mem_cons.1 hc' with rfl|hc'
    ·exact⟨c,sM,a2 i hi⟩
    obtain⟨c0,h0,h1⟩:=b2 c' hc' i hi
    exact⟨c0,by simp[h0],h1⟩
  simp at e
theorem Bf1 {hp:List (Nat×List C)} {bs:List Nat} (hst:Step iD K w K' w) (hf:AtY K' μ w hp bs) {V V':AM.V} {v:Value} (e:AeV hp V=some V') (hb:∀b∈V.arrs,b∈bs) (hr:bY K μ w V v) :
  bY K' μ w V' v/\∀i∈V'.ids,i∈V.ids:=by
 cases V with
 |c x=>
  simp only[AeV,Option.map_eq_some_iff] at e
  obtain⟨c',e,rfl⟩:=e
  exact AxD hst hf e hb hr
 |vagg cs=>
  simp only[AeV,Option.map_eq_some_iff] at e
  obtain⟨cs',e,rfl⟩:=e
  obtain⟨vs,rfl,hcs,h1⟩:=hr
  obtain⟨g1,g2⟩:=AmG hst hf e hb hcs
  refine⟨Aw4 g1 h1,λi hi=>?_⟩
  obtain⟨c,hc,hi⟩:=Aw3 cs' i hi
  obtain⟨c0,h0,hi⟩:=g2 c hc i hi
  simp only[V.ids,List.mem_flatMap]; exact⟨c0,h0,hi⟩
 |vtup _ _=>simp[AeV] at e
 |tuple cs=>
  simp only[AeV,Option.map_eq_some_iff] at e
  obtain⟨cs',e,rfl⟩:=e
  obtain⟨vs,rfl,hcs⟩:=hr
  obtain⟨g1,g2⟩:=AmG hst hf e hb hcs
  refine⟨⟨vs,rfl,g1⟩,λi hi=>?_⟩
  simp only[V.ids,List.mem_flatMap] at hi ⊢
  obtain⟨c,hc,hi⟩:=hi
  obtain⟨c0,h0,hi⟩:=g2 c hc i hi
  exact⟨c0,h0,hi⟩
 |view l sz xs=>
  simp only[AeV,sJ] at e; subst e
  exact⟨hr.step hst (by simp[iD]),λ_ h=>h⟩
 |rptr cs=>
  simp only[AeV,sJ] at e; subst e
  exact⟨hr.step hst (by simp[iD]),λ_ h=>h⟩
theorem AlS {t:Nat} {v:V} {tm:List (Nat×V)} (h:∀sz xs,v≠.c (.own sz xs)):pC t v tm=(t,v)::tm:=by
 unfold pC
 split
 ·exact absurd rfl (h _ _)
 rfl
theorem Sim.tell (h:Sim K μ s a w) {t:Nat} {V V':AM.V} (ht:look t s.tmps=some V) (hr:∀v,bY K μ w V v->bY K μ w V' v) (hi:∀i∈V'.ids,i<s.nid)
  (ho:∀sz xs,V'=.c (.own sz xs)->∀v,bY K μ w V v->rL K w (.tmp t) sz v) (hv:∀l sz xs,V'≠.view l sz xs):Sim K μ { s with tmps:=pC t V' s.tmps } a w:=by
 obtain⟨hlt,hrv⟩:=h.tm t _ ht
 have hp:=h.put (dst:=some t) (V:=V') (v:=a.tmps.getD t Go.undef) (by intro t' e; simp only[sJ] at e; subst e; exact hlt)
  ⟨hr _ hrv,hi,λsz xs e t' e'=>by simp only[sJ] at e'; subst e'; exact ho sz xs e _ hrv,λl sz xs e=>absurd e (hv l sz xs)⟩
 rw[AqN a hlt] at hp
 exact hp
theorem AzT (h:Sim K μ s a w) {t:Nat} {s':St} (e:Bf0 t s=some s') :
  ∃K',Step iD K w K' w/\s.nid<=s'.nid/\s'.defers=s.defers/\Sim K' μ s' a w:=by
 unfold Bf0 at e
 split at e
 ·rename_i V ht
  split at e
  ·simp at e
  rename_i b bs hb
  split at e
  ·rename_i V' hV
   simp only[sJ] at e; subst e
   obtain⟨K',hst,hs',hf⟩:=h.freeze (b::bs)
   refine⟨K',hst,Nat.le_refl _,rfl,?_⟩
   have hno:∀sz xs,V'≠.c (.own sz xs):=by
    rintro sz xs rfl
    cases V with
    |c x=>
     simp only[AeV,Option.map_eq_some_iff,V.c.injEq] at hV
     obtain⟨c',hV,rfl⟩:=hV
     cases x<;>simp[V.arrs,C.arrs] at hb
     unfold Al7 at hV
     simp only at hV
     split at hV
     ·split at hV<;>simp at hV
     simp at hV
    |vagg cs=>
     simp only[AeV,Option.map_eq_some_iff] at hV
     obtain⟨cs',_,hV⟩:=hV
     unfold AoW at hV
     split at hV<;>simp at hV
    |vtup _ _=>simp[AeV] at hV
    |tuple cs=>
     simp only[AeV,Option.map_eq_some_iff] at hV
     obtain⟨cs',_,hV⟩:=hV
     simp at hV
    |view l sz xs=>simp[V.arrs] at hb
    |rptr cs=>simp[V.arrs] at hb
   have hnv:∀l sz xs,V'≠.view l sz xs:=by
    rintro l sz xs rfl
    cases V with
    |c x=>simp[AeV] at hV
    |vagg cs=>
     simp only[AeV,Option.map_eq_some_iff] at hV
     obtain⟨cs',_,hV⟩:=hV
     unfold AoW at hV
     split at hV<;>simp at hV
    |vtup _ _=>simp[AeV] at hV
    |tuple cs=>simp[AeV] at hV
    |view l sz xs=>simp[V.arrs] at hb
    |rptr cs=>simp[V.arrs] at hb
   have hrep:=λv (hr:bY K μ w V v)=>Bf1 hst hf hV (by rw[hb]; exact λ_ h=>h) hr
   obtain⟨hlt,hrv⟩:=h.tm t _ ht
   have hp:=hs'.put (dst:=some t) (V:=V') (v:=a.tmps.getD t Go.undef) (by intro t' e; simp only[sJ] at e; subst e; exact hlt)
    ⟨(hrep _ hrv).1,λi hi=>h.tids t V ht i ((hrep _ hrv).2 i hi),λsz xs e=>absurd e (hno sz xs),λl sz xs e=>absurd e (hnv l sz xs)⟩
   rw[AqN a hlt] at hp
   simp only[mR] at hp
   rw[AlS hno] at hp
   exact hp
  simp at e
 simp at e
theorem Sim.cellTo (h:Sim K μ s a w) {b off:Nat} {c c':C} (hc:cellOf b off s=some c) (hnh:c≠.hid) (hnm:(∀kvs,c≠.ment kvs)/\∀l,c≠.mdat l) (hr:∀v,RepC K μ w c v->RepC K μ w c' v) (hi:∀i∈c'.ids,i<s.nid)
  (hnh':c'≠.hid) (ho:∀sz xs,c'=.own sz xs->(∀v,RepC K μ w c v->rL K w (.cell b off) sz v)/\∀t z ys,look t s.tmps≠some (.view (.cell b off) z ys)):Sim K μ (AM.cellTo b off c' s) a w:=by
 unfold cellOf at hc
 split at hc
 ·rename_i cells hb
  split at hc
  ·simp at hc
  rename_i hns
  have hns:∀sz ds,cells≠[.seq sz ds]:=hns
  have hnr:¬Ac3 cells:=λhq=>by obtain⟨sz,e,_⟩:=mP hq; exact hns _ _ e
  have hlt:=(List.getElem?_eq_some_iff.1 hc).1
  obtain⟨k1,k2,k34⟩:=h.heap b cells hb
  obtain⟨k3,k4,k5⟩:=k34.old hnr
  have hmo:mapOf cells=none:=by
   cases hq:mapOf cells with
   |none=>rfl
   |some kvs=>
    rcases iN hq with rfl|⟨l,rfl,rfl⟩
    ·cases off with
     |zero=>simp at hc; exact absurd hc.symm (hnm.1 kvs)
     |succ n=>simp at hc
    cases off with
    |zero=>simp at hc; exact absurd hc.symm (hnm.2 l)
    |succ n=>simp at hc
  have k6:=k34.cells hmo
  rw[fD hns] at k6
  have hcr:fV K μ w b (cells.set off c'):=by
   intro i x hi' hnx
   by_cases hio:i=off
   ·subst hio
    rw[List.getElem?_set_self hlt,sJ] at hi'
    subst hi'
    obtain⟨v,g1,g2,g3,g4,_⟩:=k6 i c hc hnh
    exact⟨v,g1,g2,g3,hr v g4,λsz xs e=>(ho sz xs e).1 v g4⟩
   rw[List.getElem?_set_ne oM] at hi'
   exact k6 i x hi' hnx
  have key:AM.cellTo b off c' s={ s with heap:=upd b (cells.set off c') s.heap }:=by simp only[AM.cellTo,hb]
  rw[key]
  refine⟨h.tm,h.tids,h.own,?_,?_,h.bound,h.defs,h.dids,h.glob⟩
  ·intro t l sz xs ht
   have hv:=h.view t l sz xs ht
   cases l with
   |tmp u=>exact hv
   |cell b' off'=>
    intro cells' z ys hb' hc'
    by_cases hbb:b'=b
    ·subst hbb
     rw[show (look b' ({ s with heap:=upd b' (cells.set off c') s.heap }:St).heap)=look b' (upd b' (cells.set off c') s.heap) from rfl,cM,sJ] at hb'
     subst hb'
     by_cases hoo:off'=off
     ·subst hoo
      rw[List.getElem?_set_self hlt,sJ] at hc'
      exact absurd ht ((ho z ys hc').2 t sz xs)
     rw[List.getElem?_set_ne oM] at hc'
     exact hv cells z ys hb hc'
    rw[show (look b' ({ s with heap:=upd b (cells.set off c') s.heap }:St).heap)=look b' (upd b (cells.set off c') s.heap) from rfl,cW hbb] at hb'
    exact hv cells' z ys hb' hc'
  intro b' cells' hb'
  by_cases hbb:b'=b
  ·subst hbb
   rw[show (look b' ({ s with heap:=upd b' (cells.set off c') s.heap }:St).heap)=look b' (upd b' (cells.set off c') s.heap) from rfl,cM,sJ] at hb'
   subst hb'
   refine⟨k1,?_,.inr ⟨λo ho'=>k3 o (λe1=>?_),k4,.inl hcr.blk⟩⟩
   ·intro x hx i hi'
    rcases List.mem_or_eq_of_mem_set hx with hx|rfl
    ·exact k2 x hx i hi'
    exact hi i hi'
   by_cases hoo:o=off
   ·subst hoo; rw[hc,sJ] at e1; exact hnh e1
   rw[List.getElem?_set_ne oM] at ho'; exact ho' e1
  rw[show (look b' ({ s with heap:=upd b (cells.set off c') s.heap }:St).heap)=look b' (upd b (cells.set off c') s.heap) from rfl,cW hbb] at hb'
  exact h.heap b' cells' hb'
 simp at hc
theorem AzG {b off:Nat} {c:C} {n:Nat} {x:List C} (h:Sim K μ s a w) (hc:cellOf b off s=some c):cellOf b off { s with heap:=(s.nid,x)::s.heap,nid:=n }=some c:=by
 unfold cellOf at hc ⊢
 split at hc
 ·rename_i cells hb
  have hlt:=(h.heap b cells hb).1
  simp only[look]
  rw[if_neg oM,hb]
  exact hc
 simp at hc
theorem AnK (h:Sim K μ s a w) {k:Nat} {s':St} (e:Aj2 k s=some s') :
  ∃K',Step iD K w K' w/\s.nid<=s'.nid/\s'.defers=s.defers/\Sim K' μ s' a w:=by
 have cellD:∀{b off:Nat} {c:C} {q:St},(AM.cellTo b off c q).nid=q.nid/\(AM.cellTo b off c q).defers=q.defers:=by
  intro b off c q
  unfold AM.cellTo
  split<;>exact⟨rfl,rfl⟩
 unfold Aj2 at e
 split at e
 ·simp only[sJ] at e; subst e
  exact⟨K,Step.refl _ _ _,Nat.le_refl _,rfl,h⟩
 split at e
 ·-- a nil slice in a cell,to be appended to
  split at e
  ·rename_i n hc
   split at e
   ·rename_i hnv
    simp only[sJ] at e; subst e
    refine⟨K,Step.refl _ _ _,by rw[cellD.1]; exact Nat.le_refl _,cellD.2,h.cellTo hc sM sM ?_ (by simp[C.ids]) sM ?_⟩
    ·intro v hv
     simp only[RepC] at hv
     simp only[RepC,Rep]
     exact .inl ⟨trivial,.inl hv⟩
    intro sz xs e
    simp only[C.own.injEq] at e
    obtain⟨rfl,rfl⟩:=e
    exact⟨λv hv=>.inl (.inl hv),λt z ys=>qO hnv t _ z ys⟩
   simp at e
  simp at e
 split at e
 ·split at e
  ·rename_i n ht
   simp only[sJ] at e; subst e
   refine⟨K,Step.refl _ _ _,Nat.le_refl _,rfl,h.tell ht ?_ (by simp[V.ids,C.ids]) ?_ sM⟩
   ·intro v hv
    simp only[bY,RepC] at hv
    simp only[bY,RepC,Rep]
    exact .inl ⟨trivial,.inl hv⟩
   intro sz xs _ v hv
   exact .inl (.inl hv)
  ·simp at e
 split at e
 ·split at e
  ·rename_i n hc
   split at e
   ·rename_i hq
    obtain⟨hn,hnv⟩:=hq
    simp only[sJ] at e; subst e
    have h1:=h.addNil hn hnv
    refine⟨K,Step.refl _ _ _,by rw[cellD.1]; exact Nat.le_succ _,cellD.2,h1.cellTo (AzG h hc) sM sM ?_ ?_ sM sM⟩
    ·intro v hv
     exact .inl ⟨rfl,.inl hv⟩
    intro i hi
    simp only[C.ids,List.mem_singleton] at hi
    subst hi
    exact Nat.lt_succ_self _
   simp at e
  ·simp at e
 split at e
 ·split at e
  ·rename_i n ht
   split at e
   ·rename_i hq
    obtain⟨hn,hnv⟩:=hq
    simp only[sJ] at e; subst e
    have h1:=h.addNil hn hnv
    have h2:=h1.tell (V':=.c (.arr s.nid 0 n)) ht (λv hv=>.inl ⟨rfl,.inl hv⟩) (by
     intro i hi
     simp only[V.ids,C.ids,List.mem_singleton] at hi
     subst hi
     exact Nat.lt_succ_self _) sM sM
    rw[AlS sM] at h2
    exact⟨K,Step.refl _ _ _,Nat.le_succ _,rfl,h2⟩
   simp at e
  ·simp at e
 split at e
 ·split at e
  ·rename_i b n sz hc
   split at e
   ·rename_i c hf
    simp only[sJ] at e; subst e
    obtain⟨K',hst,hs',hfr⟩:=h.freeze [b]
    refine⟨K',hst,by rw[cellD.1]; exact Nat.le_refl _,cellD.2,?_⟩
    have hcd:∃ds,c=.d (.list sz ds)/\look b s.heap=some [.seq sz ds]/\ds.length=n:=by
     simp only[Al7] at hf
     split at hf
     ·rename_i sz' ds hl
      split at hf
      ·rename_i hq
       obtain⟨rfl,hq⟩:=hq
       simp only[sJ] at hf
       exact⟨ds,hf.symm,hl,hq⟩
      simp at hf
     simp at hf
    obtain⟨ds,rfl,hl,rfl⟩:=hcd
    have hc':cellOf ((k-8000000) / 1000) ((k-8000000) % 1000) { s with heap:=AM.without [b] s.heap }=some (.arr b ds.length sz):=by
     unfold cellOf at hc ⊢
     split at hc
     ·rename_i cells hb
      have:look ((k-8000000) / 1000) (AM.without [b] s.heap)=some cells:=by
       have hne:(k-8000000) / 1000≠b:=by
        intro e
        rw[e,hl,sJ] at hb
        rw[←hb] at hc
        simp at hc
       have:∀{hp:List (Nat×List C)} {j:Nat},j≠b->look j (AM.without [b] hp)=look j hp:=by
        intro hp j hj
        induction hp with
        |nil=>rfl
        |cons x r ih=>
         obtain⟨i,y⟩:=x
         by_cases hi:i=b
         ·have hcc:(!([b]:List Nat).contains i)=false:=by simp[hi]
          simp only[AM.without,List.filter_cons,hcc,fJ,if_false,look]
          rw[if_neg oM]
          exact ih
         have hcc:(!([b]:List Nat).contains i)=true:=by simp[hi]
         simp only[AM.without,List.filter_cons,hcc,if_true,look]
         split
         ·rfl
         exact ih
       rw[this hne]; exact hb
      simp only[this]
      exact hc
     simp at hc
    refine hs'.cellTo hc' sM sM ?_ (by simp[C.ids]) sM sM
    intro v hv
    exact hfr b sM sz ds v hl hv
   simp at e
  ·simp at e
 exact AzT h e
theorem ArL (h:Sim K μ s a w) {b0 off:Nat} {s':St} (e:AcP b0 off s=some s') :
  ∃K',Step iD K w K' w/\s'.nid=s.nid/\s'.defers=s.defers/\Sim K' μ s' a w:=by
 have cellD:∀{b off:Nat} {c:C} {q:St},(AM.cellTo b off c q).nid=q.nid/\(AM.cellTo b off c q).defers=q.defers:=by
  intro b off c q
  unfold AM.cellTo
  split<;>exact⟨rfl,rfl⟩
 unfold AcP at e
 split at e
 ·rename_i b n sz hc
  split at e
  ·rename_i c hf
   simp only[sJ] at e; subst e
   obtain⟨K',hst,hs',hfr⟩:=h.freeze [b]
   refine⟨K',hst,cellD.1,cellD.2,?_⟩
   have hcd:∃ds,c=.d (.list sz ds)/\look b s.heap=some [.seq sz ds]/\ds.length=n:=by
    simp only[Al7] at hf
    split at hf
    ·rename_i sz' ds hl
     split at hf
     ·rename_i hq
      obtain⟨rfl,hq⟩:=hq
      simp only[sJ] at hf
      exact⟨ds,hf.symm,hl,hq⟩
     simp at hf
    simp at hf
   obtain⟨ds,rfl,hl,rfl⟩:=hcd
   have hc':cellOf b0 off { s with heap:=AM.without [b] s.heap }=some (.arr b ds.length sz):=by
    unfold cellOf at hc ⊢
    split at hc
    ·rename_i cells hb
     have:look b0 (AM.without [b] s.heap)=some cells:=by
      have hne:b0≠b:=by
       intro e
       rw[e,hl,sJ] at hb
       rw[←hb] at hc
       simp at hc
      have:∀{hp:List (Nat×List C)} {j:Nat},j≠b->look j (AM.without [b] hp)=look j hp:=by
       intro hp j hj
       induction hp with
       |nil=>rfl
       |cons x r ih=>
        obtain⟨i,y⟩:=x
        by_cases hi:i=b
        ·have hcc:(!([b]:List Nat).contains i)=false:=by simp[hi]
         simp only[AM.without,List.filter_cons,hcc,fJ,if_false,look]
         rw[if_neg oM]
         exact ih
        have hcc:(!([b]:List Nat).contains i)=true:=by simp[hi]
        simp only[AM.without,List.filter_cons,hcc,if_true,look]
        split
        ·rfl
        exact ih
      rw[this hne]; exact hb
     simp only[this]
     exact hc
    simp at hc
   refine hs'.cellTo hc' sM sM ?_ (by simp[C.ids]) sM sM
   intro v hv
   exact hfr b sM sz ds v hl hv
  simp at e
 simp only[sJ] at e; subst e
 exact⟨K,Step.refl _ _ _,rfl,rfl,h⟩
theorem AgU {b off:Nat}:∀{n:Nat} {K:Col} {s s':St},Sim K μ s a w->uR b off n s=some s'->∃K',Step iD K w K' w/\s'.nid=s.nid/\s'.defers=s.defers/\Sim K' μ s' a w
 |0,K,s,s',h,e=>by
  simp only[uR,sJ] at e; subst e
  exact⟨K,Step.refl _ _ _,rfl,rfl,h⟩
 |n+1,K,s,s',h,e=>by
  simp only[uR] at e
  split at e
  ·rename_i s1 h1
   obtain⟨K1,a1,a2,a3,a4⟩:=ArL h h1
   obtain⟨K2,b1,b2,b3,b4⟩:=AgU a4 e
   exact⟨K2,a1.trans b1,b2.trans a2,b3.trans a3,b4⟩
  simp at e
theorem AaQ:∀{rs:List ResultVar} {K:Col} {s s':St},Sim K μ s a w->vT P rs s=some s'->∃K',Step iD K w K' w/\s'.nid=s.nid/\s'.defers=s.defers/\Sim K' μ s' a w
 | [],K,s,s',h,e=>by
  simp only[vT,sJ] at e; subst e
  exact⟨K,Step.refl _ _ _,rfl,rfl,h⟩
 |.tmp _::r,K,s,s',h,e=>AaQ h (by simpa only [vT] using e)
 |.cell _ _::r,K,s,s',h,e=>by
  simp only[vT] at e
  split at e
  ·split at e
   ·rename_i s1 h1
    obtain⟨K1,a1,a2,a3,a4⟩:=AgU h h1
    obtain⟨K2,b1,b2,b3,b4⟩:=AaQ a4 e
    exact⟨K2,a1.trans b1,b2.trans a2,b3.trans a3,b4⟩
   ·simp at e
  exact AaQ h e
theorem AmH:∀{ks:List Nat} {K:Col} {s s':St},Sim K μ s a w->frz ks s=some s'->∃K',Step iD K w K' w/\s.nid<=s'.nid/\s'.defers=s.defers/\Sim K' μ s' a w
 | [],K,s,s',h,e=>by
  simp only[frz,sJ] at e; subst e
  exact⟨K,Step.refl _ _ _,Nat.le_refl _,rfl,h⟩
 |k::r,K,s,s',h,e=>by
  simp only[frz] at e
  split at e
  ·split at e
   ·rename_i s1 h1
    obtain⟨K1,a1,a2,a3,a4⟩:=AnK h h1
    obtain⟨K2,b1,b2,b3,b4⟩:=AmH a4 e
    exact⟨K2,a1.trans b1,Nat.le_trans a2 b2,b3.trans a3,b4⟩
   ·simp at e
  exact AmH h e
theorem wT (hs:Sim K μ s a w) {ops:Array Oper} {o:Oper} {b:Bool} (h:wantedAt ops s.tmps o=some b):Region.wanted o (yielded ops a.tmps)=b:=by
 unfold wantedAt at h
 unfold Region.wanted
 split at h
 ·rename_i hg; simp only[sJ] at h; subst h; simp[hg]
 rename_i j want hg
 simp only[hg]
 split at h
 ·rename_i q hq
  split at h
  ·rename_i d hd
   have key:∀{v:V},look d s.tmps=some v->a.tmps[d]?=some (a.tmps.getD d Go.undef):=by
    intro v hv
    have:=(hs.tm d v hv).1
    simp[Array.getD,this]
   split at h
   ·rename_i b' hl
    simp only[sJ] at h; subst h
    have hr:=(hs.tm d _ hl).2
    simp only[bY,RepC,Rep] at hr
    simp only[yielded,hq,bJ,hd,key hl,hr]
    simp
   ·rename_i hl
    simp only[sJ] at h; subst h
    have hr:=(hs.tm d _ hl).2
    simp only[bY,RepC] at hr
    have hk:a.tmps[d]?=some Go.undef:=by rw[key hl,hr]
    simp only[yielded,hq,bJ,hd,hk]
    rfl
   simp at h
  simp at h
 simp at h
theorem AgQ {call:Call} (hcall:pY P call) (hP:oW P) {ops:Array Oper} {sz:Nat} (hd:∀o∈ops.toList,∀t,o.dst=some t->t<sz) {x:AX} {s':St} {fs':List eX}
  {Q:Exit->Act->World->Prop}:∀(l:List Oper) (i:Nat) (K:Col) (μ:Nat->Nat) (s:St) (a:Act) (w:World) (fs:List eX),ops.toList.drop i=l->AiZ P call ops l s fs=some (x,s',fs') ->
   Sim K μ s a w->a.tmps.size=sz->AjG K μ w s.nid sz x s' Q->wpOps P ops Q (List.range' i l.length) a w
 | [],i,K,μ,s,a,w,fs,_,h,hs,hsz,hg=>by
  simp only[AiZ,sJ,pJ] at h
  obtain⟨rfl,rfl,rfl⟩:=h
  exact hg .normal K μ a w rfl (fT.refl _ _ _ _) (Nat.le_refl _) hs hsz
 |o::l,i,K,μ,s,a,w,fs,hl,h,hs,hsz,hg=>by
  have hoi:ops[i]?=some o:=by
   have:(ops.toList.drop i)[0]?=some o:=by rw[hl]; rfl
   rw[rS] at this
   simpa using this
  have hl':ops.toList.drop (i+1)=l:=by
   rw[←List.drop_drop,hl]; rfl
  have hom:o∈ops.toList:=by
   have:o∈ops.toList.drop i:=by rw[hl]; simp
   exact List.mem_of_mem_drop this
  have hdo:∀t,o.dst=some t->t<a.tmps.size:=by rw[hsz]; exact hd o hom
  simp only[List.length_cons,List.range'_succ,wpOps,hoi]
  simp only[AiZ] at h
  split at h
  ·simp at h
  ·rename_i hw
   rw[wT hs hw]
   simp only[fJ,if_false]
   have hs':=hs.put (dst:=o.dst) (V:=.c .undef) (v:=Go.undef) hdo sW
   have hn:(putDst o (.c .undef) s).nid=s.nid:=by unfold putDst mR; cases o.dst<;>rfl
   exact AgQ hcall hP hd l (i+1) K μ _ _ w _ hl' h hs' (by rw[mS]; exact hsz) (by rw[hn]; exact hg)
  rename_i hw
  rw[wT hs hw]
  simp only[if_true]
  split at h
  ·simp at h
  ·rename_i d s1 f hop
   simp only[sJ,pJ] at h
   obtain⟨rfl,rfl,rfl⟩:=h
   refine .inl (uV hcall hP hs hop hdo ⟨sM,?_⟩)
   intro d' s'' K' μ' w' u e haf hn hs' hr
   simp only[gR.pan.injEq] at e
   obtain⟨rfl,rfl⟩:=e
   exact hg _ K' μ' a w' ⟨u,rfl,hr⟩ haf hn hs' hsz
  rename_i v s1 f hop
  refine .inl (uV hcall hP hs hop hdo ⟨?_,sM⟩)
  intro V s'' K' μ' a' w' e haf hn hs' hsz'
  simp only[gR.val.injEq] at e
  obtain⟨rfl,rfl⟩:=e
  have hn':(putDst o v s1).nid=s1.nid:=by unfold putDst mR; cases o.dst<;>rfl
  exact AgQ hcall hP hd l (i+1) K' μ' _ a' w' _ hl' h hs' (by rw[hsz',hsz]) (by rw[hn']; exact hg.later haf hn)
end
end Go.AM
namespace Go.AM
open Go
variable [cU]
section
variable {P:Program} {K K':Col} {μ μ':Nat->Nat} {w w':World} {s:St} {a:Act}
def sI (K:Col) (μ:Nat->Nat) (b off:Nat):Col:=λblk o=>if (blk=μ b/\o=off)\/K blk o=.sp (.cell b off) then .other else K blk o
theorem AtN {b off:Nat} {w:World} (h:K (μ b) off=.blk b):Step (λt=>t=.blk b\/t=.sp (.cell b off)) K w (sI K μ b off) w:=by
 refine⟨rfl,rfl,rfl,Nat.le_refl _,λ_ _ _=>rfl,λblk o _ hn=>⟨rfl,rfl,?_⟩,λ_ _ h=>h⟩
 simp only[sI]
 rw[if_neg]
 rintro (⟨rfl,rfl⟩|e)
 ·exact hn (.inl h)
 exact hn (.inr e)
theorem Sim.hide (h:Sim K μ s a w) {b off sz:Nat} {xs:List D} {cells:List C} (hb:look b s.heap=some cells) (hc:cells[off]?=some (.own sz xs)) :
  ∃v,w.cell? (ad (μ b) off)=some v/\eZ v=true/\w.frozen? (ad (μ b) off)=false/\Rep K w (.list sz xs) v/\rL K w (.cell b off) sz v/\K (μ b) off=.blk b/\μ b<w.heap.size /\
   Sim (sI K μ b off) μ { s with heap:=upd b (cells.set off .hid) s.heap } a w:=by
 obtain⟨k1,k2,kb⟩:=h.heap b cells hb
 have hmo:mapOf cells=none:=by
  cases hq:mapOf cells with
  |none=>rfl
  |some kvs=>
   rcases iN hq with rfl|⟨l,rfl,rfl⟩<;>cases off<;>simp at hc
 have hfl:=AeU hc
 have hcr:=kb.cells hmo
 rw[hfl] at hcr
 obtain⟨v,hv,hv1,hv2,hv3,hv4⟩:=hcr off _ hc sM
 have kb0:=kb
 have hnr:¬Ac3 cells:=yS hc sM
 have kb:=kb.old hnr
 have htag:=kb0.tag (off:=off) hnr (by rw[hc]; simp)
 have hst:=AtN (w:=w) (off:=off) htag
 have hro:¬((Tag.ro=Tag.blk b)\/Tag.ro=Tag.sp (.cell b off)):=sM
 refine⟨v,hv,hv1,hv2,hv3,hv4 sz xs rfl,htag,kb.2.1,?_⟩
 refine⟨?_,h.tids,?_,?_,?_,?_,h.defs,h.dids,h.glob.step hst hro⟩
 ·intro t V ht
  exact⟨(h.tm t V ht).1,(h.tm t V ht).2.step hst hro⟩
 ·intro t sz' xs' ht
  exact (h.own t sz' xs' ht).step hst sM
 ·intro t l sz' xs' ht
  have hvw:=h.view t l sz' xs' ht
  cases l with
  |tmp u=>exact hvw
  |cell b' off'=>
   intro cells' z ys hb' hc'
   by_cases hbb:b'=b
   ·subst hbb
    rw[show (look b' ({ s with heap:=upd b' (cells.set off .hid) s.heap }:St).heap)=look b' (upd b' (cells.set off .hid) s.heap) from rfl,cM,sJ] at hb'
    subst hb'
    by_cases ho:off'=off
    ·subst ho
     rw[List.getElem?_set_self'] at hc'
     rw[hc] at hc'
     simp at hc'
    rw[List.getElem?_set_ne oM] at hc'
    exact hvw cells z ys hb hc'
   rw[show (look b' ({ s with heap:=upd b (cells.set off .hid) s.heap }:St).heap)=look b' (upd b (cells.set off .hid) s.heap) from rfl,cW hbb] at hb'
   exact hvw cells' z ys hb' hc'
 ·intro b' cells' hb'
  by_cases hbb:b'=b
  ·subst hbb
   rw[show (look b' ({ s with heap:=upd b' (cells.set off .hid) s.heap }:St).heap)=look b' (upd b' (cells.set off .hid) s.heap) from rfl,cM,sJ] at hb'
   subst hb'
   have hlt:off<cells.length:=(List.getElem?_eq_some_iff.1 hc).1
   have hset:∀i c,(cells.set off .hid)[i]?=some c->(i=off/\c=.hid)\/(i≠off/\cells[i]?=some c):=by
    intro i c hi
    by_cases ho:i=off
    ·subst ho
     rw[List.getElem?_set_self hlt,sJ] at hi
     exact .inl ⟨rfl,hi.symm⟩
    rw[List.getElem?_set_ne oM] at hi
    exact .inr ⟨ho,hi⟩
   have hcr':fV (sI K μ b' off) μ w b' (cells.set off .hid):=by
    intro i c hi hnh
    rcases hset i c hi with ⟨_,rfl⟩|⟨ho,hi⟩
    ·exact absurd rfl hnh
    obtain⟨u,hu,hu1,hu2,hu3,hu4⟩:=hcr i c hi hnh
    exact⟨u,hu,hu1,hu2,hu3.step hst hro,λz ys e=>(hu4 z ys e).step hst (by simp[ho])⟩
   refine⟨k1,?_,.inr ⟨?_,kb.2.1,.inl hcr'.blk⟩⟩
   ·intro c hc' i hi
    rcases List.mem_or_eq_of_mem_set hc' with hc' | rfl
    ·exact k2 c hc' i hi
    simp[C.ids] at hi
   intro o ho
   have hoo:o≠off:=by
    rintro rfl
    exact ho (by rw[List.getElem?_set_self hlt])
   rw[List.getElem?_set_ne oM] at ho
   have:=kb.1 o ho
   simp only[sI]
   rw[if_neg]
   ·exact this
   rintro (⟨_,e⟩|e)
   ·exact hoo e
   rw[this] at e; simp at e
  rw[show (look b' ({ s with heap:=upd b (cells.set off .hid) s.heap }:St).heap)=look b' (upd b (cells.set off .hid) s.heap) from rfl,cW hbb] at hb'
  obtain⟨q1,q2,q3⟩:=h.heap b' cells' hb'
  exact⟨q1,q2,q3.step hst hro (by simp[hbb]) λo z ys e=>by simp[hbb]⟩
 intro blk o hl
 have:=h.bound blk o hl
 simp only[sI]
 split
 ·rfl
 exact this
def tR (K K1:Col) (μ:Nat->Nat) (w:World) (b off:Nat):Col:=λblk o=>if (blk=μ b/\o=off)\/(blk<w.heap.size/\K blk o=.sp (.cell b off)) then K blk o else K1 blk o
theorem Sim.unhide {K1:Col} {w1:World} {s1:St} {a1:Act} {b off sz:Nat} {xs:List D} {cells1:List C} {v:Value} (hst:Step iD (sI K μ b off) w K1 w1) (hmu:μ' b=μ b) (h:Sim K1 μ' s1 a1 w1)
  (hv:w.cell? (ad (μ b) off)=some v) (hv1:eZ v=true) (hv2:w.frozen? (ad (μ b) off)=false) (hv3:Rep K w (.list sz xs) v) (hv4:rL K w (.cell b off) sz v) (htag:K (μ b) off=.blk b) (hlt:μ b<w.heap.size)
  (hb:look b s1.heap=some cells1) (hc:cells1[off]?=some .hid) :
  Step iD K w (tR K K1 μ w b off) w1/\Step (λt=>t=.other) K1 w1 (tR K K1 μ w b off) w1/\w1.cell? (ad (μ' b) off)=some v /\
   Sim (tR K K1 μ w b off) μ' { s1 with tmps:=AM.unview (.cell b off) s1.tmps,heap:=upd b (cells1.set off (.own sz xs)) s1.heap } a1 w1:=by
 have hid:sI K μ b off (μ b) off=.other:=by simp[sI]
 have hcell:=hst.cell (μ b) off hlt (by rw[hid]; simp[iD])
 have hsp:∀blk o,blk<w.heap.size->K blk o=.sp (.cell b off)->w1.cell? (ad blk o)=w.cell? (ad blk o)/\w1.frozen? (ad blk o)=w.frozen? (ad blk o)/\K1 blk o=.other:=by
  intro blk o hl e
  have hh:sI K μ b off blk o=.other:=by simp[sI,e]
  have:=hst.cell blk o hl (by rw[hh]; simp[iD])
  rw[hh] at this
  exact this
 have hst2:Step (λt=>t=.other) K1 w1 (tR K K1 μ w b off) w1:=by
  refine⟨rfl,rfl,rfl,Nat.le_refl _,λ_ _ _=>rfl,λblk o _ hn=>⟨rfl,rfl,?_⟩,λ_ _ h=>h⟩
  simp only[tR]
  rw[if_neg]
  rintro (⟨rfl,rfl⟩|⟨hl,e⟩)
  ·exact hn (by rw[hcell.2.2,hid])
  exact hn (hsp _ _ hl e).2.2
 have hstA:Step iD K w (tR K K1 μ w b off) w1:=by
  have hkeep:∀blk o,¬iD (K blk o)->sI K μ b off blk o=K blk o:=by
   intro blk o hn
   simp only[sI]
   rw[if_neg]
   rintro (⟨rfl,rfl⟩|e)
   ·exact hn (by rw[htag]; simp[iD])
   exact hn (by rw[e]; simp[iD])
  refine⟨hst.os,hst.tape,hst.output,hst.size,λblk hl hn=>hst.block blk hl λo=>by rw[hkeep blk o (hn o)]; exact hn o,λblk o hl hn=>?_,hst.ex⟩
  have:=hst.cell blk o hl (by rw[hkeep blk o hn]; exact hn)
  refine⟨this.1,this.2.1,?_⟩
  simp only[tR]
  split
  ·rfl
  rw[this.2.2,hkeep blk o hn]
 have hw1:w1.cell? (ad (μ' b) off)=some v:=by rw[hmu]; exact hcell.1.trans hv
 have hro:¬(Tag.ro=Tag.other):=sM
 have h2:=h.step hst2 hro sM sM (λblk o hl=>by
  have hsz:=hst.size
  simp only[tR]
  rw[if_neg]
  ·exact h.bound blk o hl
  rintro (⟨rfl,_⟩|⟨hl2,_⟩)<;>omega)
 obtain⟨h3,hnv⟩:=h2.unview (.cell b off)
 refine⟨hstA,hst2,hw1,?_⟩
 obtain⟨k1,k2,kb⟩:=h3.heap b cells1 hb
 have hmo:mapOf cells1=none:=by
  cases hq:mapOf cells1 with
  |none=>rfl
  |some kvs=>
   rcases iN hq with rfl|⟨l,rfl,rfl⟩<;>cases off<;>simp at hc
 have hfl:fK cells1=cells1:=by
  refine fD ?_
  rintro z ds rfl
  cases off<;>simp at hc
 have hcr:=kb.cells hmo
 have kb:=kb.old (yS hc sM)
 rw[hfl] at hcr
 have hoff:off<cells1.length:=(List.getElem?_eq_some_iff.1 hc).1
 have hset:∀i c,(cells1.set off (.own sz xs))[i]?=some c->(i=off/\c=.own sz xs)\/(i≠off/\cells1[i]?=some c):=by
  intro i c hi
  by_cases ho:i=off
  ·subst ho
   rw[List.getElem?_set_self hoff,sJ] at hi
   exact .inl ⟨rfl,hi.symm⟩
  rw[List.getElem?_set_ne oM] at hi
  exact .inr ⟨ho,hi⟩
 have hrep:Rep (tR K K1 μ w b off) w1 (.list sz xs) v:=Rep.step hstA (by simp[iD]) _ _ hv3
 have hspare:rL (tR K K1 μ w b off) w1 (.cell b off) sz v:=by
  rcases hv4 with e|⟨blk,o,len,cap,e1,e2,e3⟩
  ·exact .inl e
  refine .inr ⟨blk,o,len,cap,e1,e2,λj hj hj'=>?_⟩
  obtain⟨t1,t2,t3⟩:=e3 j hj hj'
  obtain⟨u,hu⟩:=Option.isSome_iff_exists.1 t2
  obtain⟨r1,r2,r3⟩:=hsp _ _ (block_lt hu) t1
  refine⟨?_,by rw[r1]; exact t2,r2.trans t3⟩
  simp only[tR]
  rw[if_pos (.inr ⟨block_lt hu,t1⟩),t1]
 refine⟨h3.tm,h3.tids,h3.own,?_,?_,h3.bound,h3.defs,h3.dids,h3.glob⟩
 ·intro t l sz' xs' ht
  have hvw:=h3.view t l sz' xs' ht
  cases l with
  |tmp u=>exact hvw
  |cell b' off'=>
   intro cells' z ys hb' hc'
   by_cases hbb:b'=b
   ·subst hbb
    rw[show (look b' ({ s1 with tmps:=AM.unview (.cell b' off) s1.tmps,heap:=upd b' (cells1.set off (.own sz xs)) s1.heap }:St).heap)=look b' (upd b' (cells1.set off (.own sz xs)) s1.heap) from rfl,cM,sJ] at hb'
    subst hb'
    rcases hset off' _ hc' with ⟨rfl,_⟩|⟨_,hc'⟩
    ·exact absurd ht (hnv t sz' xs')
    exact hvw cells1 z ys hb hc'
   rw[show (look b' ({ s1 with tmps:=AM.unview (.cell b off) s1.tmps,heap:=upd b (cells1.set off (.own sz xs)) s1.heap }:St).heap)=look b' (upd b (cells1.set off (.own sz xs)) s1.heap) from rfl,cW hbb] at hb'
   exact hvw cells' z ys hb' hc'
 intro b' cells' hb'
 by_cases hbb:b'=b
 ·subst hbb
  rw[show (look b' ({ s1 with tmps:=AM.unview (.cell b' off) s1.tmps,heap:=upd b' (cells1.set off (.own sz xs)) s1.heap }:St).heap)=look b' (upd b' (cells1.set off (.own sz xs)) s1.heap) from rfl,cM,sJ] at hb'
  subst hb'
  have hcr':fV (tR K K1 μ w b' off) μ' w1 b' (cells1.set off (.own sz xs)):=by
   intro i c hi hnh
   rcases hset i c hi with ⟨rfl,rfl⟩|⟨ho,hi⟩
   ·refine⟨v,hw1,hv1,by rw[hmu]; exact hcell.2.1.trans hv2,hrep,λz ys e=>?_⟩
    simp only[C.own.injEq] at e
    obtain⟨rfl,rfl⟩:=e
    exact hspare
   exact hcr i c hi hnh
  refine⟨k1,?_,.inr ⟨?_,kb.2.1,.inl hcr'.blk⟩⟩
  ·intro c hc' i hi
   rcases List.mem_or_eq_of_mem_set hc' with hc' | rfl
   ·exact k2 c hc' i hi
   simp[C.ids] at hi
  intro o ho
  by_cases hoo:o=off
  ·subst hoo
   simp only[tR]
   rw[if_pos (.inl (by simp[hmu])),hmu]; exact htag
  rw[List.getElem?_set_ne oM] at ho
  exact kb.1 o ho
 rw[show (look b' ({ s1 with tmps:=AM.unview (.cell b off) s1.tmps,heap:=upd b (cells1.set off (.own sz xs)) s1.heap }:St).heap)=look b' (upd b (cells1.set off (.own sz xs)) s1.heap) from rfl,cW hbb] at hb'
 exact h3.heap b' cells' hb'
end
end Go.AM
namespace Go.AM
open Go
variable [cU]
def same (s t:St):Lc->Prop
 |.tmp x=>look x s.tmps=look x t.tmps
 |.blk b=>look b s.heap=look b t.heap
 |.nid=>s.nid=t.nid
 |.defs=>s.defers=t.defers
 |.vb b=>∀x off sz xs,look x s.tmps=some (.view (.cell b off) sz xs)↔look x t.tmps=some (.view (.cell b off) sz xs)
 |.vt u=>∀x sz xs,look x s.tmps=some (.view (.tmp u) sz xs)↔look x t.tmps=some (.view (.tmp u) sz xs)
theorem same.refl (s:St) (l:Lc):same s s l:=by cases l<;>simp[same]
theorem same.symm {s t:St} {l:Lc} (h:same s t l):same t s l:=by
 cases l<;>simp only[same] at h ⊢
 case vb=>exact λx off sz xs=>(h x off sz xs).symm
 case vt=>exact λx sz xs=>(h x sz xs).symm
 all_goals exact h.symm
theorem same.trans {s t u:St} {l:Lc} (h:same s t l) (k:same t u l):same s u l:=by
 cases l<;>simp only[same] at h k ⊢
 case vb=>exact λx off sz xs=>(h x off sz xs).trans (k x off sz xs)
 case vt=>exact λx sz xs=>(h x sz xs).trans (k x sz xs)
 all_goals exact h.trans k
theorem Sim.same {K:Col} {μ:Nat->Nat} {w:World} {s t:St} {a:Act} (h:Sim K μ s a w) (hs:∀l,same s t l):Sim K μ t a w:=by
 have htm:∀x,look x s.tmps=look x t.tmps:=λx=>hs (.tmp x)
 have hhp:∀b,look b s.heap=look b t.heap:=λb=>hs (.blk b)
 have hn:s.nid=t.nid:=hs .nid
 have hd:s.defers=t.defers:=hs .defs
 refine⟨?_,?_,?_,?_,?_,h.bound,by rw[←hd]; exact h.defs,by rw[←hd,←hn]; exact h.dids,h.glob⟩
 ·intro x V hx; exact h.tm x V (by rw[htm]; exact hx)
 ·intro x V hx; rw[←hn]; exact h.tids x V (by rw[htm]; exact hx)
 ·intro x sz xs hx; exact h.own x sz xs (by rw[htm]; exact hx)
 ·intro x l sz xs hx
  have:=h.view x l sz xs (by rw[htm]; exact hx)
  cases l with
  |tmp u=>intro z ys hu; exact this z ys (by rw[htm]; exact hu)
  |cell b off=>intro cells z ys hb hc; exact this cells z ys (by rw[hhp]; exact hb) hc
 intro b cells hb; rw[←hn]; exact h.heap b cells (by rw[hhp]; exact hb)
section
variable {P:Program}
theorem fY {tm tm':List (Nat×V)} {x:Operand} (h:ev tm x=ev tm' x) (t:TypeId):evT P t tm x=evT P t tm' x:=by
 simp only[evT,h]
theorem AkK {tm tm':List (Nat×V)} {t:TypeId}:∀{ps:List (Nat×Operand)} {cs:List C},(∀p∈ps,ev tm p.2=ev tm' p.2)->Aa0 P t tm ps cs=Aa0 P t tm' ps cs
 | [],cs,_=>rfl
 |(i,o)::r,cs,h=>by
  have ih:∀cs,Aa0 P t tm r cs=Aa0 P t tm' r cs:=λcs=>AkK λp hp=>h p (by simp[hp])
  have ho:ev tm o=ev tm' o:=h (i,o) sM
  simp only[Aa0,fY ho,ih]
theorem AkY {tm tm':List (Nat×V)} {e:TypeId} {sz:Nat}:∀{ps:List (Nat×Operand)} {n:Nat},(∀p∈ps,ev tm p.2=ev tm' p.2)->vS P e sz tm n ps=vS P e sz tm' n ps
 | [],n,_=>rfl
 |(i,o)::r,n,h=>by
  have ih:vS P e sz tm (n+1) r=vS P e sz tm' (n+1) r:=AkY λp hp=>h p (by simp[hp])
  have ho:ev tm o=ev tm' o:=h (i,o) sM
  simp only[vS,fY ho,ih]
theorem AhH {α β:Type} {f g:α->Option β}:∀{l:List α},(∀x∈l,f x=g x)->aY f l=aY g l
 | [],_=>rfl
 |x::r,h=>by
  have ih:aY f r=aY g r:=AhH λy hy=>h y (by simp[hy])
  simp only[aY,h x sM,ih]
theorem Af5 {tm tm':List (Nat×V)} {o:Option Operand} {n:Nat} (h:∀x,o=some x->ev tm x=ev tm' x):gN tm o n=gN tm' o n:=by
 cases o with
 |none=>rfl
 |some x=>simp only[gN]; rw[h x rfl]
theorem BcM {o:Oper} {tm tm':List (Nat×V)} {hp hp':List (Nat×List C)} {id id':Nat} (hb:aR o=false) (h:∀x∈o.op.operands.toList,ev tm x=ev tm' x)
  (hh:∀b∈cQ o tm,look b hp=look b hp'):evR P id o tm hp=evR P id' o tm' hp':=by
 unfold evR
 cases ho:o.op with
 |move x=>simp only[fY (P:=P) (h x (by simp[ho,Op.operands]))]
 |pick c x y=>simp only[h c (by simp[ho,Op.operands]),fY (P:=P) (h x (by simp[ho,Op.operands])),fY (P:=P) (h y (by simp[ho,Op.operands]))]
 |alloc t=>simp[aR,ho] at hb
 |box t x=>simp[aR,ho] at hb
 |build t parts=>
  have hb:∀cs,Aa0 P t tm parts.toList cs=Aa0 P t tm' parts.toList cs:=λcs=>AkK λp hp=>
   h p.2 (by simp only[ho,Op.operands,Array.toList_map,List.mem_map]; exact⟨p,hp,rfl⟩)
  simp only[hb]
 |buildSlice t len parts=>
  have hfn:AmD parts.toList=none:=by simpa[aR,ho] using hb
  have hb2:∀e n,vS P e n tm 0 parts.toList=vS P e n tm' 0 parts.toList:=λe n=>AkY λp hp=>
   h p.2 (by simp only[ho,Op.operands,Array.toList_map,List.mem_map]; exact⟨p,hp,rfl⟩)
  simp only[hfn,hb2]
 |load t x=>
  simp only
  have hx:=h x (by simp[ho,Op.operands])
  simp only[cQ,ho] at hh
  rw[←hx]
  split
  ·rename_i b off he
   rw[he] at hh
   have:=hh b sM
   simp only[yG,this]
  ·rfl
  rfl
 |nilCheck x=>simp only[h x (by simp[ho,Op.operands])]
 |binOp op t x y u=>simp only[fY (P:=P) (h x (by simp[ho,Op.operands])),fY (P:=P) (h y (by simp[ho,Op.operands]))]
 |unOp op t x=>simp only[h x (by simp[ho,Op.operands])]
 |convert src dst x=>simp only[fY (P:=P) (h x (by simp[ho,Op.operands]))]
 |makeInterface t x=>simp only[fY (P:=P) (h x (by simp[ho,Op.operands]))]
 |makeFunc fn first captured=>
  have hb:aY (λx=>match ev tm x with|some (.c (.ptr b 0))=>some b|_=>none) captured.toList=aY (λx=>match ev tm' x with|some (.c (.ptr b 0))=>some b|_=>none) captured.toList:=by
   refine AhH λx hx=>?_
   rw[h x (by simp only[ho,Op.operands,Array.toList_append,List.mem_append]; exact .inr hx)]
  cases fn with
  |func f=>
   simp only
   cases hf:first.toList with
   |nil=>exact congrArg (λr:Option (List Nat)=>(match r with|some ids=>some (V.c (.fn f ids),none)|none=>none:Option (V×Option (List C)))) hb
   |cons y r=>
    cases r with
    |nil=>
     simp only
     rw[h y (by simp only[ho,Op.operands,Array.toList_append,List.mem_append]; exact .inl (by rw[hf]; simp))]
    |cons _ _=>rfl
  |_=>rfl
 |makeSlice t l c=>
  have hsame:rI l c=false:=by simpa[aR,ho] using hb
  simp only[h l (by simp[ho,Op.operands]),h c (by simp[ho,Op.operands]),hsame,fJ,if_false]
 |slice t x lo hi mx=>
  have h1:evT P t tm x=evT P t tm' x:=fY (h x (by simp[ho,Op.operands])) t
  have h2:∀n,gN tm lo n=gN tm' lo n:=λn=>Af5 λy hy=>h y (by simp[ho,Op.operands,hy])
  have h3:∀n,gN tm hi n=gN tm' hi n:=λn=>Af5 λy hy=>h y (by simp[ho,Op.operands,hy])
  have h4:∀m,mx=some m->gN tm (some m) 0=gN tm' (some m) 0:=λm hm=>Af5 λy hy=>h y (by simp only[sJ] at hy; subst hy; simp[ho,Op.operands,hm])
  simp only[h1,h2,h3]
  cases evT P t tm' x with
  |none=>rfl
  |some a=>
   simp only
   cases AuZ P t a with
   |none=>rfl
   |some n=>
    simp only
    cases gN tm' lo 0 with
    |none=>rfl
    |some l=>
     cases gN tm' hi n with
     |none=>rfl
     |some r=>
      cases mx with
      |none=>rfl
      |some m=>simp only[h4 m rfl]
 |fieldAddr t x i=>simp only[h x (by simp[ho,Op.operands])]
 |field t x i=>simp only[h x (by simp[ho,Op.operands])]
 |indexAddr t x i=>simp only[h x (by simp[ho,Op.operands]),h i (by simp[ho,Op.operands])]
 |index t x i=>simp only[h x (by simp[ho,Op.operands]),h i (by simp[ho,Op.operands])]
 |typeAssert x u t ok=>simp only[h x (by simp[ho,Op.operands])]
 |lookup t x y ok=>
  simp only
  have hx:=h x (by simp[ho,Op.operands])
  have hy:=h y (by simp[ho,Op.operands])
  simp only[cQ,ho] at hh
  rw[←hx,←hy]
  split
  ·rename_i kt e b kd _ he _
   rw[he] at hh
   rw[hh b sM]
  ·rfl
  rfl
 |extract x i=>simp only[h x (by simp[ho,Op.operands])]
 |call c=>
  have ha:∀x∈c.args.toList,ev tm x=ev tm' x:=λx hx=>h x (by simp[ho,Op.operands,Call.operands]; exact .inr (by simpa using hx))
  simp only
  split
  ·split
   ·rename_i x t he _
    rw[ha x (by rw[he]; simp)]
   ·rfl
  ·split
   ·rename_i x y he
    rw[ha x (by rw[he]; simp),ha y (by rw[he]; simp)]
   ·rfl
  ·split
   ·rename_i x y he
    rw[ha x (by rw[he]; simp),ha y (by rw[he]; simp)]
   ·rfl
  rfl
 |_=>rfl
end
end Go.AM
namespace Go.AM
open Go
variable [cU]
section
variable {P:Program} {call:Call} {ops:Array Oper} {vs:List Nat} {S S' t:St} {o:Oper} {id:Nat}
theorem tO {dst:Option Nat} {v:V} (h:vZ dst v S=some S') (hs:∀l∈kX dst v,same S t l) :
  ∃t',vZ dst v t=some t'/\(∀l,same S t l->same S' t' l)/\(∀l,l∉kX dst v->same t t' l):=by
 cases dst with
 |none=>
  simp only[vZ,sJ] at h; subst h
  exact⟨t,rfl,λ_ h=>h,λl _=>same.refl t l⟩
 |some d=>
  simp only[vZ] at h
  split at h
  ·rename_i hf
   simp only[sJ] at h; subst h
   have hd:look d S.tmps=look d t.tmps:=hs (.tmp d) (by simp[kX])
   have hft:Aq5 d v t.tmps=true:=by
    unfold Aq5 at hf ⊢
    simp only[Bool.and_eq_true] at hf ⊢
    refine⟨by rw[←hd]; exact hf.1,?_⟩
    cases ho:v.isOwn with
    |false=>rfl
    |true=>
     have h2:=hf.2
     simp only[ho,Bool.not_true,Bool.false_or] at h2 ⊢
     have hvt:same S t (.vt d):=hs _ (by
      cases v with
      |c x=>cases x<;>simp[V.isOwn] at ho; simp[kX]
      |_=>simp[V.isOwn] at ho)
     simp only[List.all_eq_true] at h2 ⊢
     intro x hx
     cases hl:look x.1 t.tmps with
     |none=>rfl
     |some u=>
      cases u with
      |view l sz xs=>
       cases l with
       |cell b off=>rfl
       |tmp k=>
        by_cases hk:k=d
        ·subst hk
         have hS:=(hvt x.1 sz xs).2 hl
         have:=h2 _ (pK hS)
         simp only[hS,beq_self_eq_true,Bool.not_true] at this
         simp at this
        simp[hk]
      |_=>rfl
   refine⟨{ t with tmps:=(d,v)::t.tmps },by simp only[vZ,hft,if_true],?_,?_⟩
   ·intro l hl
    cases l with
    |tmp x=>
     simp only[same,look] at hl ⊢
     by_cases hx:d=x<;>simp[hx,hl]
    |vb b=>
     simp only[same,look] at hl ⊢
     intro x off sz xs
     by_cases hx:d=x<;>simp[hx,hl]
    |vt u=>
     simp only[same,look] at hl ⊢
     intro x sz xs
     by_cases hx:d=x<;>simp[hx,hl]
    |_=>exact hl
   have hnv:∀l sz xs,look d t.tmps≠some (.view l sz xs):=by
    intro l sz xs e
    simp[Aq5,e] at hft
   intro l hl
   cases l with
   |tmp x=>
    have hx:d≠x:=by rintro rfl; simp[kX] at hl
    simp[same,look,hx]
   |vb b=>
    simp only[same,look]
    intro x off sz xs
    by_cases hx:d=x
    ·subst hx
     simp only[if_true,sJ]
     constructor
     ·intro e; exact absurd e (hnv _ _ _)
     intro e; subst e; simp[kX] at hl
    simp[hx]
   |vt u=>
    simp only[same,look]
    intro x sz xs
    by_cases hx:d=x
    ·subst hx
     simp only[if_true,sJ]
     constructor
     ·intro e; exact absurd e (hnv _ _ _)
     intro e; subst e; simp[kX] at hl
    simp[hx]
   |_=>rfl
  simp at h
def sH (P:Program) (call:Call) (ops:Array Oper) (vs:List Nat) (id:Nat) (o:Oper) (S t:St) (v:V) (S1:St) (W:List Lc):Prop:=
 ∃t1 f',eP P call ops vs id o t=some (.val v t1,f')/\(∀l∈W,same S1 t1 l)/\(∀l,l∉W->same S S1 l/\same t t1 l)
theorem Bh0 {x:Operand} (h:∀u,x=.tmp u->same S t (.tmp u)):ev S.tmps x=ev t.tmps x:=by
 cases x with
 |tmp u=>exact h u rfl
 |const _=>rfl
 |global _=>rfl
 |func _=>rfl
theorem Bd9 {x:Operand} (hx:x∈o.op.operands.toList) {u:Nat} (e:x=.tmp u):u∈fA ops o:=by
 subst e
 unfold fA
 refine List.mem_append_left _ (List.mem_filterMap.2 ⟨_,hx,rfl⟩)
theorem lH (h:∀u∈fA ops o,same S t (.tmp u)) {x:Operand} (hx:x∈o.op.operands.toList):ev S.tmps x=ev t.tmps x:=
 Bh0 λ_ e=>h _ (Bd9 hx e)
theorem AgS {o:Oper} {tm:List (Nat×V)} {hp:List (Nat×List C)} {id:Nat} {v:V} {cs:List C} (hb:aR o=false):evR P id o tm hp≠some (v,some cs):=by
 intro h
 unfold evR at h
 cases ho:o.op with
 |alloc t=>simp[aR,ho] at hb
 |box t x=>simp[aR,ho] at hb
 |makeSlice t l c=>
  have hsame:rI l c=false:=by simpa[aR,ho] using hb
  simp only[ho,hsame,fJ,if_false] at h
  repeat' (first|(simp at h; done)|split at h)
 |buildSlice t n ps=>
  have hfn:AmD ps.toList=none:=by simpa[aR,ho] using hb
  simp only[ho,hfn] at h
  repeat' (first|(simp at h; done)|split at h)
 |slice t x lo hi mx=>
  simp only[ho] at h
  split at h<;>try (simp at h; done)
  split at h<;>try (simp at h; done)
  split at h<;>try (simp at h; done)
  split at h<;>try (simp at h; done)
 |_=>simp only[ho] at h<;>repeat' (first|(simp at h; done)|split at h)
theorem AxW {v:V} {S1:St} {f:Fp} (hm:aR o=true) (h:eP P call ops vs id o S=some (.val v S1,f)) (hr:∀u∈fA ops o,same S t (.tmp u)) (hid:look id t.heap=none) :
  sH P call ops vs id o S t v S1 [.blk id]/\f.reads=(fA ops o).map .tmp/\f.writes=kX o.dst v++[.blk id]/\f.all=false:=by
 have he:evR P id o S.tmps S.heap=evR P id o t.tmps t.heap:=by
  cases ho:o.op with
  |alloc e=>simp only[evR,ho]
  |box e x=>
   have:=fY (P:=P) (lH hr (x:=x) (by simp[ho,Op.operands])) e
   simp only[evR,ho,this]
  |makeSlice e l c=>
   simp only[evR,ho,lH hr (x:=l) (by simp[ho,Op.operands]),lH hr (x:=c) (by simp[ho,Op.operands])]
  |buildSlice e n ps=>
   cases hfn:AmD ps.toList with
   |none=>simp[aR,ho,hfn] at hm
   |some gs=>simp only[evR,ho,hfn]
  |_=>simp[aR,ho] at hm
 simp only[eP,hm,if_true,AaK] at h
 split at h
 ·rename_i v' cs h1
  split at h
  ·split at h
   ·simp at h
   rename_i hni
   simp only[sJ,pJ,gR.val.injEq] at h
   obtain⟨⟨rfl,rfl⟩,rfl⟩:=h
   refine⟨⟨{ t with heap:=(id,cs.map C.plain)::t.heap },⟨(fA ops o).map .tmp,kX o.dst v'++[.blk id],[],false⟩,?_,?_,?_⟩,rfl,rfl,rfl⟩
   ·simp only[eP,hm,if_true,AaK]
    rw[←he,h1]; simp only[hid]
    rw[if_neg hni]
   ·intro l hl
    simp only[List.mem_singleton] at hl; subst hl
    simp[same,look]
   intro l hl
   cases l with
   |blk b=>
    have hb:id≠b:=by rintro rfl; simp at hl
    simp[same,look,hb]
   |vb b=>exact⟨λ_ _ _ _=>Iff.rfl,λ_ _ _ _=>Iff.rfl⟩
   |vt b=>exact⟨λ_ _ _=>Iff.rfl,λ_ _ _=>Iff.rfl⟩
   |_=>exact⟨rfl,rfl⟩
  simp at h
 simp at h
theorem dH (hm:aR o=false) (s:St):eP P call ops vs id o s=eM P call ops vs o s:=by simp[eP,hm]
omit [cU] in
theorem AcA (h:uM o=[]) (s:St):afterApp o s=s:=by
 unfold afterApp; rw[h]; rfl
omit [cU] in
theorem Bc4 (hk:∀f,kindOf o f=.light):uM o=[]:=by
 unfold uM
 cases ho:o.op with
 |call c=>
  cases hc:c.callee with
  |builtin b=>
   cases b with
   |append=>
    have:=hk eX.none
    simp[kindOf,ho,hc,eX.none] at this
   |_=>simp[hc]
  |_=>simp[hc]
 |_=>rfl
def Ai3 (P:Program) (id:Nat) (o:Oper) (s:St):Option (gR×List Nat):=
 match evR P id o s.tmps s.heap with
 |some (v,none)=>some (.val v s,cQ o s.tmps)
 |_=>none
theorem AxV {v:V} {S1:St} {f:Fp} (hm:aR o=false) (hev:∀s,cV P call s.nid o s=match Ai3 P s.nid o s with
   |some (r,l)=>some (r,⟨l,[],[]⟩)
   |none=>none) (h:eP P call ops vs id o S=some (.val v S1,f)) (hk:∀f,kindOf o f=.light)
  (hr:∀l∈f.reads,same S t l) :
  sH P call ops vs id o S t v S1 []/\f.writes=kX o.dst v/\f.all=false:=by
 have haf:=AcA (Bc4 hk)
 rw[dH hm] at h
 simp only[eM,hev,Ai3] at h
 cases h1:evR P S.nid o S.tmps S.heap with
 |none=>simp[h1] at h
 |some r=>
  obtain⟨v1,nb⟩:=r
  cases nb with
  |some cs=>exact absurd h1 (AgS hm)
  |none=>
   simp only[h1,haf,sJ,pJ,gR.val.injEq] at h
   obtain⟨⟨rfl,rfl⟩,rfl⟩:=h
   simp only[rR,hk] at hr ⊢
   have hrt:∀u∈fA ops o,same S t (.tmp u):=λu hu=>hr _ (List.mem_append_left _ (List.mem_map.2 ⟨u,hu,rfl⟩))
   have hrb:∀b∈cQ o S.tmps,look b S.heap=look b t.heap:=λb hb=>hr (.blk b) (List.mem_append_right _ (List.mem_map.2 ⟨b,hb,rfl⟩))
   have he:=BcM (P:=P) (id:=S.nid) (id':=t.nid) hm (λx hx=>lH hrt hx) hrb
   refine⟨⟨t,rR ops o t (hZ vs o.dst v1) t ⟨cQ o t.tmps,[],[]⟩,?_,sM,λl _=>⟨same.refl _ _,same.refl _ _⟩⟩,by first|rfl|trivial,by first|rfl|trivial⟩
   rw[dH hm]
   simp only[eM,hev,Ai3,←he,h1,haf]
theorem Av2 {v:V} {S1:St} {f:Fp} {x:Operand} (ho:o.op=.assign x) (h:eP P call ops vs id o S=some (.val v S1,f)) (hall:f.all=false)
  (hr:∀l∈f.reads,same S t l) (hwt:∀l∈f.writes,same S t l) :
  ∃W,sH P call ops vs id o S t v S1 W/\f.writes=kX o.dst v++W:=by
 have hm:aR o=false:=by simp[aR,ho]
 have haf:∀s,afterApp o s=s:=AcA (by simp[uM,ho])
 rw[dH hm] at h
 simp only[eM,cV,ho,haf] at h
 have hxe:(∀u∈fA ops o,same S t (.tmp u))->evT P o.type S.tmps x=evT P o.type t.tmps x:=λh=>fY (lH (o:=o) (ops:=ops) h (by simp[ho,Op.operands])) _
 have key:∀{v0:V},(evT P o.type S.tmps x=some v0)->(∀sz xs,v0≠.c (.own sz xs))->(∀n,v0≠.c (.nilsl n))->(∀n xs,v0≠.c (.full n xs)) ->
   (hZ vs o.dst v0.calm=v/\S=S1/\rR ops o S (hZ vs o.dst v0.calm) S eX.none=f)->sH P call ops vs id o S t v S1 []/\f.writes=kX o.dst v:=by
  rintro v0 hx hno hnn hnf ⟨rfl,rfl,rfl⟩
  have hk:kindOf o eX.none=.still:=by simp[kindOf,ho,eX.none]
  simp only[rR,hk] at hr ⊢
  have hxt:=hxe (λu hu=>hr _ (List.mem_append_left _ (List.mem_map.2 ⟨u,hu,rfl⟩)))
  refine⟨⟨t,rR ops o t (hZ vs o.dst v0.calm) t eX.none,?_,sM,λl _=>⟨same.refl _ _,same.refl _ _⟩⟩,by simp[eX.none]⟩
  rw[dH hm]
  simp only[eM,cV,ho,haf,←hxt,hx]
  cases v0 with
  |view l sz xs=>rfl
  |c y=>cases y<;>first|rfl|exact absurd rfl (hno _ _)|exact absurd rfl (hnn _)|exact absurd rfl (hnf _ _)
  |_=>rfl
 have keyn:∀{n:Nat},(evT P o.type S.tmps x=some (.c (.nilsl n))) ->
   (hZ vs o.dst (.c (.own n []))=v/\S=S1/\rR ops o S (hZ vs o.dst (.c (.own n []))) S eX.none=f)->sH P call ops vs id o S t v S1 []/\f.writes=kX o.dst v:=by
  rintro n hx ⟨rfl,rfl,rfl⟩
  have hk:kindOf o eX.none=.still:=by simp[kindOf,ho,eX.none]
  simp only[rR,hk] at hr ⊢
  have hxt:=hxe (λu hu=>hr _ (List.mem_append_left _ (List.mem_map.2 ⟨u,hu,rfl⟩)))
  refine⟨⟨t,rR ops o t (hZ vs o.dst (.c (.own n []))) t eX.none,?_,sM,λl _=>⟨same.refl _ _,same.refl _ _⟩⟩,by simp[eX.none]⟩
  rw[dH hm]
  simp only[eM,cV,ho,haf,←hxt,hx]
 have keyf:∀{n:Nat} {ys:List D},(evT P o.type S.tmps x=some (.c (.full n ys))) ->
   (hZ vs o.dst (.c (.own n ys))=v/\S=S1/\rR ops o S (hZ vs o.dst (.c (.own n ys))) S eX.none=f)->sH P call ops vs id o S t v S1 []/\f.writes=kX o.dst v:=by
  rintro n ys hx ⟨rfl,rfl,rfl⟩
  have hk:kindOf o eX.none=.still:=by simp[kindOf,ho,eX.none]
  simp only[rR,hk] at hr ⊢
  have hxt:=hxe (λu hu=>hr _ (List.mem_append_left _ (List.mem_map.2 ⟨u,hu,rfl⟩)))
  refine⟨⟨t,rR ops o t (hZ vs o.dst (.c (.own n ys))) t eX.none,?_,sM,λl _=>⟨same.refl _ _,same.refl _ _⟩⟩,by simp[eX.none]⟩
  rw[dH hm]
  simp only[eM,cV,ho,haf,←hxt,hx]
 have wrap:(sH P call ops vs id o S t v S1 []/\f.writes=kX o.dst v)->∃W,sH P call ops vs id o S t v S1 W/\f.writes=kX o.dst v++W:=λ⟨h1,h2⟩=>⟨[],h1,by rw[h2]; simp⟩
 cases hx:evT P o.type S.tmps x with
 |none=>simp[hx] at h
 |some v0=>
  simp only[hx] at h
  cases v0 with
  |view l sz xs=>
   simp only[sJ,pJ,gR.val.injEq,and_assoc] at h
   exact wrap (key hx sM sM sM h)
  |c y=>
   cases y with
   |own sz xs=>
    cases x with
    |tmp u=>
     simp only[sJ,pJ,gR.val.injEq] at h
     obtain⟨⟨rfl,rfl⟩,rfl⟩:=h
     have hk:kindOf o ⟨[],[],[u]⟩=.app:=by simp[kindOf,ho]
     have hax:uM o=[]:=by simp[uM,ho]
     simp only[rR,hk,hax] at hr hwt ⊢
     have hxt:=hxe (λu hu=>hr _ (List.mem_append_left _ (List.mem_map.2 ⟨u,hu,rfl⟩)))
     have hu:look u S.tmps=look u t.tmps:=hr (.tmp u) sM
     have hvu:same S t (.vt u):=hwt (.vt u) sM
     have hview:∀(tm:List (Nat×V)) (k:Nat) (l:Loc) (z:Nat) (xs:List D),(look k (plainAt u tm)=some (.view l z xs)↔look k tm=some (.view l z xs)):=by
      intro tm k l z xs
      rw[gM]
      cases look k tm with
      |none=>simp
      |some q=>
       simp only[Option.map_some,sJ]
       split
       ·cases q with
        |c cq=>cases cq<;>simp
        |_=>simp
       simp
     refine⟨_,⟨{ t with tmps:=plainAt u t.tmps },rR ops o t (hZ vs o.dst (.c (.own sz xs))) { t with tmps:=plainAt u t.tmps } ⟨[],[],[u]⟩,?_,?_,?_⟩,rfl⟩
     ·rw[dH hm]
      simp only[eM,cV,ho,haf,←hxt,hx]
     ·intro l hl
      simp only[List.map_cons,List.map_nil,List.append_nil,List.mem_append,List.mem_singleton] at hl
      rcases hl with rfl|rfl
      ·show look u (plainAt u S.tmps)=look u (plainAt u t.tmps)
       rw[gM,gM,hu]
      intro k z ys
      exact (hview S.tmps k _ z ys).trans ((hvu k z ys).trans (hview t.tmps k _ z ys).symm)
     have hid:∀(s:St) (l:Lc),l≠.tmp u->same s { s with tmps:=plainAt u s.tmps } l:=by
      intro s l hl
      cases l with
      |tmp k=>
       have hku:k≠u:=by rintro rfl; exact hl rfl
       show look k s.tmps=look k (plainAt u s.tmps)
       rw[gM]
       cases look k s.tmps with
       |none=>rfl
       |some q=>simp[hku]
      |vb b=>intro k off z ys; exact (hview s.tmps k _ z ys).symm
      |vt b=>intro k z ys; exact (hview s.tmps k _ z ys).symm
      |_=>rfl
     intro l hl
     have:l≠.tmp u:=by rintro rfl; simp at hl
     exact⟨hid S l this,hid t l this⟩
    |_=>simp at h
   |nilsl n=>
    simp only[sJ,pJ,gR.val.injEq,and_assoc] at h
    exact wrap (keyn hx h)
   |full n ys=>
    simp only[sJ,pJ,gR.val.injEq,and_assoc] at h
    exact wrap (keyf hx h)
   |_=>
    simp only[sJ,pJ,gR.val.injEq,and_assoc] at h
    exact wrap (key hx sM sM sM h)
  |_=>
   simp only[sJ,pJ,gR.val.injEq,and_assoc] at h
   exact wrap (key hx sM sM sM h)
end
end Go.AM
namespace Go.AM
open Go
variable [cU]
section
variable {P:Program} {call:Call} {ops:Array Oper} {vs:List Nat} {S S' t:St} {o:Oper} {id:Nat}
theorem ArP {hp hp':List (Nat×List C)} {b off:Nat} {ncs:List C} (h:storeCells hp b off ncs=some hp') :
  ∃nc,hp'=upd b nc hp/\∀h2,look b hp=look b h2->storeCells h2 b off ncs=some (upd b nc h2):=by
 unfold storeCells at h
 split at h
 ·rename_i sz ds hb
  simp only[Option.map_eq_some_iff] at h
  obtain⟨ds',h1,rfl⟩:=h
  refine⟨_,rfl,λh2 e=>?_⟩
  rw[hb] at e
  simp only[storeCells,←e,h1,Option.map_some]
 rename_i hns
 split at h
 ·rename_i cells hc
  split at h
  ·rename_i hle
   split at h
   rotate_left
   ·simp at h
   rename_i hnh
   simp only[sJ] at h; subst h
   refine⟨_,rfl,λh2 e=>?_⟩
   have hc2:yG b h2=some cells:=by rw[←hc]; simp only[yG,e]
   unfold storeCells
   split
   ·rename_i sz ds hb; exact absurd (e.trans hb) (hns sz ds)
   simp only[hc2,hle,if_true,hnh]
  simp at h
 simp at h
theorem AxX {v:V} {S1:St} {f:Fp} {ty:TypeId} {p x:Operand} (ho:o.op=.store ty p x) (h:eP P call ops vs id o S=some (.val v S1,f)) (hall:f.all=false)
  (hr:∀l∈f.reads++f.writes,same S t l) :
  ∃b,sH P call ops vs id o S t v S1 [.blk b]/\f.writes=kX o.dst v++[.blk b]:=by
 have hm:aR o=false:=by simp[aR,ho]
 have haf:∀s,afterApp o s=s:=AcA (by simp[uM,ho])
 rw[dH hm] at h
 simp only[eM,cV,ho,haf] at h
 have plain:∀{b off:Nat} {u:V} {cs:List C} {hp:List (Nat×List C)},ev S.tmps p=some (.c (.ptr b off))->evT P ty S.tmps x=some u->(∀sz xs,u≠.c (.own sz xs))->u.cells=some cs->tsz P ty=some cs.length ->
   ∀ncs:List C,(cs.any C.isNilsl=false/\ncs=cs.map C.plain\/cs.any C.isNilsl=true/\ncs=cs.map C.placed/\noView b S.tmps=true)->storeCells S.heap b off ncs=some hp ->
   (hZ vs o.dst (.c .undef)=v/\{ S with heap:=hp }=S1/\rR ops o S (hZ vs o.dst (.c .undef)) { S with heap:=hp } ⟨[],[b],[]⟩=f) ->
   ∃b,sH P call ops vs id o S t v S1 [.blk b]/\f.writes=kX o.dst v++[.blk b]:=by
  rintro b off u cs hp hp1 hx hno hcs hsz ncs hnc hst ⟨rfl,rfl,rfl⟩
  have hk:kindOf o ⟨[],[b],[]⟩=.still:=by simp[kindOf,ho]
  simp only[rR,hk] at hr ⊢
  have hrt:∀u∈fA ops o,same S t (.tmp u):=λu hu=>hr _ (List.mem_append_left _ (List.mem_append_left _ (List.mem_map.2 ⟨u,hu,rfl⟩)))
  have hvb:same S t (.vb b):=hr (.vb b) sM
  have hpt:ev S.tmps p=ev t.tmps p:=lH (o:=o) (ops:=ops) hrt (by simp[ho,Op.operands])
  have hxt:evT P ty S.tmps x=evT P ty t.tmps x:=fY (lH (o:=o) (ops:=ops) hrt (by simp[ho,Op.operands])) _
  have hb0:look b S.heap=look b t.heap:=hr (.blk b) sM
  obtain⟨nc,rfl,hst2⟩:=ArP hst
  have hst':=hst2 t.heap hb0
  refine⟨b,⟨{ t with heap:=upd b nc t.heap },rR ops o t (hZ vs o.dst (.c .undef)) { t with heap:=upd b nc t.heap } ⟨[],[b],[]⟩,?_,?_,?_⟩,sM⟩
  ·rw[dH hm]
   simp only[eM,cV,ho,haf,←hpt,←hxt,hp1,hx]
   rcases hnc with ⟨hnn,rfl⟩|⟨hnn,rfl,hnv⟩
   ·cases u with
    |c y=>
     cases y<;>first
      |exact absurd rfl (hno _ _)
      |simp only[hcs,hsz,if_true,hst',hnn,fJ,if_false]
    |_=>simp only[hcs,hsz,if_true,hst',hnn,fJ,if_false]
   have hnt:noView b t.tmps=true:=Bd3 λx o z zs e=>qO hnv x o z zs ((hvb x o z zs).2 e)
   cases u with
   |c y=>
    cases y<;>first
     |exact absurd rfl (hno _ _)
     |simp only[hcs,hsz,if_true,hst',hnn,hnt]
   |_=>simp only[hcs,hsz,if_true,hst',hnn,hnt]
  ·intro l hl
   simp only[List.mem_singleton] at hl; subst hl
   simp[same,cM]
  intro l hl
  cases l with
  |blk b'=>
   have hbb:b≠b':=by rintro rfl; simp at hl
   simp[same,cW (Ne.symm hbb)]
  |vb b=>exact⟨λ_ _ _ _=>Iff.rfl,λ_ _ _ _=>Iff.rfl⟩
  |vt b=>exact⟨λ_ _ _=>Iff.rfl,λ_ _ _=>Iff.rfl⟩
  |_=>exact⟨rfl,rfl⟩
 cases hp1:ev S.tmps p with
 |none=>simp[hp1] at h
 |some q=>
  cases q with
  |c y=>
   cases y with
   |ptr b off=>
    cases hx:evT P ty S.tmps x with
    |none=>simp[hp1,hx] at h
    |some u=>
     simp only[hp1,hx] at h
     by_cases hu:∃sz xs,u=.c (.own sz xs)
     ·obtain⟨sz,xs,rfl⟩:=hu
      simp only at h
      split at h
      ·rename_i v0 s0 f0 h0
       split at h0
       ·split at h0
        ·simp only[sJ,pJ] at h0 h
         obtain⟨_,rfl⟩:=h0
         obtain⟨_,rfl⟩:=h
         simp[rR,kindOf,ho] at hall
        ·simp at h0
       simp at h0
      ·simp at h
      simp at h
     have hno:∀sz xs,u≠.c (.own sz xs):=λsz xs e=>hu ⟨sz,xs,e⟩
     have h':∃cs,u.cells=some cs/\tsz P ty=some cs.length/\∃ncs hp,(cs.any C.isNilsl=false/\ncs=cs.map C.plain\/cs.any C.isNilsl=true/\ncs=cs.map C.placed/\noView b S.tmps=true)/\storeCells S.heap b off ncs=some hp /\
       (hZ vs o.dst (.c .undef)=v/\{ S with heap:=hp }=S1/\rR ops o S (hZ vs o.dst (.c .undef)) { S with heap:=hp } ⟨[],[b],[]⟩=f):=by
      cases hcs:u.cells with
      |none=>
       exfalso
       cases u with
       |c y=>cases y<;>first|exact absurd rfl (hno _ _)|simp[hcs] at h
       |_=>simp[hcs] at h
      |some cs=>
       by_cases hsz:tsz P ty=some cs.length
       ·by_cases hnn:cs.any C.isNilsl=true
        ·cases hst:storeCells S.heap b off (cs.map C.placed) with
         |none=>
          exfalso
          cases u with
          |c y=>cases y<;>first|exact absurd rfl (hno _ _)|simp[hcs,hsz,hnn,hst] at h
          |_=>simp[hcs,hsz,hnn,hst] at h
         |some hp=>
          cases hnv:noView b S.tmps with
          |false=>
           exfalso
           cases u with
           |c y=>cases y<;>first|exact absurd rfl (hno _ _)|simp[hcs,hsz,hnn,hst,hnv] at h
           |_=>simp[hcs,hsz,hnn,hst,hnv] at h
          |true=>
           refine⟨cs,rfl,hsz,_,hp,.inr ⟨hnn,rfl,rfl⟩,hst,?_⟩
           cases u with
           |c y=>cases y<;>first|exact absurd rfl (hno _ _)|(simp only[hcs,hsz,hst,hnn,hnv,if_true,sJ,pJ,gR.val.injEq,and_assoc] at h; exact h)
           |_=>simp only[hcs,hsz,hst,hnn,hnv,if_true,sJ,pJ,gR.val.injEq,and_assoc] at h; exact h
        simp only[Bool.not_eq_true] at hnn
        cases hst:storeCells S.heap b off (cs.map C.plain) with
        |none=>
         exfalso
         cases u with
         |c y=>cases y<;>first|exact absurd rfl (hno _ _)|simp[hcs,hsz,hst,hnn] at h
         |_=>simp[hcs,hsz,hst,hnn] at h
        |some hp=>
         refine⟨cs,rfl,hsz,_,hp,.inl ⟨hnn,rfl⟩,hst,?_⟩
         cases u with
         |c y=>cases y<;>first|exact absurd rfl (hno _ _)|(simp only[hcs,hsz,hst,hnn,fJ,if_false,if_true,sJ,pJ,gR.val.injEq,and_assoc] at h; exact h)
         |_=>simp only[hcs,hsz,hst,hnn,fJ,if_false,if_true,sJ,pJ,gR.val.injEq,and_assoc] at h; exact h
       exfalso
       cases u with
       |c y=>cases y<;>first|exact absurd rfl (hno _ _)|simp[hcs,hsz] at h
       |_=>simp[hcs,hsz] at h
     obtain⟨cs,h1,h2,ncs,hp,h1',h3,h4⟩:=h'
     exact plain hp1 hx hno h1 h2 ncs h1' h3 h4
   |_=>simp[hp1] at h
  |_=>simp[hp1] at h
end
end Go.AM
namespace Go.AM
open Go
variable [cU]
theorem Ak5 {hp hp':List (Nat×List C)}:∀{n:Nat} {todo seen ids:List Nat},rW hp n todo seen=some ids->seen.Nodup->(∀b∈ids,look b hp=look b hp')->rW hp' n todo seen=some ids
 |0,_,_,_,h,_,_=>by simp[rW] at h
 |n+1,[],seen,ids,h,_,_=>by simpa[rW] using h
 |n+1,b::r,seen,ids,h,hn,hs=>by
  simp only[rW] at h ⊢
  split at h
  ·rename_i hb
   rw[if_pos hb]; exact Ak5 h hn hs
  rename_i hb
  rw[if_neg hb]
  split at h
  ·rename_i cells hc
   have hn':(seen++[b]).Nodup:=by
    rw[List.nodup_append]
    exact⟨hn,sM,by intro x hx y hy; simp at hy; subst hy; intro e; subst e; exact hb hx⟩
   obtain⟨_,⟨q,h2⟩,_⟩:=Ac6 h hn'
   rw[←hs b (by rw[h2]; simp),hc]
   exact Ak5 h hn' hs
  simp at h
theorem AcT {b:Nat}:∀{ids:List Nat} {cs:List (List C)} {h h':List (Nat×List C)},look b h=look b h'->look b (dT ids cs h)=look b (dT ids cs h')
 | [],_,_,_,e=>by simpa[dT] using e
 |_::_,[],_,_,e=>by simpa[dT] using e
 |x::ids,c::cs,h,h',e=>by
  simp only[dT]
  refine AcT ?_
  by_cases hx:b=x
  ·subst hx; rw[cM,cM]
  rw[cW hx,cW hx,e]
def Aa8 (ids':List Nat) (S S1:St):List Lc:=
 ids'.map .blk++ids'.map .vb++(AlW ids' S.tmps).map .tmp++(if S1.nid=S.nid then [] else [.nid])
theorem AnR {ids:List Nat} {tm:List (Nat×V)} {x b off sz:Nat} {xs:List D} (h:look x tm=some (.view (.cell b off) sz xs)) (hb:b∈ids):x∈AlW ids tm:=by
 unfold AlW
 refine List.mem_map.2 ⟨(x,.view (.cell b off) sz xs),List.mem_filter.2 ⟨pK h,?_⟩,rfl⟩
 simp only[h]
 simpa using hb
section
variable {P:Program} {call:Call} {ops:Array Oper} {vs:List Nat} {S t:St} {o:Oper} {id:Nat}
theorem Bd0 {ids':List Nat} {lh'':List (List C)} {k:Nat} {S1 t1:St} (hS:S1={ S with tmps:=unviewIn ids' S.tmps,heap:=dT ids' lh'' S.heap,nid:=S.nid+k })
  (ht:t1={ t with tmps:=unviewIn ids' t.tmps,heap:=dT ids' lh'' t.heap,nid:=t.nid+k }) (hs:∀l∈Aa8 ids' S S1,same S t l) :
  (∀l∈Aa8 ids' S S1,same S1 t1 l)/\(∀l,l∉Aa8 ids' S S1->same S S1 l/\same t t1 l):=by
 have vwS:∀(s:St) (x b off sz:Nat) (xs:List D),look x (unviewIn ids' s.tmps)=some (.view (.cell b off) sz xs)↔look x s.tmps=some (.view (.cell b off) sz xs)/\b∉ids':=by
  intro s x b off sz xs
  rw[sA]
  cases hl:look x s.tmps with
  |none=>simp
  |some v=>
   cases v with
   |view l z ys=>
    cases l with
    |tmp u=>simp
    |cell b' off'=>
     by_cases hb:b'∈ids'
     ·simp only[Option.map_some,hb,if_true,sJ]
      constructor
      ·intro e; simp at e
      rintro⟨e,hn⟩
      simp only[V.view.injEq,Loc.cell.injEq] at e
      rw[e.1.1] at hb
      exact absurd hb hn
     simp only[Option.map_some,hb,if_false,sJ]
     constructor
     ·intro e
      refine⟨e,?_⟩
      simp only[V.view.injEq,Loc.cell.injEq] at e
      rw[←e.1.1]; exact hb
     exact λh=>h.1
   |_=>simp
 have vtS:∀(s:St) (x u sz:Nat) (xs:List D),look x (unviewIn ids' s.tmps)=some (.view (.tmp u) sz xs)↔look x s.tmps=some (.view (.tmp u) sz xs):=by
  intro s x u sz xs
  rw[sA]
  cases hl:look x s.tmps with
  |none=>simp
  |some v=>
   cases v with
   |view l z ys=>
    cases l with
    |tmp u=>simp
    |cell b' off'=>by_cases hb:b'∈ids'<;>simp[hb]
   |_=>simp
 have stay:∀(s:St) (x:Nat),(∀b off sz xs,look x s.tmps=some (.view (.cell b off) sz xs)->b∉ids')->look x s.tmps=look x (unviewIn ids' s.tmps):=by
  intro s x hx
  rw[sA]
  cases hl:look x s.tmps with
  |none=>simp
  |some v=>
   cases v with
   |view l z ys=>
    cases l with
    |tmp u=>simp
    |cell b' off'=>simp[hx b' off' z ys hl]
   |_=>simp
 subst hS; subst ht
 constructor
 ·intro l hl
  have hst:=hs l hl
  cases l with
  |tmp x=>simp only[same,sA] at hst ⊢; rw[hst]
  |blk b=>exact AcT hst
  |nid=>simp only[same] at hst ⊢; omega
  |defs=>exact hst
  |vb b=>simp only[same,vwS] at hst ⊢; intro x off sz xs; rw[hst]
  |vt u=>simp only[same,vtS] at hst ⊢; exact hst
 intro l hl
 simp only[Aa8,List.mem_append,not_or] at hl
 obtain⟨⟨⟨h1,h2⟩,h3⟩,h4⟩:=hl
 cases l with
 |tmp x=>
  have hx:x∉AlW ids' S.tmps:=by simpa using h3
  refine⟨stay S x λb off sz xs e hb=>hx (AnR e hb),stay t x λb off sz xs e hb=>hx (AnR (((hs (.vb b) (by simp[Aa8,hb])) x off sz xs).2 e) hb)⟩
 |blk b=>
  have hb:b∉ids':=by simpa using h1
  exact⟨(nO hb).symm,(nO hb).symm⟩
 |nid=>
  split at h4
  ·rename_i e
   exact⟨by simp only[same]; omega,by simp only[same]; omega⟩
  simp at h4
 |defs=>exact⟨rfl,rfl⟩
 |vb b=>
  have hb:b∉ids':=by simpa using h2
  exact⟨λx off sz xs=>by simp only[vwS]; simp[hb],λx off sz xs=>by simp only[vwS]; simp[hb]⟩
 |vt u=>exact⟨λx sz xs=>by simp only[vtS],λx sz xs=>by simp only[vtS]⟩
theorem AkO {f:Nat} {args:List C} {v:V} {S1:St} {ids:List Nat} (h:mU call f args S=some (.val v S1,ids)) (hs:∀l∈Aa8 (ids++AdN S S1) S S1,same S t l) :
  ∃t1,mU call f args t=some (.val v t1,ids)/\(∀l∈Aa8 (ids++AdN S S1) S S1,same S1 t1 l)/\(∀l,l∉Aa8 (ids++AdN S S1) S S1->same S S1 l/\same t t1 l):=by
 unfold mU at h ⊢
 split at h
 ·simp at h
 rename_i ids' hr
 split at h
 ·rename_i args' lh ha hl
  split at h
  ·rename_i v0 lh' hc
   split at h
   ·rename_i lh'' v' hb hv
    simp only[sJ,pJ,gR.val.injEq] at h
    obtain⟨⟨rfl,hS⟩,rfl⟩:=h
    have hnew:AdN S S1=bD S.nid (lh'.length-ids'.length):=by
     unfold AdN; rw[←hS]; simp only; congr 1; omega
    have hbl:∀b∈ids',look b S.heap=look b t.heap:=λb hb=>hs (.blk b) (by simp[Aa8,hb])
    have hids:bD S.nid (lh'.length-ids'.length)=bD t.nid (lh'.length-ids'.length):=by
     by_cases hk:lh'.length-ids'.length=0
     ·rw[hk]; rfl
     have:S.nid=t.nid:=hs .nid (by
      have:S1.nid≠S.nid:=by rw[←hS]; simp only; omega
      simp[Aa8,this])
     rw[this]
    have hl':pG t.heap ids'=some lh:=by
     rw[←hl]; unfold pG
     exact (AhH λb hb=>by rw[hbl b hb]).symm
    rw[hnew] at hs ⊢
    obtain⟨q1,q2⟩:=Bd0 (t:=t) (k:=lh'.length-ids'.length) hS.symm rfl hs
    refine⟨_,?_,q1,q2⟩
    rw[Ak5 hr sM hbl]
    simp only[ha,hl',hc,←hids,hb,hv]
   simp at h
  ·split at h<;>simp at h
  simp at h
 simp at h
theorem Ag3 {P:Program} {tm tm':List (Nat×V)}:∀{l:List Operand} {ts:List TypeId},(∀x∈l,ev tm x=ev tm' x)->pF P tm l ts=pF P tm' l ts
 | [],_,_=>rfl
 |x::l,ts,h=>by
  have ih:pF P tm l ts.tail=pF P tm' l ts.tail:=Ag3 λy hy=>h y (by simp[hy])
  simp only[pF,fY (P:=P) (h x sM),ih]
theorem AzZ {v:V} {S1:St} {f:Fp} {c:Go.Call} {x:Operand} (ho:o.op=.call c) (hcv:c.callee=.value x) (h:eP P call ops vs id o S=some (.val v S1,f))
  (hr:∀l∈f.reads++f.writes,same S t l) :
  ∃W,sH P call ops vs id o S t v S1 W/\f.writes=kX o.dst v++W/\f.all=false:=by
 have hm:aR o=false:=by simp[aR,ho]
 rw[dH hm] at h
 have haf:∀s,afterApp o s=s:=AcA (by simp[uM,ho,hcv])
 simp only[eM,cV,ho,hcv,haf] at h
 cases hx:ev S.tmps x with
 |none=>simp[hx] at h
 |some q=>
  cases q with
  |c y=>
   cases y with
   |fn g caps=>
    cases ha:pF P S.tmps c.args.toList c.argTypes.toList with
    |none=>simp[hx,ha] at h
    |some args=>
     cases hd:mU call g (args++caps.map λb=>.ptr b 0) S with
     |none=>simp[hx,ha,hd] at h
     |some r=>
      obtain⟨r,ids⟩:=r
      cases r with
      |pan d s'=>simp[hx,ha,hd] at h
      |val v0 s0=>
       simp only[hx,ha,hd,sJ,pJ,gR.val.injEq] at h
       obtain⟨⟨rfl,rfl⟩,rfl⟩:=h
       have hk:kindOf o ⟨ids,ids,[]⟩=.call:=by simp[kindOf,ho,hcv]
       simp only[rR,hk] at hr ⊢
       have hrt:∀u∈fA ops o,same S t (.tmp u):=λu hu=>hr _ (List.mem_append_left _ (List.mem_map.2 ⟨u,hu,rfl⟩))
       have hxt:ev S.tmps x=ev t.tmps x:=lH (o:=o) (ops:=ops) hrt (by simp[ho,Op.operands,Call.operands,hcv])
       have hat:pF P S.tmps c.args.toList c.argTypes.toList=pF P t.tmps c.args.toList c.argTypes.toList:=by
        refine Ag3 λy hy=>?_
        rw[lH (o:=o) (ops:=ops) hrt (x:=y) (by simp[ho,Op.operands,Call.operands,hcv]; exact .inr (by simpa using hy))]
       obtain⟨t1,h1,h2,h3⟩:=AkO (t:=t) hd (λl hl=>hr l (by
        simp only[Aa8] at hl
        simp only[List.mem_append] at hl ⊢
        rcases hl with ((hl|hl)|hl)|hl
        ·exact .inr (.inl (.inl (.inl (.inr hl))))
        ·exact .inr (.inl (.inl (.inr hl)))
        ·exact .inr (.inl (.inr hl))
        exact .inr (.inr hl)))
       refine⟨Aa8 (ids++AdN S s0) S s0,⟨t1,rR ops o t (hZ vs o.dst v0) t1 ⟨ids,ids,[]⟩,?_,h2,h3⟩,by simp[Aa8],by first|rfl|trivial⟩
       rw[dH hm]
       simp only[eM,cV,ho,hcv,haf,←hxt,hx,←hat,ha,h1]
   |bfn g x0=>
    cases ha:pF P S.tmps c.args.toList c.argTypes.toList with
    |none=>simp[hx,ha] at h
    |some args=>
     cases hd:mU call g (.d x0::args) S with
     |none=>simp[hx,ha,hd] at h
     |some r=>
      obtain⟨r,ids⟩:=r
      cases r with
      |pan d s'=>simp[hx,ha,hd] at h
      |val v0 s0=>
       simp only[hx,ha,hd,sJ,pJ,gR.val.injEq] at h
       obtain⟨⟨rfl,rfl⟩,rfl⟩:=h
       have hk:kindOf o ⟨ids,ids,[]⟩=.call:=by simp[kindOf,ho,hcv]
       simp only[rR,hk] at hr ⊢
       have hrt:∀u∈fA ops o,same S t (.tmp u):=λu hu=>hr _ (List.mem_append_left _ (List.mem_map.2 ⟨u,hu,rfl⟩))
       have hxt:ev S.tmps x=ev t.tmps x:=lH (o:=o) (ops:=ops) hrt (by simp[ho,Op.operands,Call.operands,hcv])
       have hat:pF P S.tmps c.args.toList c.argTypes.toList=pF P t.tmps c.args.toList c.argTypes.toList:=by
        refine Ag3 λy hy=>?_
        rw[lH (o:=o) (ops:=ops) hrt (x:=y) (by simp[ho,Op.operands,Call.operands,hcv]; exact .inr (by simpa using hy))]
       obtain⟨t1,h1,h2,h3⟩:=AkO (t:=t) hd (λl hl=>hr l (by
        simp only[Aa8] at hl
        simp only[List.mem_append] at hl ⊢
        rcases hl with ((hl|hl)|hl)|hl
        ·exact .inr (.inl (.inl (.inl (.inr hl))))
        ·exact .inr (.inl (.inl (.inr hl)))
        ·exact .inr (.inl (.inr hl))
        exact .inr (.inr hl)))
       refine⟨Aa8 (ids++AdN S s0) S s0,⟨t1,rR ops o t (hZ vs o.dst v0) t1 ⟨ids,ids,[]⟩,?_,h2,h3⟩,by simp[Aa8],by first|rfl|trivial⟩
       rw[dH hm]
       simp only[eM,cV,ho,hcv,haf,←hxt,hx,←hat,ha,h1]
   |_=>simp[hx] at h
  |_=>simp[hx] at h
theorem AjW (x k:Nat) (tm:List (Nat×V)):look k (BeB x tm)=if k=x then (look k tm).map V.calm else look k tm:=by
 unfold BeB
 split
 ·rename_i l sz xs hx
  simp only[look]
  by_cases hk:k=x
  ·subst hk; simp[hx,V.calm]
  rw[if_neg (Ne.symm hk),if_neg hk]
 rename_i hno
 by_cases hk:k=x
 ·subst hk
  rw[if_pos rfl]
  cases hl:look k tm with
  |none=>rfl
  |some v=>
   cases v with
   |view l sz xs=>exact absurd hl (hno _ _ _)
   |_=>rfl
 rw[if_neg hk]
theorem AmA {t:TypeId} {tm:List (Nat×V)} {x:Operand} {v:V} (h:evT P t tm x=some v) (hn:∀n,v≠.c (.nilsl n)):ev tm x=some v:=by
 unfold evT at h
 split at h
 ·rename_i n hx
  split at h
  ·split at h
   ·simp only[sJ] at h; exact absurd h.symm (hn _)
   ·simp at h
  simp only[sJ] at h; exact absurd h.symm (hn _)
 exact h
theorem AsQ {t:TypeId} {tm:List (Nat×V)} {x:Operand} {m:Nat} (h:evT P t tm x=some (.c (.nilsl m))):∃k,ev tm x=some (.c (.nilsl k)):=by
 unfold evT at h
 split at h
 ·rename_i n hx; exact⟨n,hx⟩
 exact⟨m,h⟩
theorem Ap8 {t1 u1:TypeId} {x y:Operand} {v:V} {S0:St} (hx:ev S.tmps x=ev t.tmps x) (hy:ev S.tmps y=ev t.tmps y) (h:jP P t1 u1 x y S=some (v,S0)) (hw:(bS x S.tmps).writes=[])
  (hu:∀u∈(bS x S.tmps).tmps,look u S.tmps=look u t.tmps) :
  (S0=S/\(bS x S.tmps).tmps=[]/\(∀l sz xs,ev S.tmps x≠some (.view l sz xs))/\jP P t1 u1 x y t=some (v,t)) \/
  ∃u,(bS x S.tmps).tmps=[u]/\S0={ S with tmps:=plainAt u S.tmps }/\(∀l sz xs,ev S.tmps x=some (.view l sz xs)->l=.tmp u)/\jP P t1 u1 x y t=some (v,{ t with tmps:=plainAt u t.tmps }):=by
 have hxT:=fY (P:=P) hx t1
 have hyT:=fY (P:=P) hy u1
 unfold jP at h ⊢
 rw[←hxT,←hyT]
 cases hte:nK P t1 with
 |none=>simp[hte] at h
 |some e=>
  cases hev:evT P t1 S.tmps x with
  |none=>simp[hte,hev] at h
  |some vx=>
   cases hey:(evT P u1 S.tmps y).bind appended with
   |none=>simp[hte,hev,hey] at h
   |some p=>
    obtain⟨sz',ys⟩:=p
    cases hn:tsz P e with
    |none=>simp[hte,hev,hey,hn] at h
    |some n=>
     cases hs:iB P u1 with
     |false=>simp[hte,hev,hey,hn,hs] at h
     |true=>
      simp only[hte,hev,hey,hn,hs] at h ⊢
      split at h
      ·rename_i hc
       rw[if_pos hc]
       cases vx with
       |c cx=>
        cases cx with
        |nilsl m=>
         simp only at h ⊢
         split at h
         ·rename_i hl
          simp only[sJ,pJ] at h
          obtain⟨rfl,rfl⟩:=h
          obtain⟨k,hxx⟩:=AsQ hev
          refine .inl ⟨rfl,?_,?_,by rw[if_pos hl]⟩
          ·unfold bS; rw[hxx]; cases x<;>rfl
          intro l z xs e; rw[hxx] at e; simp at e
         simp at h
        |full z xs=>
         have hxx:=AmA hev sM
         simp only at h ⊢
         split at h
         ·rename_i hl
          simp only[sJ,pJ] at h
          obtain⟨rfl,rfl⟩:=h
          refine .inl ⟨rfl,?_,?_,by rw[if_pos hl]⟩
          ·unfold bS; rw[hxx]; cases x<;>rfl
          intro l z xs e; rw[hxx] at e; simp at e
         simp at h
        |own z xs=>
         have hxx:=AmA hev sM
         cases x with
         |tmp u=>
          simp only at h ⊢
          split at h
          ·rename_i hl
           simp only[sJ,pJ] at h
           obtain⟨rfl,rfl⟩:=h
           refine .inr ⟨u,by unfold bS; rw[hxx],rfl,?_,by rw[if_pos hl]⟩
           intro l z xs e; rw[hxx] at e; simp at e
          simp at h
         |_=>simp at h
        |_=>simp at h
       |view l z xs=>
        have hxx:=AmA hev sM
        cases l with
        |tmp u=>
         have hft:(bS x S.tmps).tmps=[u]:=by unfold bS; rw[hxx]; cases x<;>rfl
         have hlu:=hu u (by rw[hft]; simp)
         try simp only at h
         try simp only
         rw[←hlu]
         split at h
         ·rename_i z2 xs2 hlk
          split at h
          ·rename_i hl
           simp only[sJ,pJ] at h
           obtain⟨rfl,rfl⟩:=h
           refine .inr ⟨u,hft,rfl,?_,by first|(rw[if_pos hl])|(simp only[hlk]; rw[if_pos hl])⟩
           intro l z xs e
           rw[hxx] at e
           simp only[sJ,V.view.injEq] at e
           exact e.1.symm
          simp at h
         simp at h
        |cell b off=>
         exfalso
         have:(bS x S.tmps).writes=[b]:=by unfold bS; rw[hxx]; cases x<;>rfl
         rw[this] at hw; simp at hw
       |_=>simp at h
      simp at h
theorem ArC {t1 u1:TypeId} {x y:Operand} {v:V} {S0:St} {b:Nat} (hx:ev S.tmps x=ev t.tmps x) (hy:ev S.tmps y=ev t.tmps y) (h:jP P t1 u1 x y S=some (v,S0)) (hw:(bS x S.tmps).writes=[b])
  (hb:look b S.heap=look b t.heap) :
  ∃off sz xs cells,ev S.tmps x=some (.view (.cell b off) sz xs)/\S0={ S with heap:=upd b cells S.heap }/\jP P t1 u1 x y t=some (v,{ t with heap:=upd b cells t.heap }):=by
 have hxT:=fY (P:=P) hx t1
 have hyT:=fY (P:=P) hy u1
 have hlc:yG b S.heap=yG b t.heap:=by simp only[yG,hb]
 unfold jP at h ⊢
 rw[←hxT,←hyT]
 cases hte:nK P t1 with
 |none=>simp[hte] at h
 |some e=>
  cases hev:evT P t1 S.tmps x with
  |none=>simp[hte,hev] at h
  |some vx=>
   cases hey:(evT P u1 S.tmps y).bind appended with
   |none=>simp[hte,hev,hey] at h
   |some p=>
    obtain⟨sz',ys⟩:=p
    cases hn:tsz P e with
    |none=>simp[hte,hev,hey,hn] at h
    |some n=>
     cases hs:iB P u1 with
     |false=>simp[hte,hev,hey,hn,hs] at h
     |true=>
      simp only[hte,hev,hey,hn,hs] at h ⊢
      split at h
      ·rename_i hc
       rw[if_pos hc]
       cases vx with
       |c cx=>
        exfalso
        cases cx with
        |nilsl m=>
         obtain⟨k,hxx⟩:=AsQ hev
         unfold bS at hw; rw[hxx] at hw; cases x<;>simp[eX.none] at hw
        |full z xs=>
         have hxx:=AmA hev sM
         unfold bS at hw; rw[hxx] at hw; cases x<;>simp[eX.none] at hw
        |own z xs=>
         have hxx:=AmA hev sM
         unfold bS at hw; rw[hxx] at hw; cases x<;>simp[eX.none] at hw
        |_=>simp at h
       |view l z xs=>
        have hxx:=AmA hev sM
        cases l with
        |tmp u=>
         exfalso
         unfold bS at hw; rw[hxx] at hw; cases x<;>simp at hw
        |cell b' off=>
         have hbb:b'=b:=by
          unfold bS at hw; rw[hxx] at hw; cases x<;>simpa using hw
         subst hbb
         try simp only at h
         try simp only
         rw[←hlc]
         cases hlk:yG b' S.heap with
         |none=>simp[hlk] at h
         |some cells=>
          simp only[hlk] at h ⊢
          cases hco:cells[off]? with
          |none=>simp[hco] at h
          |some co=>
           cases co with
           |own z2 xs2=>
            simp only[hco] at h ⊢
            split at h
            ·rename_i hl
             rw[if_pos hl]
             simp only[sJ,pJ] at h
             obtain⟨rfl,rfl⟩:=h
             exact⟨off,_,_,_,hxx,rfl,rfl⟩
            simp at h
           |_=>simp[hco] at h
       |_=>simp at h
      simp at h
theorem AoZ (x:Operand) (tm:List (Nat×V)):(bS x tm).writes=[]\/∃b,(bS x tm).writes=[b]:=by
 unfold bS
 split
 ·exact .inl rfl
 ·exact .inl rfl
 ·exact .inr ⟨_,rfl⟩
 exact .inl rfl
theorem Av1 {v:V} {S1:St} {f:Fp} {c:Go.Call} (ho:o.op=.call c) (hcv:c.callee=.builtin .append) (h:eP P call ops vs id o S=some (.val v S1,f)) (hall:f.all=false)
  (hr:∀l∈f.reads++f.writes,same S t l) :
  ∃W,sH P call ops vs id o S t v S1 W/\f.writes=kX o.dst v++W:=by
 classical
 have hm:aR o=false:=by simp[aR,ho]
 rw[dH hm] at h
 simp only[eM,cV,ho,hcv] at h
 cases hca:c.args.toList with
 |nil=>simp[hca] at h
 |cons x l1=>
  cases l1 with
  |nil=>simp[hca] at h
  |cons y l2=>
   cases l2 with
   |cons _ _=>simp[hca] at h
   |nil=>
    cases hta:c.argTypes.toList with
    |nil=>simp[hca,hta] at h
    |cons t1 l3=>
     cases l3 with
     |nil=>simp[hca,hta] at h
     |cons u1 l4=>
      cases l4 with
      |cons _ _=>simp[hca,hta] at h
      |nil=>
       simp only[hca,hta] at h
       cases hd:jP P t1 u1 x y S with
       |none=>simp[hd] at h
       |some p=>
        obtain⟨v0,S0⟩:=p
        simp only[hd,sJ,pJ,gR.val.injEq] at h
        obtain⟨⟨rfl,rfl⟩,rfl⟩:=h
        rcases AoZ x S.tmps with hwr|⟨b,hwr⟩
        rotate_left
        ·have hk:kindOf o (bS x S.tmps)=.appc:=by simp[kindOf,ho,hcv,hwr]
         simp only[rR,hk,hwr] at hr ⊢
         have hrt:∀u∈fA ops o,same S t (.tmp u):=λu hu=>hr _ (List.mem_append_left _ (List.mem_append_left _ (List.mem_map.2 ⟨u,hu,rfl⟩)))
         have hax:x∈o.op.operands.toList:=by
          simp only[ho,Op.operands,Call.operands,hcv]
          have:x∈c.args.toList:=by rw[hca]; simp
          simpa using this
         have hay:y∈o.op.operands.toList:=by
          simp only[ho,Op.operands,Call.operands,hcv]
          have:y∈c.args.toList:=by rw[hca]; simp
          simpa using this
         have hxt:ev S.tmps x=ev t.tmps x:=lH (o:=o) (ops:=ops) hrt hax
         have hyt:ev S.tmps y=ev t.tmps y:=lH (o:=o) (ops:=ops) hrt hay
         have hbt:look b S.heap=look b t.heap:=hr (.blk b) sM
         have hvb:same S t (.vb b):=hr (.vb b) sM
         have hap:uM o=(match x with|.tmp k=>[k]|_=>[]):=by
          unfold uM; simp only[ho,hcv,hca]
          cases x<;>rfl
         have hevx:∀k,x=.tmp k->ev S.tmps x=look k S.tmps:=by rintro k rfl; rfl
         have after_look:∀(tm:List (Nat×V)) (k:Nat),look k (oX (uM o) tm)=if x=.tmp k then (look k tm).map V.calm else look k tm:=by
          intro tm k
          rw[hap]
          cases x with
          |tmp j=>
           simp only[oX,AjW,Operand.tmp.injEq]
           by_cases hjk:k=j
           ·subst hjk; simp
           rw[if_neg hjk,if_neg (Ne.symm hjk)]
          |_=>simp[oX]
         obtain⟨off,sz,xs,cells,hxx,rfl,hdt⟩:=ArC hxt hyt hd hwr hbt
         refine⟨_,⟨afterApp o { t with heap:=upd b cells t.heap },rR ops o t (hZ vs o.dst v0) { t with heap:=upd b cells t.heap } (bS x t.tmps),?_,?_,?_⟩,rfl⟩
         ·rw[dH hm]
          simp only[eM,cV,ho,hcv,hca,hta,hdt]
         ·intro l hl
          simp only[List.map_cons,List.map_nil,List.mem_append,List.mem_singleton,List.mem_map] at hl
          rcases hl with (rfl|rfl)|⟨k,hk2,rfl⟩
          ·show look b (upd b cells S.heap)=look b (upd b cells t.heap)
           rw[cM,cM]
          ·intro k off' z zs
           show look k (oX (uM o) S.tmps)=_↔look k (oX (uM o) t.tmps)=_
           rw[after_look,after_look]
           by_cases hxk:x=.tmp k
           ·rw[if_pos hxk,if_pos hxk,←hevx k hxk,hxt,hxk]; rfl
           rw[if_neg hxk,if_neg hxk]; exact hvb k off' z zs
          have hxk:x=.tmp k:=by
           rw[hap] at hk2
           cases x with
           |tmp j=>simp only[List.mem_singleton] at hk2; rw[hk2]
           |_=>simp at hk2
          show look k (oX (uM o) S.tmps)=look k (oX (uM o) t.tmps)
          rw[after_look,after_look,if_pos hxk,if_pos hxk,←hevx k hxk,hxt,hxk]; rfl
         have hid:∀(s:St),(∀k,x=.tmp k->look k s.tmps=some (.view (.cell b off) sz xs))->∀l,l∉(List.map Lc.blk [b]++List.map Lc.vb [b]++List.map Lc.tmp (uM o))->same s (afterApp o { s with heap:=upd b cells s.heap }) l:=by
          intro s hs l hl
          simp only[List.map_cons,List.map_nil,List.mem_append,List.mem_singleton,List.mem_map,not_or] at hl
          have hlook:∀k,look k (afterApp o { s with heap:=upd b cells s.heap }).tmps=if x=.tmp k then (look k s.tmps).map V.calm else look k s.tmps:=λk=>after_look _ k
          have view_iff:∀k (l0:Loc) z zs,(∀j,l0≠.cell b j)->(look k s.tmps=some (.view l0 z zs)↔look k (afterApp o { s with heap:=upd b cells s.heap }).tmps=some (.view l0 z zs)):=by
           intro k l0 z zs hne
           rw[hlook]
           by_cases hxk:x=.tmp k
           ·rw[if_pos hxk,hs k hxk]
            simp only[Option.map_some,V.calm,sJ,V.view.injEq,reduceCtorEq,iff_false,not_and]
            intro e
            exact absurd e.symm (hne off)
           rw[if_neg hxk]
          cases l with
          |tmp k=>
           have hkx:x≠.tmp k:=by
            rintro rfl
            exact hl.2 ⟨k,by rw[hap]; simp,rfl⟩
           show look k s.tmps=look k (afterApp o { s with heap:=upd b cells s.heap }).tmps
           rw[hlook,if_neg hkx]
          |blk b'=>
           have hbb:b'≠b:=by rintro rfl; exact hl.1.1 rfl
           show look b' s.heap=look b' (upd b cells s.heap)
           rw[cW hbb]
          |vb b'=>
           have hbb:b'≠b:=by rintro rfl; exact hl.1.2 rfl
           intro k off' z zs
           exact view_iff k _ z zs (by intro j e; simp only[Loc.cell.injEq] at e; exact hbb e.1)
          |vt u=>intro k z zs; exact view_iff k _ z zs sM
          |_=>rfl
         intro l hl
         refine⟨hid S (λk hk2=>by rw[←hevx k hk2]; exact hxx) l hl,hid t (λk hk2=>?_) l hl⟩
         rw[hk2] at hxt hxx; rw[hxx] at hxt; exact hxt.symm
        have hk:kindOf o (bS x S.tmps)=.app:=by simp[kindOf,ho,hcv,hwr]
        simp only[rR,hk] at hr ⊢
        have hrt:∀u∈fA ops o,same S t (.tmp u):=λu hu=>hr _ (List.mem_append_left _ (List.mem_append_left _ (List.mem_map.2 ⟨u,hu,rfl⟩)))
        have hax:x∈o.op.operands.toList:=by
         simp only[ho,Op.operands,Call.operands,hcv]
         have:x∈c.args.toList:=by rw[hca]; simp
         simpa using this
        have hay:y∈o.op.operands.toList:=by
         simp only[ho,Op.operands,Call.operands,hcv]
         have:y∈c.args.toList:=by rw[hca]; simp
         simpa using this
        have hxt:ev S.tmps x=ev t.tmps x:=lH (o:=o) (ops:=ops) hrt hax
        have hyt:ev S.tmps y=ev t.tmps y:=lH (o:=o) (ops:=ops) hrt hay
        have hut:∀u∈(bS x S.tmps).tmps,look u S.tmps=look u t.tmps:=λu hu=>hr (.tmp u) (List.mem_append_left _ (List.mem_append_right _ (List.mem_map.2 ⟨u,hu,rfl⟩)))
        have hap:uM o=(match x with|.tmp k=>[k]|_=>[]):=by
         unfold uM; simp only[ho,hcv,hca]
         cases x<;>rfl
        have hevx:∀k,x=.tmp k->ev S.tmps x=look k S.tmps:=by rintro k rfl; rfl
        refine⟨_,?_,rfl⟩
        have after_look:∀(tm:List (Nat×V)) (k:Nat),look k (oX (uM o) tm)=if x=.tmp k then (look k tm).map V.calm else look k tm:=by
         intro tm k
         rw[hap]
         cases x with
         |tmp j=>
          simp only[oX,AjW,Operand.tmp.injEq]
          by_cases hjk:k=j
          ·subst hjk; simp
          rw[if_neg hjk,if_neg (Ne.symm hjk)]
         |_=>simp[oX]
        rcases Ap8 hxt hyt hd hwr hut with ⟨rfl,hf0,hnv,hdt⟩|⟨u,hfu,rfl,hvu,hdt⟩
        ·refine⟨afterApp o t,rR ops o t (hZ vs o.dst v0) t (bS x t.tmps),?_,?_,?_⟩
         ·rw[dH hm]
          simp only[eM,cV,ho,hcv,hca,hta,hdt]
         ·intro l hl
          rw[hf0] at hl
          simp only[List.map_nil,List.nil_append,List.mem_map] at hl
          obtain⟨k,hk2,rfl⟩:=hl
          have hxk:x=.tmp k:=by
           rw[hap] at hk2
           cases x with
           |tmp j=>simp only[List.mem_singleton] at hk2; rw[hk2]
           |_=>simp at hk2
          show look k (oX (uM o) S0.tmps)=look k (oX (uM o) t.tmps)
          rw[after_look,after_look,if_pos hxk,if_pos hxk]
          rw[←hevx k hxk,hxt,hxk]; rfl
         ·have hid:∀(s:St),(∀k,x=.tmp k->∀l z xs,look k s.tmps≠some (.view l z xs))->∀l,same s (afterApp o s) l:=by
           intro s hs l
           have:∀k,look k s.tmps=look k (afterApp o s).tmps:=by
            intro k
            show look k s.tmps=look k (oX (uM o) s.tmps)
            rw[after_look]
            split
            ·rename_i hxk
             cases hl:look k s.tmps with
             |none=>rfl
             |some q=>
              cases q with
              |view l z xs=>exact absurd hl (hs k hxk l z xs)
              |_=>rfl
            rfl
           cases l with
           |tmp k=>exact this k
           |vb b=>intro k off z xs; rw[this k]
           |vt b=>intro k z xs; rw[this k]
           |_=>rfl
          intro l _
          refine⟨hid S0 (λk hk2 l z xs e=>hnv l z xs (by rw[hevx k hk2]; exact e)) l,hid t (λk hk2 l z xs e=>hnv l z xs ?_) l⟩
          rw[hxt,hk2]; exact e
        refine⟨afterApp o { t with tmps:=plainAt u t.tmps },rR ops o t (hZ vs o.dst v0) { t with tmps:=plainAt u t.tmps } (bS x t.tmps),?_,?_,?_⟩
        ·rw[dH hm]
         simp only[eM,cV,ho,hcv,hca,hta,hdt]
        ·have hlk:∀k,look k S.tmps=look k t.tmps->look k (oX (uM o) (plainAt u S.tmps))=look k (oX (uM o) (plainAt u t.tmps)):=by
          intro k e
          rw[after_look,after_look,gM,gM,e]
         intro l hl
         rw[hfu] at hl
         simp only[List.map_cons,List.map_nil,List.mem_append,List.mem_singleton,List.mem_map] at hl
         rcases hl with (rfl|rfl)|⟨k,hk2,rfl⟩
         ·exact hlk u (hut u (by rw[hfu]; simp))
         ·have hvt:same S t (.vt u):=hr (.vt u) (by rw[hfu]; simp)
          intro k z xs
          show look k (oX (uM o) (plainAt u S.tmps))=_↔look k (oX (uM o) (plainAt u t.tmps))=_
          by_cases hxk:x=.tmp k
          ·rw[hlk k (by rw[←hevx k hxk,hxt,hxk]; rfl)]
          rw[after_look,after_look,if_neg hxk,if_neg hxk,gM,gM]
          have hview:∀tm:List (Nat×V),((look k tm).map λv=>if k=u then (match v with|.c (.own sz xs)=>V.d (.list sz xs)|v=>v) else v)=some (.view (.tmp u) z xs)↔look k tm=some (.view (.tmp u) z xs):=by
           intro tm
           cases look k tm with
           |none=>simp
           |some q=>
            simp only[Option.map_some,sJ]
            split
            ·cases q with
             |c cq=>cases cq<;>simp
             |_=>simp
            simp
          exact (hview S.tmps).trans ((hvt k z xs).trans (hview t.tmps).symm)
         have hxk:x=.tmp k:=by
          rw[hap] at hk2
          cases x with
          |tmp j=>simp only[List.mem_singleton] at hk2; rw[hk2]
          |_=>simp at hk2
         exact hlk k (by rw[←hevx k hxk,hxt,hxk]; rfl)
        have hid:∀(s:St),(∀k,x=.tmp k->∀l z xs,look k s.tmps=some (.view l z xs)->l=.tmp u)->∀l,l∉(List.map Lc.tmp (bS x S.tmps).tmps++List.map Lc.vt (bS x S.tmps).tmps++List.map Lc.tmp (uM o))->same s (afterApp o { s with tmps:=plainAt u s.tmps }) l:=by
         intro s hs l hl
         rw[hfu] at hl
         simp only[List.map_cons,List.map_nil,List.mem_append,List.mem_singleton,List.mem_map,not_or] at hl
         have hlook:∀k,look k (afterApp o { s with tmps:=plainAt u s.tmps }).tmps=if x=.tmp k then (look k (plainAt u s.tmps)).map V.calm else look k (plainAt u s.tmps):=λk=>after_look _ k
         have view_iff:∀k (l0:Loc) z xs,l0≠.tmp u->(look k s.tmps=some (.view l0 z xs)↔look k (afterApp o { s with tmps:=plainAt u s.tmps }).tmps=some (.view l0 z xs)):=by
          intro k l0 z xs hne
          rw[hlook,gM]
          by_cases hxk:x=.tmp k
          ·rw[if_pos hxk]
           constructor
           ·intro e
            exact absurd (hs k hxk _ _ _ e) hne
           intro e
           exfalso
           cases hq:look k s.tmps with
           |none=>simp[hq] at e
           |some q=>
            simp only[hq,Option.map_some,sJ] at e
            split at e
            ·cases q with
             |c cq=>cases cq<;>simp[V.calm] at e
             |_=>simp[V.calm] at e
            cases q<;>simp[V.calm] at e
          rw[if_neg hxk]
          cases hq:look k s.tmps with
          |none=>simp
          |some q=>
           simp only[Option.map_some,sJ]
           split
           ·cases q with
            |c cq=>cases cq<;>simp
            |_=>simp
           simp
         cases l with
         |tmp k=>
          have hku:k≠u:=by rintro rfl; exact hl.1.1 rfl
          have hkx:x≠.tmp k:=by
           rintro rfl
           exact hl.2 ⟨k,by rw[hap]; simp,rfl⟩
          show look k s.tmps=look k (afterApp o { s with tmps:=plainAt u s.tmps }).tmps
          rw[hlook,if_neg hkx,gM]
          cases look k s.tmps with
          |none=>rfl
          |some q=>simp[hku]
         |vb b=>intro k off z xs; exact view_iff k _ z xs sM
         |vt b=>
          have hbu:b≠u:=by rintro rfl; exact hl.1.2 rfl
          intro k z xs
          exact view_iff k _ z xs (by simpa using hbu)
         |_=>rfl
        intro l hl
        refine⟨hid S (λk hk2 l z xs e=>hvu l z xs (by rw[hevx k hk2]; exact e)) l hl,hid t (λk hk2 l z xs e=>hvu l z xs ?_) l hl⟩
        rw[hxt,hk2]; exact e
end
end Go.AM
namespace Go.AM
open Go
variable [cU]
section
variable {P:Program} {call:Call} {ops:Array Oper} {vs:List Nat} {S S' t:St} {o:Oper} {id:Nat}
def zG (P:Program) (call:Call) (ops:Array Oper) (vs:List Nat) (id:Nat) (o:Oper) (s s':St) (f:Fp):Prop:=
 (wantedAt ops s.tmps o=some false/\vZ o.dst (.c .undef) s=some s'/\f=⟨(fA ops o).map .tmp,kX o.dst (.c .undef),[],false⟩) \/
 (wantedAt ops s.tmps o=some true/\∃v s1,eP P call ops vs id o s=some (.val v s1,f)/\vZ o.dst v s1=some s') \/
 (wantedAt ops s.tmps o=some true/\∃v s1,AaI P o s=some (v,s1)/\vZ o.dst v s1=some s'/\f=yZ P ops o s v)
theorem AdC (h:∀u∈fA ops o,same S t (.tmp u)):wantedAt ops S.tmps o=wantedAt ops t.tmps o:=by
 unfold wantedAt
 cases hg:o.guard with
 |none=>rfl
 |some g=>
  obtain⟨j,want⟩:=g
  simp only
  cases hq:ops[j]? with
  |none=>rfl
  |some q=>
   simp only
   cases hd:q.dst with
   |none=>rfl
   |some d=>
    have:look d S.tmps=look d t.tmps:=h d (by unfold fA; simp[hg,hq,hd])
    simp only[this]
theorem AkR {v:V} {S1:St} {f:Fp} (h:eP P call ops vs id o S=some (.val v S1,f)) (hall:f.all=false):∀u∈fA ops o,Lc.tmp u∈f.reads:=by
 intro u hu
 have hm:Lc.tmp u∈(fA ops o).map Lc.tmp:=List.mem_map.2 ⟨u,hu,rfl⟩
 simp only[eP] at h
 split at h
 ·simp only[AaK] at h
  split at h
  ·split at h
   ·split at h
    ·simp at h
    simp only[sJ,pJ] at h
    obtain⟨_,rfl⟩:=h
    exact hm
   ·simp at h
  simp at h
 simp only[eM] at h
 split at h
 ·simp only[sJ,pJ] at h
  obtain⟨_,rfl⟩:=h
  unfold rR at hall ⊢
  split
  ·exact List.mem_append_left _ hm
  ·exact List.mem_append_left _ hm
  ·exact hm
  ·exact List.mem_append_left _ hm
  ·exact List.mem_append_left _ hm
  rename_i hk; rw[hk] at hall; simp at hall
 ·simp at h
 simp at h
theorem AuC {v:V} {S1:St} {f:Fp} (h:eP P call ops vs id o S=some (.val v S1,f)) (hall:f.all=false) (hr:∀l∈f.reads++f.writes,same S t l)
  (hid:aR o=true->look id t.heap=none):∃W,sH P call ops vs id o S t v S1 W/\f.writes=kX o.dst v++W:=by
 have hrt:∀u∈fA ops o,same S t (.tmp u):=λu hu=>hr _ (List.mem_append_left _ (AkR h hall u hu))
 have hrr:∀l∈f.reads,same S t l:=λl hl=>hr l (List.mem_append_left _ hl)
 cases hm:aR o with
 |true=>
  obtain⟨h1,_,h2,_⟩:=AxW hm h hrt (hid hm)
  exact⟨_,h1,h2⟩
 |false=>
  have light:(∀s,cV P call s.nid o s=match Ai3 P s.nid o s with|some (r,l)=>some (r,⟨l,[],[]⟩)|none=>none)->(∀f,kindOf o f=.light) ->
    ∃W,sH P call ops vs id o S t v S1 W/\f.writes=kX o.dst v++W:=by
   intro hev hk
   obtain⟨h1,h2,_⟩:=AxV hm hev h hk hrr
   exact⟨[],h1,by rw[h2]; simp⟩
  cases ho:o.op with
  |assign x=>
   exact Av2 ho h hall hrr λl hl=>hr l (List.mem_append_right _ hl)
  |store ty p x=>
   obtain⟨b,h1,h2⟩:=AxX ho h hall hr
   exact⟨_,h1,h2⟩
  |defer c=>
   exfalso
   rw[dH hm] at h
   simp only[eM] at h
   split at h
   ·simp only[sJ,pJ] at h
    obtain⟨_,rfl⟩:=h
    simp[rR,kindOf,ho] at hall
   ·simp at h
   simp at h
  |panic x=>
   exfalso
   rw[dH hm] at h
   simp only[eM] at h
   split at h
   ·simp only[sJ,pJ] at h
    obtain⟨_,rfl⟩:=h
    simp[rR,kindOf,ho] at hall
   ·simp at h
   simp at h
  |makeMap t r=>
   exfalso
   rw[dH hm] at h
   simp only[eM] at h
   split at h
   ·simp only[sJ,pJ] at h
    obtain⟨_,rfl⟩:=h
    simp[rR,kindOf,ho] at hall
   ·simp at h
   simp at h
  |insert t m k v=>
   exfalso
   rw[dH hm] at h
   simp only[eM] at h
   split at h
   ·simp only[sJ,pJ] at h
    obtain⟨_,rfl⟩:=h
    simp[rR,kindOf,ho] at hall
   ·simp at h
   simp at h
  |mapUpdate t m k v=>
   exfalso
   rw[dH hm] at h
   simp only[eM] at h
   split at h
   ·simp only[sJ,pJ] at h
    obtain⟨_,rfl⟩:=h
    simp[rR,kindOf,ho] at hall
   ·simp at h
   simp at h
  |call c=>
   cases hc:c.callee with
   |value x=>
    obtain⟨W,h1,h2,_⟩:=AzZ ho hc h hr
    exact⟨W,h1,h2⟩
   |invoke r m=>
    exfalso
    rw[dH hm] at h
    simp[eM,cV,ho,hc] at h
   |builtin b=>
    cases b with
    |append=>exact Av1 ho hc h hall hr
    |copy=>
     exfalso
     rw[dH hm] at h
     simp only[eM] at h
     split at h
     ·simp only[sJ,pJ] at h
      obtain⟨_,rfl⟩:=h
      simp[rR,kindOf,ho,hc] at hall
     ·simp only[sJ,pJ,reduceCtorEq,false_and] at h
     simp at h
    |_=>
     refine light (λs=>?_) (λf=>by simp[kindOf,ho,hc])
     simp only[cV,ho,hc,Ai3,cQ]
     cases hR:evR P s.nid o s.tmps s.heap with
     |none=>rfl
     |some r=>
      obtain⟨v,nb⟩:=r
      cases nb<;>rfl
  |alloc _=>simp[aR,ho] at hm
  |box _ _=>simp[aR,ho] at hm
  |_=>
   refine light (λs=>?_) (λf=>by simp[kindOf,ho])
   simp only[cV,ho,Ai3]
   cases hR:evR P s.nid o s.tmps s.heap with
   |none=>rfl
   |some r=>
    obtain⟨v,nb⟩:=r
    cases nb with
    |none=>rfl
    |some cs=>exact absurd hR (AgS hm)
theorem BdF {v:V} {S1:St} (h:AdA P o S=some (v,S1)):AaI P o S=some (v,S1):=by
 unfold AdA at h
 split at h
 ·split at h
  ·split at h
   ·split at h
    ·exact h
    ·simp at h
   ·simp at h
  ·simp at h
 simp at h
omit [cU] in
theorem AlT {r:gR} {f:Fp} (h:eP P call ops vs id o S=some (r,f)):AdA P o S=none:=by
 unfold AdA
 split
 ·rename_i c ho
  split
  ·rename_i hc
   split
   ·rename_i x y tx ty ha hat
    split
    ·rename_i b n sz he
     exfalso
     have hm:aR o=false:=by simp[aR,ho]
     have hev:cV P call S.nid o S=none:=by
      have:jP P tx ty x y S=none:=by
       unfold jP
       simp only[he]
       split<;>try rfl
       rename_i e1 v1 sz1 ys1 _ hv1 _
       simp only[sJ] at hv1
       subst hv1
       split<;>try rfl
       split<;>rfl
      simp only[cV,ho,hc,ha,hat,this]
     simp[eP,hm,eM,hev] at h
    rfl
   rfl
  rfl
 rfl
theorem Ay3 {s t:St} {id:Nat} (h:same s t (.vb id)) (hn:noView id s.tmps=true):noView id t.tmps=true:=by
 unfold noView at hn ⊢
 rw[List.all_eq_true] at hn ⊢
 intro x hx
 split
 ·rename_i b off sz xs hl
  rw[Bool.not_eq_true',beq_eq_false_iff_ne]
  intro e
  subst e
  have h1:=(h x.1 off sz xs).2 hl
  have:=hn _ (pK h1)
  simp[h1] at this
 rfl
theorem Av3 {b:Nat} {bs:List Nat} {hp:List (Nat×List C)}:look b (without bs hp)=if b∈bs then none else look b hp:=by
 unfold without
 induction hp with
 |nil=>simp[look]
 |cons x r ih=>
  obtain⟨j,cs⟩:=x
  by_cases hj:j∈bs
  ·simp only[List.filter_cons,List.contains_iff_mem.2 hj,Bool.not_true,fJ,if_false,ih,look]
   by_cases e:j=b
   ·subst e; simp[hj]
   simp[e]
  have:bs.contains j=false:=by simpa using hj
  simp only[List.filter_cons,this,Bool.not_false,if_true,look,ih]
  by_cases e:j=b
  ·subst e; simp[hj]
  simp[e]
theorem BgP {hp:List (Nat×List C)} {v:V} {bs:List Nat} {sz:Nat} {ds:List D} (h:yC hp v=some (bs,sz,ds)):Bc5 v=some bs:=by
 unfold yC at h
 split at h
 ·split at h
  ·split at h
   ·simp only[sJ,pJ] at h
    rw[←h.1]; rfl
   ·simp at h
  ·simp at h
 ·simp only[sJ,pJ] at h
  rw[←h.1]; rfl
 ·simp only[sJ,pJ] at h
  rw[←h.1]; rfl
 simp at h
theorem Az9 {S t:St} {v:V} {bs:List Nat} (h:Bc5 v=some bs) (hb:∀b∈bs,same S t (.blk b)):yC S.heap v=yC t.heap v:=by
 unfold Bc5 at h
 split at h
 ·simp only[sJ] at h
  subst h
  have:=hb _ (List.mem_singleton.2 rfl)
  simp only[same] at this
  simp only[yC,this]
 ·rfl
 ·rename_i sz xs
  cases xs<;>rfl
 simp at h
theorem BaC {v:V} {S1:St} (h:AaI P o S=some (v,S1)) (hall:(yZ P ops o S v).all=false) (hr:∀l∈(yZ P ops o S v).reads++(yZ P ops o S v).writes,same S t l) :
  (∀u∈fA ops o,same S t (.tmp u))/\∃W t1,AaI P o t=some (v,t1)/\yZ P ops o t v=yZ P ops o S v/\(yZ P ops o S v).writes=kX o.dst v++W/\(∀l∈W,same S1 t1 l)/\(∀l,l∉W->same S S1 l/\same t t1 l):=by
 unfold yZ at hall hr ⊢
 split at hall
 rotate_left
 ·simp at hall
 rename_i c ho
 split at hall
 rotate_left
 ·simp at hall
 rename_i hc
 split at hall
 rotate_left
 ·simp at hall
 rename_i x y tx ty ha hat
 cases hx0:(evT P tx S.tmps x).bind Bc5 with
 |none=>rw[hx0] at hall; simp at hall
 |some bs=>
  simp only[ho,hc,ha,hat,hx0] at hr ⊢
  have hrt:∀u∈fA ops o,same S t (.tmp u):=λu hu=>hr _ (by simp[hu])
  have hnid:S.nid=t.nid:=hr .nid sM
  have hvb:same S t (.vb S.nid):=hr _ sM
  have hbs:∀b∈bs,same S t (.blk b):=λb hb=>hr _ (by simp[hb])
  have ex:ev S.tmps x=ev t.tmps x:=lH hrt (by simp[ho,Op.operands,Call.operands,hc,ha])
  have ey:ev S.tmps y=ev t.tmps y:=lH hrt (by simp[ho,Op.operands,Call.operands,hc,ha])
  have ex':=fY (P:=P) ex tx
  have ey':=fY (P:=P) ey ty
  obtain⟨vx,hvx,hax⟩:=Option.bind_eq_some_iff.1 hx0
  have hx1:(evT P tx t.tmps x).bind Bc5=some bs:=by rw[←ex',hx0]
  have hx':(evT P tx t.tmps x).bind (yC t.heap)=(evT P tx S.tmps x).bind (yC S.heap):=by
   rw[←ex',hvx]; exact (Az9 hax hbs).symm
  simp only[hx1]
  refine⟨hrt,bs.map .blk++[.blk S.nid,.vb S.nid,.nid],?_⟩
  unfold AaI at h ⊢
  simp only[ho,hc,ha,hat,hx',←ey'] at h ⊢
  split at h
  rotate_left
  ·simp at h
  rename_i e bs' sz ds szy ys he hq hyy
  obtain rfl:bs=bs':=by
   rw[hvx] at hq
   have:=BgP hq
   rw[hax,sJ] at this
   exact this
  try simp only[hq] at h ⊢
  try simp only[he,hyy] at h ⊢
  split at h
  rotate_left
  ·simp at h
  rename_i n hn hu
  try simp only[hn,hu] at h ⊢
  split at h
  rotate_left
  ·simp at h
  rename_i hcond
  simp only[sJ,pJ] at h
  obtain⟨rfl,rfl⟩:=h
  have hcond':sz=n/\szy=n/\0<n/\P.bytesOf e<=1024/\lV P e n=true/\ds.length+ys.length<=4294967296/\noView t.nid t.tmps=true:=by
   obtain⟨q1,q2,q3,q4,q5,q6,q7⟩:=hcond
   exact⟨q1,q2,q3,q4,q5,q6,by rw[←hnid]; exact Ay3 hvb q7⟩
  rw[if_pos hcond',←hnid]
  refine⟨_,rfl,rfl,trivial,?_,?_⟩
  ·intro l hl
   simp only[List.mem_append,List.mem_map,List.mem_cons,List.not_mem_nil,or_false] at hl
   rcases hl with ⟨b,hb,rfl⟩|rfl|rfl|rfl
   ·simp only[same,look,Av3,hb,if_true]
   ·simp only[same,look,if_true]
   ·exact hvb
   rfl
  intro l hl
  simp only[List.mem_append,List.mem_map,List.mem_cons,List.not_mem_nil,or_false,not_or,not_exists,not_and] at hl
  obtain⟨h1,h2,h3,h4⟩:=hl
  cases l with
  |blk b=>
   have hb:b∉bs:=λhb=>h1 b hb rfl
   have hb':¬S.nid=b:=λe=>h2 (by rw[e])
   exact⟨by simp only[same,look,hb',if_false,Av3,hb],by simp only[same,look,hb',if_false,Av3,hb]⟩
  |nid=>exact absurd rfl h4
  |tmp x=>exact⟨rfl,rfl⟩
  |defs=>exact⟨rfl,rfl⟩
  |vb b=>exact⟨λ_ _ _ _=>Iff.rfl,λ_ _ _ _=>Iff.rfl⟩
  |vt b=>exact⟨λ_ _ _=>Iff.rfl,λ_ _ _=>Iff.rfl⟩
theorem BaF {f:Fp} (h:zG P call ops vs id o S S' f) (hall:f.all=false) (hr:∀l∈f.reads++f.writes,same S t l) (hid:aR o=true->look id t.heap=none) :
  ∃t' f',zG P call ops vs id o t t' f'/\(∀l∈f.writes,same S' t' l)/\(∀l,l∉f.writes->same S S' l/\same t t' l):=by
 rcases h with ⟨hw,hp,rfl⟩|⟨hw,v,S1,hop,hp⟩|⟨hw,v,S1,hop,hp,rfl⟩
 rotate_right
 ·obtain⟨hrt,W,t1,h1,hfp,h4,h2,h3⟩:=BaC hop hall hr
  have h5:∀l∈(yZ P ops o S v).writes,same S1 t1 l:=by
   intro l hl
   by_cases hW:l∈W
   ·exact h2 l hW
   exact ((h3 l hW).1.symm.trans (hr l (List.mem_append_right _ hl))).trans (h3 l hW).2
  obtain⟨t',h6,h7,h8⟩:=tO (t:=t1) hp λl hl=>h5 l (by rw[h4]; exact List.mem_append_left _ hl)
  obtain⟨S'',h9,_,h10⟩:=tO (t:=S1) hp λl _=>same.refl S1 l
  rw[hp,sJ] at h9; subst h9
  refine⟨t',_,.inr (.inr ⟨by rw[←AdC hrt]; exact hw,v,t1,h1,h6,rfl⟩),λl hl=>h7 l (h5 l hl),λl hl=>?_⟩
  rw[h4,List.mem_append,not_or] at hl
  exact⟨(h3 l hl.2).1.trans (h10 l hl.1),(h3 l hl.2).2.trans (h8 l hl.1)⟩
 ·have hrt:∀u∈fA ops o,same S t (.tmp u):=λu hu=>hr _ (by simp[hu])
  obtain⟨t',h1,h2,h3⟩:=tO (t:=t) hp λl hl=>hr l (List.mem_append_right _ hl)
  obtain⟨S'',h4,h5,h6⟩:=tO (t:=S) hp λl _=>same.refl S l
  rw[hp,sJ] at h4; subst h4
  exact⟨t',_,.inl ⟨by rw[←AdC hrt]; exact hw,h1,rfl⟩,λl hl=>h2 l (hr l (List.mem_append_right _ hl)),λl hl=>⟨h6 l hl,h3 l hl⟩⟩
 have hrt:∀u∈fA ops o,same S t (.tmp u):=λu hu=>hr _ (List.mem_append_left _ (AkR hop hall u hu))
 obtain⟨W,⟨t1,f',h1,h2,h3⟩,h4⟩:=AuC hop hall hr hid
 have h5:∀l∈f.writes,same S1 t1 l:=by
  intro l hl
  by_cases hW:l∈W
  ·exact h2 l hW
  exact ((h3 l hW).1.symm.trans (hr l (List.mem_append_right _ hl))).trans (h3 l hW).2
 obtain⟨t',h6,h7,h8⟩:=tO (t:=t1) hp λl hl=>h5 l (by rw[h4]; exact List.mem_append_left _ hl)
 obtain⟨S'',h9,_,h10⟩:=tO (t:=S1) hp λl _=>same.refl S1 l
 rw[hp,sJ] at h9; subst h9
 refine⟨t',f',.inr (.inl ⟨by rw[←AdC hrt]; exact hw,v,t1,h1,h6⟩),λl hl=>h7 l (h5 l hl),λl hl=>?_⟩
 rw[h4,List.mem_append,not_or] at hl
 exact⟨(h3 l hl.2).1.trans (h10 l hl.1),(h3 l hl.2).2.trans (h8 l hl.1)⟩
theorem AbB:∀(l:List Oper) (acc:List (List Nat)),∃r,jI l acc=acc++r/\r.length=l.length
 | [],acc=>⟨[],by simp[jI]⟩
 |o::l,acc=>by
  obtain⟨r,h1,h2⟩:=AbB l (acc++[o.after.toList.foldl (λl e=>if Region.binds .any e then e.on::(acc.getD e.on []++l) else l) []])
  exact⟨o.after.toList.foldl (λl e=>if Region.binds .any e then e.on::(acc.getD e.on []++l) else l) []::r,by simp only[jI]; rw[h1]; simp,by simp[h2]⟩
theorem AsO {acc:List (List Nat)} {i:Nat}:∀{es:List Edge} {l:List Nat},i∈es.foldl (λl e=>if Region.binds .any e then e.on::(acc.getD e.on []++l) else l) l ->
  i∈l\/∃e∈es,Region.binds .any e=true/\(i=e.on\/i∈acc.getD e.on [])
 | [],l,h=>.inl h
 |e::es,l,h=>by
  simp only[List.foldl_cons] at h
  rcases AsO h with h|⟨e',he,h1,h2⟩
  ·split at h
   ·rename_i hb
    simp only[List.mem_cons,List.mem_append] at h
    rcases h with h|h|h
    ·exact .inr ⟨e,sM,hb,.inl h⟩
    ·exact .inr ⟨e,sM,hb,.inr h⟩
    exact .inl h
   ·exact .inl h
  exact .inr ⟨e',List.mem_cons_of_mem _ he,h1,h2⟩
theorem An4:∀(l:List Oper) (acc:List (List Nat)) (j i:Nat),acc.length<=j->i∈(jI l acc).getD j [] ->
  ∃o,l[j-acc.length]?=some o/\∃e∈o.after.toList,Region.binds .any e=true/\(i=e.on\/(e.on<j/\i∈(jI l acc).getD e.on []))
 | [],acc,j,i,hj,h=>by simp only[jI] at h; simp[List.getD,List.getElem?_eq_none hj] at h
 |o::l,acc,j,i,hj,h=>by
  by_cases he:j=acc.length
  ·subst he
   refine⟨o,sM,?_⟩
   obtain⟨r,h1,h2⟩:=AbB (o::l) acc
   obtain⟨r',h3,h4⟩:=AbB l (acc++[o.after.toList.foldl (λl e=>if Region.binds .any e then e.on::(acc.getD e.on []++l) else l) []])
   simp only[jI] at h
   rw[h3] at h
   have h5:i∈o.after.toList.foldl (λl e=>if Region.binds .any e then e.on::(acc.getD e.on []++l) else l) []:=by
    simpa[List.getD] using h
   rcases AsO h5 with h6|⟨e,he,hb,h6⟩
   ·simp at h6
   refine⟨e,he,hb,h6.imp id λh7=>?_⟩
   have hlt:e.on<acc.length:=by
    rcases Nat.lt_or_ge e.on acc.length with h|h
    ·exact h
    simp[List.getD,List.getElem?_eq_none h] at h7
   refine⟨hlt,?_⟩
   rw[h1]
   simp only[List.getD,List.getElem?_append_left hlt] at h7 ⊢
   exact h7
  have hj':(acc++[o.after.toList.foldl (λl e=>if Region.binds .any e then e.on::(acc.getD e.on []++l) else l) []]).length<=j:=by simp; omega
  obtain⟨o',h1,h2⟩:=An4 l _ j i hj' (by simpa only [jI] using h)
  refine⟨o',?_,by simpa only [jI] using h2⟩
  rw[←h1,show j-acc.length=(j-(acc.length+1))+1 from by omega]
  simp
theorem AbC {D:Nat->Prop} (hD:∀j o,ops[j]?=some o->D j->∀e∈o.after,Region.binds .any e=true->D e.on) :
  ∀(j i:Nat),i∈(jI ops.toList []).getD j []->(∀o,ops[j]?=some o->∀e∈o.after,Region.binds .any e=true->D e.on)->D i:=by
 intro j
 induction j using Nat.strongRecOn with
 |ind j ih=>
  intro i hi hj
  obtain⟨o,h1,e,he,hb,h2⟩:=An4 ops.toList [] j i sM hi
  have ho:ops[j]?=some o:=by simpa using h1
  have hon:D e.on:=hj o ho e (by simpa using he) hb
  rcases h2 with rfl|⟨hlt,h3⟩
  ·exact hon
  exact ih e.on hlt i h3 λo' ho' e' he' hb'=>hD e.on o' ho' hon e' he' hb'
theorem AnA {m:Bool} {base:Nat}:∀(l:List Oper) (i:Nat) (s:St) {x:AX} {s':St} {fs:List Fp},tS P call ops m vs base l i s=some (x,s',fs) ->
  ∃Ss:Nat->St,Ss i=s /\
   ((x=.normal/\fs.length=l.length/\Ss (i+l.length)=s'/\∀j,j<l.length->∃o f,l[j]?=some o/\fs[j]?=some (f.fill (Ss (i+j+1)))/\zG P call ops vs (base+(i+j)) o (Ss (i+j)) (Ss (i+j+1)) f) \/
    (∃d k o f,x=.pan d/\fs.length=k+1/\l[k]?=some o/\fs[k]?=some f/\wantedAt ops (pW (jB ops (i+k)) (Ss (i+k))).tmps o=some true/\eP P call ops vs (base+(i+k)) o (pW (jB ops (i+k)) (Ss (i+k)))=some (.pan d s',f) /\
     ∀j,j<k->∃o f,l[j]?=some o/\fs[j]?=some (f.fill (Ss (i+j+1)))/\zG P call ops vs (base+(i+j)) o (Ss (i+j)) (Ss (i+j+1)) f))
 | [],i,s,x,s',fs,h=>by
  simp only[tS,sJ,pJ] at h
  obtain⟨rfl,rfl,rfl⟩:=h
  exact⟨λ_=>s,rfl,.inl ⟨rfl,rfl,rfl,sM⟩⟩
 |o::l,i,s,x,s',fs,h=>by
  have cont:∀{s1:St} {f:Fp} {fs':List Fp},zG P call ops vs (base+i) o s s1 f->tS P call ops m vs base l (i+1) s1=some (x,s',fs')->fs=f.fill s1::fs' ->
     ∃Ss:Nat->St,Ss i=s /\
   ((x=.normal/\fs.length=(o::l).length/\Ss (i+(o::l).length)=s'/\∀j,j<(o::l).length->∃o' f,(o::l)[j]?=some o'/\fs[j]?=some (f.fill (Ss (i+j+1)))/\zG P call ops vs (base+(i+j)) o' (Ss (i+j)) (Ss (i+j+1)) f) \/
    (∃d k o' f,x=.pan d/\fs.length=k+1/\(o::l)[k]?=some o'/\fs[k]?=some f/\wantedAt ops (pW (jB ops (i+k)) (Ss (i+k))).tmps o'=some true/\eP P call ops vs (base+(i+k)) o' (pW (jB ops (i+k)) (Ss (i+k)))=some (.pan d s',f) /\
     ∀j,j<k->∃o' f,(o::l)[j]?=some o'/\fs[j]?=some (f.fill (Ss (i+j+1)))/\zG P call ops vs (base+(i+j)) o' (Ss (i+j)) (Ss (i+j+1)) f)):=by
   intro s1 f fs' hst hrec e
   subst e
   obtain⟨Ss,h0,h1⟩:=AnA l (i+1) s1 hrec
   refine⟨λj=>if j=i then s else Ss j,sM,?_⟩
   have step:∀n,(∀j,j<n->∃o f,l[j]?=some o/\fs'[j]?=some (f.fill (Ss (i+1+j+1)))/\zG P call ops vs (base+(i+1+j)) o (Ss (i+1+j)) (Ss (i+1+j+1)) f) ->
      ∀j,j<n+1->∃o' f',(o::l)[j]?=some o'/\(f.fill s1::fs')[j]?=some (f'.fill (if i+j+1=i then s else Ss (i+j+1)))/\zG P call ops vs (base+(i+j)) o' (if i+j=i then s else Ss (i+j)) (if i+j+1=i then s else Ss (i+j+1)) f':=by
     intro n hn j hj
     cases j with
     |zero=>exact⟨o,f,rfl,by simp only[Nat.add_zero]; rw[if_neg oM,h0]; rfl,by simp only[Nat.add_zero,if_true]; rw[if_neg oM,h0]; exact hst⟩
     |succ j=>
      obtain⟨o',f',q1,q2,q3⟩:=hn j oM
      refine⟨o',f',by simpa using q1,by rw[if_neg oM,show i+(j+1)+1=i+1+j+1 from by omega]; simpa using q2,?_⟩
      rw[if_neg oM,if_neg oM,show i+(j+1)=i+1+j from by omega]
      exact q3
   rcases h1 with ⟨rfl,hl,hs',hall⟩|⟨d,k,o',f',rfl,hl,ho',hf',hw,hdr,hall⟩
   · refine .inl ⟨rfl,by simp[hl],?_,step l.length hall⟩
     show (if i+(o::l).length=i then s else Ss (i+(o::l).length))=s'
     rw[if_neg (by simp only[List.length_cons]; omega),←hs']
     congr 1; simp only[List.length_cons]; omega
   refine .inr ⟨d,k+1,o',f',rfl,by simp[hl],by simpa using ho',by simpa using hf',?_,?_,step k hall⟩
   ·show wantedAt ops (pW (jB ops (i+(k+1))) (if i+(k+1)=i then s else Ss (i+(k+1)))).tmps o'=some true
    rw[if_neg oM,show i+(k+1)=i+1+k from by omega]; exact hw
   show eP P call ops vs (base+(i+(k+1))) o' (pW (jB ops (i+(k+1))) (if i+(k+1)=i then s else Ss (i+(k+1))))=some (.pan d s',f')
   rw[if_neg oM,show i+(k+1)=i+1+k from by omega]; exact hdr
  simp only[tS] at h
  split at h
  ·simp at h
  ·rename_i hw
   split at h
   · simp at h
   rename_i s1 hp
   split at h
   ·simp at h
   rename_i x' s2 fs' hrec
   simp only[sJ,pJ] at h
   obtain⟨rfl,rfl,rfl⟩:=h
   exact cont (.inl ⟨hw,hp,rfl⟩) hrec rfl
  rename_i hw
  split at h
  · rename_i v s1 hsp
    split at h
    ·simp at h
    rename_i s2 hp
    split at h
    ·simp at h
    rename_i x' s3 fs' hrec
    simp only[sJ,pJ] at h
    obtain⟨rfl,rfl,rfl⟩:=h
    refine cont (.inr (.inr ⟨hw,v,s1,?_,hp,rfl⟩)) hrec rfl
    unfold AyT at hsp
    split at hsp
    ·exact hsp
    exact BdF hsp
  split at h
  · simp at h
  · split at h
    ·rename_i d s1 f hw' hop
     simp only[sJ,pJ] at h
     obtain⟨rfl,rfl,rfl⟩:=h
     exact⟨λ_=>s,rfl,.inr ⟨d,0,o,f,rfl,rfl,rfl,rfl,by simpa using hw',by simpa using hop,sM⟩⟩
    ·simp at h
  rename_i v s1 f hop
  split at h
  ·simp at h
  rename_i s2 hp
  split at h
  ·simp at h
  rename_i x' s3 fs' hrec
  simp only[sJ,pJ] at h
  obtain⟨rfl,rfl,rfl⟩:=h
  exact cont (.inr (.inl ⟨hw,v,s1,hop,hp⟩)) hrec rfl
end
end Go.AM
namespace Go.AM
open Go
variable [cU]
structure ArY (id:Nat) (s:St):Prop where
 tm:∀x V,look x s.tmps=some V->id∉V.ids
 heap:∀b cells,look b s.heap=some cells->∀c∈cells,id∉c.ids
 defs:∀x∈s.defers,id∉x.2
section
variable {P:Program} {K K':Col} {μ μ':Nat->Nat} {w w':World} {s t:St} {a:Act}
theorem Sim.addAt (h:Sim K μ s a w) {id g:Nat} (hid:id<s.nid) (hnone:look id s.heap=none) (hun:ArY id s) {cs:List C} {vs:List Value} (hg:g<w.heap.size) (hK:∀off,K g off=.blk id)
  (hc:∀i v,vs[i]?=some v->w.cell? (ad g i)=some v/\w.frozen? (ad g i)=false) (hl:AoP K μ w cs vs) (h1:∀x∈vs,eZ x=true)
  (hids:∀c∈cs,∀b∈c.ids,b<s.nid) (hni:∀c∈cs,id∉c.ids) (hno:∀c∈cs,∀sz xs,c≠.own sz xs) :
  Sim K (xQ μ id g) { s with heap:=(id,cs)::s.heap } a w:=by
 obtain⟨hr,hm0,hsq⟩:=hl
 have hm:∀b,b≠id->xQ μ id g b=μ b:=λb hb=>nF μ g hb
 have hmu:∀{c:C} {v:Value},id∉c.ids->RepC K μ w c v->RepC K (xQ μ id g) w c v:=
  fun hc h=>h.mu λb hb=>hm b λe=>hc (e▸hb)
 refine⟨?_,h.tids,h.own,?_,?_,h.bound,?_,h.dids,h.glob⟩
 ·intro t V ht
  exact⟨(h.tm t V ht).1,(h.tm t V ht).2.mu λb hb=>hm b λe=>hun.tm t V ht (e▸hb)⟩
 ·intro t l sz xs ht
  have hv:=h.view t l sz xs ht
  cases l with
  |tmp u=>exact hv
  |cell b off=>
   intro cells z ys h2 h3
   by_cases hb:id=b
   ·subst hb
    simp only[look,if_true,sJ] at h2; subst h2
    exact absurd rfl (hno _ (List.mem_of_getElem? h3) z ys)
   simp only[look,hb,if_false] at h2
   rw[nF μ g (Ne.symm hb)]
   exact hv cells z ys h2 h3
 ·intro b cells hb
  by_cases e:id=b
  ·subst e
   simp only[look,if_true,sJ] at hb; subst hb
   have hcr:fV K (xQ μ id g) w id (fK cs):=by
    intro i c hi _
    obtain⟨v,hv,hrv⟩:=hr.get hi
    refine⟨v,by rw[fR]; exact (hc i v hv).1,h1 v (List.mem_of_getElem? hv),by rw[fR]; exact (hc i v hv).2,?_,?_⟩
    ·refine hmu ?_ hrv
     rcases AaY (List.mem_of_getElem? hi) with h|⟨d,rfl⟩
     ·exact hni c h
     simp[C.ids]
    intro sz xs e
    rcases AaY (List.mem_of_getElem? hi) with h|⟨d,rfl⟩
    ·exact absurd e (hno c h sz xs)
    simp at e
   exact⟨hid,hids,.inr ⟨λoff _=>by rw[fR]; exact hK off,by rw[fR]; exact hg,.inl ⟨hm0,hcr,hsq⟩⟩⟩
  simp only[look,e,if_false] at hb
  obtain⟨k1,k2,k3⟩:=h.heap b cells hb
  exact⟨k1,k2,k3.mu (hm b (Ne.symm e)) λc hc j hj=>hm j λe'=>hun.heap b cells hb c hc (e'▸hj)⟩
 rw[h.defs]
 refine List.map_congr_left λx hx=>?_
 unfold AbE
 congr 3
 refine List.map_congr_left λb hb=>?_
 rw[hm b λe=>hun.defs x hx (e▸hb)]
theorem AeC {dst:Option Nat} {v:V} {s':St} (h:vZ dst v s=some s') (l:Lc):same (mR dst v s) s' l:=by
 cases dst with
 |none=>simp only[vZ,sJ] at h; subst h; exact same.refl _ _
 |some d=>
  simp only[vZ] at h
  split at h
  ·rename_i hf
   simp only[sJ] at h; subst h
   have hl:∀x,look x (pC d v s.tmps)=look x ((d,v)::s.tmps):=by
    intro x
    unfold pC
    split
    ·rename_i sz xs
     simp only[look]
     split
     ·rfl
     rw[wK]
     cases hx:look x s.tmps with
     |none=>rfl
     |some u=>
      cases u with
      |view l z ys=>
       simp only[Option.map_some]
       split
       ·rename_i e
        subst e
        exfalso
        simp only[Aq5,V.isOwn,Bool.not_true,Bool.false_or,Bool.and_eq_true,List.all_eq_true] at hf
        have:=hf.2 _ (pK hx)
        simp[hx] at this
       rfl
      |_=>rfl
    rfl
   cases l with
   |tmp x=>exact hl x
   |vb b=>intro x off sz xs; simp only[mR,hl]
   |vt b=>intro x sz xs; simp only[mR,hl]
   |_=>rfl
  simp at h
theorem Sim.calm {dst:Option Nat} {v:V} (h:Sim K μ (mR dst v s) a w) (vs:List Nat):Sim K μ (mR dst (hZ vs dst v) s) a w:=by
 cases dst with
 |none=>exact h
 |some d=>
  simp only[hZ]
  split
  ·exact h
  cases v with
  |view l sz xs=>
   refine h.weaken (tm:=(d,.d (.list sz xs))::s.tmps) λx u hx=>?_
   simp only[mR,pC]
   simp only[look] at hx ⊢
   by_cases hd:d=x
   ·subst hd
    simp only[if_true,sJ] at hx ⊢
    exact⟨_,rfl,.inr ⟨l,sz,xs,rfl,hx.symm⟩⟩
   simp only[hd,if_false] at hx ⊢
   exact⟨u,hx,.inl rfl⟩
  |_=>exact h
theorem fT.less {n m:Nat} (h:fT K μ w m K' μ' w') (hn:n<=m):fT K μ w n K' μ' w':=⟨h.step,λb hb=>h.mu b oM⟩
theorem An5 {l:List Nat} {tm:List (Nat×V)} {k:Nat} {v:V} (h:look k (oX l tm)=some v):∃v',look k tm=some v'/\(v=v'\/∃l sz xs,v'=.view l sz xs/\v=.d (.list sz xs)):=by
 cases l with
 |nil=>exact⟨v,h,.inl rfl⟩
 |cons x l=>
  simp only[oX,AjW] at h
  split at h
  ·simp only[Option.map_eq_some_iff] at h
   obtain⟨v',h1,rfl⟩:=h
   refine⟨v',h1,?_⟩
   cases v' with
   |view l sz xs=>exact .inr ⟨l,sz,xs,rfl,rfl⟩
   |_=>exact .inl rfl
  exact⟨v,h,.inl rfl⟩
theorem AyP {d:Nat} {u:V} {tm tm':List (Nat×V)} (hb:∀k v,look k tm'=some v->∃v',look k tm=some v'/\(v=v'\/∃l sz xs,v'=.view l sz xs/\v=.d (.list sz xs))) :
  ∀k v,look k (pC d u tm')=some v->∃v',look k (pC d u tm)=some v'/\(v=v'\/∃l sz xs,v'=.view l sz xs/\v=.d (.list sz xs)):=by
 intro k v h
 unfold pC at h ⊢
 split
 ·rename_i sz xs
  simp only[look] at h ⊢
  by_cases hd:d=k
  ·rw[if_pos hd] at h ⊢
   exact⟨v,h,.inl rfl⟩
  rw[if_neg hd] at h ⊢
  rw[wK] at h ⊢
  simp only[Option.map_eq_some_iff] at h
  obtain⟨q,h1,rfl⟩:=h
  obtain⟨q',h2,h3⟩:=hb k q h1
  rw[h2]
  refine⟨_,rfl,?_⟩
  rcases h3 with rfl|⟨l,z,ys,rfl,rfl⟩
  ·exact .inl rfl
  simp only
  split
  ·exact .inl rfl
  exact .inr ⟨l,z,ys,rfl,rfl⟩
 rename_i hno
 have h':look k ((d,u)::tm')=some v:=by
  cases u with
  |c x=>cases x<;>first|exact h|exact absurd rfl (hno _ _)
  |_=>exact h
 simp only[look] at h' ⊢
 by_cases hd:d=k
 ·rw[if_pos hd] at h' ⊢
  exact⟨v,h',.inl rfl⟩
 rw[if_neg hd] at h' ⊢
 exact hb k v h'
theorem Sim.afterApp {o:Oper} {dst:Option Nat} {v:V} (h:Sim K μ (mR dst v s) a w):Sim K μ (mR dst v (AM.afterApp o s)) a w:=by
 cases dst with
 |none=>exact h.weaken (tm:=oX (uM o) s.tmps) λk v hk=>An5 hk
 |some d=>exact h.weaken (tm:=pC d v (oX (uM o) s.tmps)) (AyP λk v hk=>An5 hk)
theorem Sim.notedA {o:Oper} {v:V} {s':St} {vs:List Nat} (h:Sim K μ (putDst o v s) a w) (hp:vZ o.dst (hZ vs o.dst v) (AM.afterApp o s)=some s'):Sim K μ s' a w:=
 ((Sim.calm (dst:=o.dst) h vs).afterApp).same (AeC hp)
theorem Ab6 {dst:Option Nat} {v:V}:(mR dst v s).nid=s.nid:=by cases dst<;>rfl
theorem AlN {dst:Option Nat} {v:V} {s':St} (h:vZ dst v s=some s'):s'.nid=s.nid:=by
 have:=AeC h .nid
 simp only[Go.AM.same,Ab6] at this
 exact this.symm
theorem AyV {call:Call} (hcall:pY P call) (hP:oW P) {ops:Array Oper} {vs:List Nat} {id base i:Nat} {o:Oper} (ho:ops[i]?=some o) {t':St} {f:Fp} (hs:Sim K μ t a w)
  (hd:∀d,o.dst=some d->d<a.tmps.size) (h:zG P call ops vs id o t t' f) (hbase:base<=t.nid) (hmk:aR o=true->id<t.nid/\base<=id/\ArY id t)
  {next:Act->World->Prop} {Q:Exit->Act->World->Prop}
  (hnext:∀K' μ' a' w',fT K μ w base K' μ' w'->t.nid<=t'.nid->Sim K' μ' t' a' w'->a'.tmps.size=a.tmps.size->next a' w'):wpOp P ops Q i next a w:=by
 unfold wpOp
 simp only[ho]
 rcases h with ⟨hw,hp,_⟩|⟨hw,v,t1,hop,hp⟩|⟨hw,v,t1,hop,hp,_⟩
 rotate_right
 ·rw[wT hs hw]
  simp only[if_true]
  refine .inl ?_
  refine AnV hs hop hd ⟨?_,sM⟩
  intro V s'' K' μ' a' w' e haf hn hs' hsz'
  simp only[gR.val.injEq] at e
  obtain⟨rfl,rfl⟩:=e
  exact hnext K' μ' a' w' (haf.less hbase) (by rw[AlN hp]; exact hn) (hs'.same (AeC hp)) hsz'
 ·rw[wT hs hw]
  simp only[fJ,if_false]
  refine hnext K μ _ w (fT.refl _ _ _ _) (by rw[AlN hp]; exact Nat.le_refl _) ?_ (mS _ _ _)
  exact (hs.put (dst:=o.dst) (V:=.c .undef) (v:=Go.undef) hd sW).same (AeC hp)
 rw[wT hs hw]
 simp only[if_true]
 refine .inl ?_
 cases hm:aR o with
 |false=>
  rw[dH hm] at hop
  simp only[eM] at hop
  split at hop
  ·rename_i v0 s0 f0 h0
   simp only[sJ,pJ,gR.val.injEq] at hop
   obtain⟨⟨rfl,rfl⟩,_⟩:=hop
   refine uV hcall hP hs h0 hd ⟨?_,sM⟩
   intro V s'' K' μ' a' w' e haf hn hs' hsz'
   simp only[gR.val.injEq] at e
   obtain⟨rfl,rfl⟩:=e
   exact hnext K' μ' a' w' (haf.less hbase) (by rw[AlN hp]; exact hn) (hs'.notedA hp) hsz'
  ·simp at hop
  simp at hop
 |true=>
  obtain⟨hlt,hge,hun⟩:=hmk hm
  simp only[eP,hm,if_true,AaK] at hop
  split at hop
  ·rename_i v0 cs h1
   split at hop
   ·rename_i hnone
    split at hop
    ·simp at hop
    rename_i hni
    simp only[sJ,pJ,gR.val.injEq] at hop
    obtain⟨⟨rfl,rfl⟩,_⟩:=hop
    have hblk:∃c,v0=.c c/\An0 id c/\AhV P K t a w o c cs:=by
     cases hop':o.op with
     |alloc e=>
      obtain⟨cs',e1,e2,e3⟩:=Ap9 (K:=K) (a:=a) (w:=w) hop' h1
      simp only[sJ] at e1; subst e1
      exact⟨_,e2,.inl rfl,e3⟩
     |box e x=>
      obtain⟨cs',e1,e2,e3⟩:=AwS (K:=K) (a:=a) (w:=w) hop' h1
      simp only[sJ] at e1; subst e1
      exact⟨_,e2,.inl rfl,e3⟩
     |makeSlice e l c=>
      have hsame:rI l c=true:=by simpa[aR,hop'] using hm
      obtain⟨cs',c',e1,e2,e3,e4⟩:=AkP (K:=K) (a:=a) (w:=w) hop' h1 hsame ⟨_,hs⟩
      simp only[sJ] at e1; subst e1
      exact⟨_,e2,e3,e4⟩
     |buildSlice e n ps=>
      cases hfn:AmD ps.toList with
      |none=>simp[aR,hop',hfn] at hm
      |some gs=>
       obtain⟨cs',c',e1,e2,e3,e4⟩:=AwT (K:=K) (a:=a) (w:=w) hop' hfn h1 ⟨_,hs⟩
       simp only[sJ] at e1; subst e1
       exact⟨_,e2,e3,e4⟩
     |_=>simp[aR,hop'] at hm
    obtain⟨c0,rfl,hmc,arr,e,hrun,hmsz,hcs⟩:=hblk
    simp only[Oper.wp,hrun,Oper.upon_value]
    have hom:=iF w (.cells arr e)
    have hs1:Sim (gS K w.heap.size λ_=>.blk id) μ t a (w.alloc (.cells arr e)):=
     hs.step (hom.step λ_=>.blk id) sM sM sM (hom.bound hs.bound _)
    obtain⟨g1,g2,g3,g4⟩:=hcs μ hs
    have hcell:∀i v,arr.toList[i]?=some v->(w.alloc (.cells arr e)).cell? (ad w.heap.size i)=some v/\(w.alloc (.cells arr e)).frozen? (ad w.heap.size i)=false:=by
     intro i v hv
     refine⟨?_,by rw[hom.frozen]; simp⟩
     rw[hom.cell]
     simpa using hv
    have g3':∀c∈cs.map C.plain,∀b∈c.ids,b<t.nid:=by
     intro c hc b hb
     simp only[List.mem_map] at hc
     obtain⟨c',hc',rfl⟩:=hc
     rw[C.plain_ids] at hb
     exact g3 c' hc' b hb
    have g4':∀c∈cs.map C.plain,∀sz xs,c≠.own sz xs:=by
     intro c hc sz xs
     simp only[List.mem_map] at hc
     obtain⟨c',_,rfl⟩:=hc
     cases c'<;>simp[C.plain]
    have hni':∀c∈cs.map C.plain,id∉c.ids:=by
     intro c hc hin
     exact hni (by simp only[List.contains_iff_mem,List.mem_flatMap]; exact⟨c,hc,hin⟩)
    have hs2:=hs1.addAt hlt hnone hun (g:=w.heap.size) (cs:=cs.map C.plain) (vs:=arr.toList) sM (λoff=>by simp[gS]) hcell (g1.plain.step (hom.step λ_=>.blk id) sM) g2 g3' hni' g4'
    have hgood:Good (gS K w.heap.size λ_=>.blk id) (xQ μ id w.heap.size) { t with heap:=(id,cs.map C.plain)::t.heap } a (w.alloc (.cells arr e)) o.dst (.c c0) (AjJ w.heap.size c0):=by
     refine⟨hmc.rep (fR _ _ _) hmsz (λi hi=>⟨by rw[hom.cell]; simp[hi],by rw[hom.frozen]; simp⟩),?_,by intro sz xs e; rcases hmc with rfl|⟨n,k,rfl⟩<;>simp at e,sM⟩
     intro b hb
     simp only[V.ids,hmc.ids,List.mem_singleton] at hb
     subst hb
     exact hlt
    refine hnext _ _ _ _ ⟨(hom.step λ_=>.blk id).none_mine,λb hb=>nF μ w.heap.size (id:=id) (b:=b) oM⟩ (by rw[AlN hp]; exact Nat.le_refl _) ?_ (mS _ _ _)
    exact (hs2.put hd hgood).same (AeC hp)
   simp at hop
  simp at hop
end
end Go.AM
namespace Go.AM
open Go
variable [cU]
theorem AyM {s t:St} {x:Nat} (h:same s t (.tmp x)):look x s.tmps=look x t.tmps:=h
theorem AyL {s t:St} {b:Nat} (h:same s t (.blk b)):look b s.heap=look b t.heap:=h
section
variable {P:Program} {call:Call} {ops:Array Oper} {vs:List Nat} {base kreg:Nat} {fs:List Fp} {Ss:Nat->St}
def Wr (fs:List Fp) (j:Nat) (l:Lc):Prop:=(fs.getD j default).all=true\/l∈(fs.getD j default).writes
def Us (fs:List Fp) (j:Nat) (l:Lc):Prop:=Wr fs j l\/l∈(fs.getD j default).reads
structure Checked (pn:Bool) (ops:Array Oper) (base:Nat) (fs:List Fp):Prop where
 down:∀j o,ops[j]?=some o->∀e∈o.after,Region.binds .any e=true->e.on<j
 clash:∀i j l,i<j->j<ops.size->j<fs.length->(pn=true->j+1<fs.length)->(Wr fs i l/\Us fs j l\/Us fs i l/\Wr fs j l)->i∈(jI ops.toList []).getD j []
 loose:∀i j,i<j->j<ops.size->j+1=fs.length->pn=true->(fs.getD j default).all=true->i∈(jI ops.toList []).getD j []\/AM.loose (ops.getD i default) (fs.getD i default)=true
 last:∀i j,i<j->j<ops.size->fs.length<=j->i+1=fs.length->i∈(jI ops.toList []).getD j []
 lead:∀i j o,i<fs.length->j<fs.length->ops[i]?=some o->aR o=true->base+i∈(fs.getD j default).refs->i=j\/i∈(jI ops.toList []).getD j []
theorem Bd4 {f g:Fp} {l:Lc} (h:f.apart g=true) :
  ¬(((f.all=true\/l∈f.writes)/\((g.all=true\/l∈g.writes)\/l∈g.reads))\/(((f.all=true\/l∈f.writes)\/l∈f.reads)/\(g.all=true\/l∈g.writes))):=by
 simp only[Fp.apart,Bool.and_eq_true,Bool.not_eq_true',AM.apart,List.all_eq_true,List.contains_eq_mem,List.mem_append,decide_eq_false_iff_not,not_or] at h
 obtain⟨⟨⟨h1,h2⟩,h3⟩,h4⟩:=h
 simp only[h1,h2,fJ,false_or]
 rintro (⟨a,b|b⟩|⟨a|a,b⟩)
 ·exact (h3 l a).2 b
 ·exact (h3 l a).1 b
 ·exact (h3 l a).2 b
 exact h4 l b a
theorem AzH {pn:Bool} (h:AgC pn ops base fs=true):Checked pn ops base fs:=by
 simp only[AgC,Bool.and_eq_true,List.all_eq_true,List.mem_range,Bool.or_eq_true,Bool.not_eq_true',decide_eq_true_eq,List.contains_iff_mem,beq_iff_eq] at h
 obtain⟨h1,h2⟩:=h
 refine⟨?_,?_,?_,?_,?_⟩
 ·intro j o ho e he hb
  have hj:=(Array.getElem?_eq_some_iff.1 ho).1
  have:=(h1 j hj).1 e (by simp[Array.getD,hj]; obtain⟨_,e'⟩:=Array.getElem?_eq_some_iff.1 ho; rw[e']; exact he)
  rcases this with h|h
  ·rw[hb] at h; simp at h
  exact h
 ·intro i j l hij hj hjk hpn hc
  rcases (h1 j hj).2 i hij with h|h
  ·exact h
  rw[if_pos hjk] at h
  rcases Bool.or_eq_true _ _ |>.mp h with h|h
  ·exact absurd hc (Bd4 h)
  simp only[Bool.and_eq_true,decide_eq_true_eq] at h
  have:=hpn h.1.1
  omega
 ·intro i j hij hj hjk hpn hall
  rcases (h1 j hj).2 i hij with h|h
  ·exact .inl h
  rw[if_pos oM] at h
  rcases Bool.or_eq_true _ _ |>.mp h with h|h
  ·exfalso; simp only[Fp.apart,hall,Bool.not_true,Bool.and_false,Bool.false_and,fJ] at h
  simp only[Bool.and_eq_true,decide_eq_true_eq] at h
  exact .inr h.2
 ·intro i j hij hj hk hi
  rcases (h1 j hj).2 i hij with h|h
  ·exact h
  rw[if_neg oM] at h
  simp at h; omega
 intro i j o hi hj ho hm hr
 have hio:=(Array.getElem?_eq_some_iff.1 ho)
 have hgd:ops.getD i default=o:=by simp[Array.getD,hio.1,hio.2]
 rcases h2 i hi with h|h
 ·rw[hgd,hm] at h; simp at h
 rcases h j hj with (h|h)|h
 ·exact .inl h
 ·exact .inr h
 rw[←Bool.not_eq_true,List.contains_iff_mem] at h
 exact absurd hr h
def Steps (P:Program) (call:Call) (ops:Array Oper) (vs:List Nat) (base:Nat) (fs:List Fp) (Ss:Nat->St) (kreg:Nat):Prop:=
 kreg<=fs.length/\∀j,j<kreg->∃o f,ops[j]?=some o/\fs[j]?=some (f.fill (Ss (j+1)))/\zG P call ops vs (base+j) o (Ss j) (Ss (j+1)) f
theorem AxY {o:Oper} {id:Nat} {S S':St} {f:Fp} (h:zG P call ops vs id o S S' f) (hm:aR o=true) (hw:wantedAt ops S.tmps o=some true):look id S.heap=none/\Lc.blk id∈f.writes:=by
 rcases h with ⟨hw',_,_⟩|⟨_,v,s1,hop,_⟩|⟨_,v,s1,hop,_,_⟩
 rotate_right
 ·unfold AaI at hop
  unfold aR at hm
  split at hop<;>rename_i ho<;>simp[ho] at hm hop
 ·rw[hw] at hw'; simp at hw'
 simp only[eP,hm,if_true,AaK] at hop
 split at hop
 ·split at hop
  ·rename_i hn
   split at hop
   ·simp at hop
   simp only[sJ,pJ] at hop
   obtain⟨_,rfl⟩:=hop
   exact⟨hn,sM⟩
  ·simp at hop
 simp at hop
theorem AnX {o:Oper} {id:Nat} {S S' t:St} {f:Fp} (h:zG P call ops vs id o S S' f) (hall:f.all=false) (hr:∀l∈f.reads++f.writes,same S t l) :
  ∃t' f',zG P call ops vs id o t t' f'/\(∀l∈f.writes,same S' t' l)/\(∀l,l∉f.writes->same S S' l/\same t t' l):=by
 rcases h with h|h
 ·-- not wanted
  obtain⟨hw,hp,rfl⟩:=h
  have hrt:∀u∈fA ops o,same S t (.tmp u):=λu hu=>hr _ (by simp[hu])
  obtain⟨t',h1,h2,h3⟩:=tO (t:=t) hp λl hl=>hr l (List.mem_append_right _ hl)
  obtain⟨S'',h4,h5,h6⟩:=tO (t:=S) hp λl _=>same.refl S l
  rw[hp,sJ] at h4; subst h4
  exact⟨t',_,.inl ⟨by rw[←AdC hrt]; exact hw,h1,rfl⟩,λl hl=>h2 l (hr l (List.mem_append_right _ hl)),λl hl=>⟨h6 l hl,h3 l hl⟩⟩
 refine BaF (.inr h) hall hr λhm=>?_
 obtain⟨hn,hb⟩:=AxY (.inr h) hm (by rcases h with h|h<;>exact h.1)
 have:look id S.heap=look id t.heap:=hr (.blk id) (List.mem_append_right _ hb)
 rw[←this]; exact hn
structure Inv (ops:Array Oper) (base:Nat) (fs:List Fp) (Ss:Nat->St) (kreg:Nat) (D:Nat->Prop) (t:St):Prop where
 dom:∀j,D j->j<kreg
 closed:∀j o,ops[j]?=some o->D j->∀e∈o.after,Region.binds .any e=true->D e.on
 loc:∀l m,m<=kreg->(∀j,j<m->Wr fs j l->D j)->(∀j,m<=j->j<kreg->Wr fs j l->¬D j)->same (Ss m) t l
 unref:∀i o,i<kreg->ops[i]?=some o->aR o=true->¬D i->ArY (base+i) t
theorem Steps.get (hst:Steps P call ops vs base fs Ss kreg) {j:Nat} (hj:j<kreg):∃o f,ops[j]?=some o/\fs.getD j default=f.fill (Ss (j+1))/\zG P call ops vs (base+j) o (Ss j) (Ss (j+1)) f:=by
 obtain⟨o,f,h1,h2,h3⟩:=hst.2 j hj
 exact⟨o,f,h1,by simp[List.getD,h2],h3⟩
theorem Steps.stay (hst:Steps P call ops vs base fs Ss kreg) {j:Nat} (hj:j<kreg) {l:Lc} (hw:¬Wr fs j l):same (Ss j) (Ss (j+1)) l:=by
 obtain⟨o,f,h1,h2,h3⟩:=hst.get hj
 unfold Wr at hw
 rw[h2] at hw
 simp only[Fp.fill,not_or,Bool.not_eq_true] at hw
 obtain⟨t',f',_,_,h6⟩:=AnX (t:=Ss j) h3 hw.1 λl _=>same.refl _ l
 exact (h6 l hw.2).1
theorem Steps.stays (hst:Steps P call ops vs base fs Ss kreg) {i:Nat} {l:Lc}:∀d,i+d<=kreg->(∀j,i<=j->j<i+d->¬Wr fs j l)->same (Ss i) (Ss (i+d)) l
 |0,_,_=>same.refl _ l
 |d+1,hk,hw=>(Steps.stays hst d oM λj h1 h2=>hw j h1 oM).trans (hst.stay (j:=i+d) oM (hw _ oM oM))
theorem Bg2 {id:Nat} {s:St} (h:id∉BaE s):ArY id s:=by
 simp only[BaE,List.mem_append,List.mem_flatMap,not_or,not_exists,not_and] at h
 obtain⟨⟨h1,h2⟩,h3⟩:=h
 exact⟨λx V hx=>h1 _ (pK hx),λb cells hb c hc=>h2 _ (pK hb) c hc,λx hx=>h3 x hx⟩
theorem Inv.next {pn:Bool} (hc:Checked pn ops base fs) (hpk:pn=true->kreg<fs.length) (hst:Steps P call ops vs base fs Ss kreg) (hk:kreg<=ops.size) {D:Nat->Prop} {t:St} (h:Inv ops base fs Ss kreg D t) {i:Nat} (hi:i<kreg) (hD:¬D i) {o:Oper} (ho:ops[i]?=some o)
  (he:∀e∈o.after,Region.binds .any e=true->D e.on) :
  ∃t₀ t' f,(t₀=t\/∀l,same t t₀ l)/\zG P call ops vs (base+i) o t₀ t' f/\(aR o=true->ArY (base+i) t₀)/\Inv ops base fs Ss kreg (λj=>j=i\/D j) t':=by
 have hfl:=hst.1
 have below:∀j,D j->∀i',i'∈(jI ops.toList []).getD j []->D i':=by
  intro j hj i' hi'
  refine AbC (ops:=ops) (D:=D) h.closed j i' hi' λo' ho' e he' hb=>h.closed j o' ho' hj e he' hb
 have before_i:∀i',i'∈(jI ops.toList []).getD i []->D i':=by
  intro i' hi'
  refine AbC (ops:=ops) (D:=D) h.closed i i' hi' λo' ho' e he' hb=>?_
  rw[ho,sJ] at ho'; subst ho'
  exact he e he' hb
 have uses:∀l,Us fs i l->same (Ss i) t l:=by
  intro l hl
  refine h.loc l i oM ?_ ?_
  ·intro j hj hw
   exact before_i j (hc.clash j i l hj oM oM (λh=>by have:=hpk h; omega) (.inl ⟨hw,hl⟩))
  intro j hj hjk hw hDj
  by_cases e:j=i
  ·exact hD (e▸hDj)
  exact hD (below j hDj i (hc.clash i j l oM oM oM (λh=>by have:=hpk h; omega) (.inr ⟨hl,hw⟩)))
 obtain⟨o',f,ho',hf,hstep⟩:=hst.get hi
 rw[ho,sJ] at ho'; subst ho'
 have hWr:∀l,Wr fs i l↔f.all=true\/l∈f.writes:=by intro l; unfold Wr; rw[hf]; exact Iff.rfl
 have key:∃t₀ t' f',(t₀=t\/∀l,same t t₀ l)/\zG P call ops vs (base+i) o t₀ t' f'/\(∀l,Wr fs i l->same (Ss (i+1)) t' l)/\(∀l,¬Wr fs i l->same t t' l):=by
  cases hall:f.all with
  |true=>
   refine⟨Ss i,Ss (i+1),f,.inr λl=>(uses l (.inl ((hWr l).2 (.inl hall)))).symm,hstep,λl _=>same.refl _ l,λl hl=>absurd ((hWr l).2 (.inl hall)) hl⟩
  |false=>
   obtain⟨t',f',h1,h2,h3⟩:=AnX (t:=t) hstep hall λl hl=>uses l (by
    rcases List.mem_append.1 hl with hl|hl
    ·exact .inr (by rw[hf]; exact hl)
    exact .inl ((hWr l).2 (.inr hl)))
   refine⟨t,t',f',.inl rfl,h1,λl hl=>?_,λl hl=>?_⟩
   ·rcases (hWr l).1 hl with h|h
    ·rw[hall] at h; simp at h
    ·exact h2 l h
   exact (h3 l λh=>hl ((hWr l).2 (.inr h))).2
 obtain⟨t₀,t',f',h1,h2,h3,h4⟩:=key
 refine⟨t₀,t',f',h1,h2,?_,?_⟩
 ·intro hm
  have:=h.unref i o hi ho hm hD
  rcases h1 with rfl|h1
  ·exact this
  refine⟨λx V hx=>this.tm x V (Eq.trans (AyM (h1 (.tmp x))) hx),λb cells hb=>this.heap b cells (Eq.trans (AyL (h1 (.blk b))) hb),λx hx=>this.defs x ?_⟩
  have:t.defers=t₀.defers:=h1 .defs
  rw[this]; exact hx
 refine⟨?_,?_,?_,?_⟩
 ·rintro j (rfl|hj)
  ·exact hi
  ·exact h.dom j hj
 ·rintro j o' ho' (rfl|hj) e he' hb
  ·rw[ho,sJ] at ho'; subst ho'
   exact .inr (he e he' hb)
  ·exact .inr (h.closed j o' ho' hj e he' hb)
 ·intro l m hm hb ha
  by_cases hw:Wr fs i l
  ·have him:i<m:=by
    rcases Nat.lt_or_ge i m with h|h
    ·exact h
    exact absurd (.inl rfl) (ha i h hi hw)
   have hst':same (Ss (i+1)) (Ss m) l:=by
    have:=Steps.stays hst (i:=i+1) (l:=l) (m-(i+1)) oM (by
     intro j hj1 hj2 hwj
     rcases hb j oM hwj with e|hDj
     ·omega
     exact hD (below j hDj i (hc.clash i j l oM oM oM (λh=>by have:=hpk h; omega) (.inl ⟨hw,.inl hwj⟩))))
    rwa [show i+1+(m-(i+1))=m from by omega] at this
   exact hst'.symm.trans (h3 l hw)
  refine (h.loc l m hm ?_ ?_).trans (h4 l hw)
  ·intro j hj hwj
   rcases hb j hj hwj with e|hDj
   ·subst e; exact absurd hwj hw
   exact hDj
  intro j hj hjk hwj hDj
  exact ha j hj hjk hwj (.inr hDj)
 intro i' o' hi' ho' hm hD'
 have hne:i'≠i:=λe=>hD' (.inl e)
 have hnD:¬D i':=λh=>hD' (.inr h)
 have hnr:base+i'∉(fs.getD i default).refs:=by
  intro hr
  rcases hc.lead i' i o' oM oM ho' hm hr with e|hb
  ·exact hne e
  exact hnD (before_i i' hb)
 rw[hf] at hnr
 have hun:=h.unref i' o' hi' ho' hm hnD
 cases hall:f.all with
 |true=>
  have hu:ArY (base+i') (Ss (i+1)):=by
   refine Bg2 ?_
   simpa[Fp.fill,hall] using hnr
  have hs:∀l,same (Ss (i+1)) t' l:=λl=>h3 l ((hWr l).2 (.inl hall))
  refine⟨λx V hx=>hu.tm x V (Eq.trans (AyM (hs (.tmp x))) hx),λb cells hb=>hu.heap b cells (Eq.trans (AyL (hs (.blk b))) hb),λx hx=>hu.defs x ?_⟩
  have:(Ss (i+1)).defers=t'.defers:=hs .defs
  rw[this]; exact hx
 |false=>
  have hnr':∀l∈f.writes,base+i'∉AqF (Ss (i+1)) l:=by
   intro l hl hin
   refine hnr ?_
   simp only[Fp.fill,hall,fJ,if_false,List.mem_flatMap]
   exact⟨l,hl,hin⟩
  have hW:∀l,Wr fs i l->l∈f.writes:=by
   intro l hl
   rcases (hWr l).1 hl with h|h
   ·rw[hall] at h; simp at h
   exact h
  refine⟨λx V hx=>?_,λb cells hb=>?_,λx hx=>?_⟩
  ·by_cases hw:Wr fs i (.tmp x)
   ·have e:look x (Ss (i+1)).tmps=look x t'.tmps:=h3 _ hw
    have:=hnr' _ (hW _ hw)
    simpa[AqF,e,hx] using this
   ·have e:look x t.tmps=look x t'.tmps:=h4 _ hw
    exact hun.tm x V (e.trans hx)
  ·by_cases hw:Wr fs i (.blk b)
   ·have e:look b (Ss (i+1)).heap=look b t'.heap:=h3 _ hw
    have:=hnr' _ (hW _ hw)
    simp only[AqF,e,hb,List.mem_flatMap,not_exists,not_and] at this
    exact this
   ·have e:look b t.heap=look b t'.heap:=h4 _ hw
    exact hun.heap b cells (e.trans hb)
  by_cases hw:Wr fs i .defs
  ·have e:(Ss (i+1)).defers=t'.defers:=h3 _ hw
   have:=hnr' _ (hW _ hw)
   simp only[AqF,e,List.mem_flatMap,not_exists,not_and] at this
   exact this x hx
  have e:t.defers=t'.defers:=h4 _ hw
  exact hun.defs x (by rw[e]; exact hx)
end
end Go.AM
namespace Go.AM
open Go
variable [cU]
theorem AsA:∀(l:List Bool) (i:Nat),l[i]?=some false->(l.set i true).count false+1=l.count false
 | [],i,h=>by simp at h
 |b::l,0,h=>by simp at h; subst h; simp
 |b::l,i+1,h=>by
  have:=AsA l i (by simpa using h)
  cases b<;>simp[List.count_cons]<;>omega
theorem Ap7:∀(l:List Bool),l.count false=0->∀i,i<l.length->l[i]?=some true
 | [],_,i,h=>by simp at h
 |b::l,h,i,hi=>by
  cases b with
  |false=>simp at h
  |true=>
   cases i with
   |zero=>rfl
   |succ i=>simpa using Ap7 l (by simpa using h) i (by simpa using hi)
section
variable {P:Program} {call:Call} {ops:Array Oper} {vs:List Nat} {base kreg:Nat} {fs:List Fp} {Ss:Nat->St}
theorem yP (xs:List Nat):∀(tm:List (Nat×V)) (x:Nat),look x (tm.filter λp=>!xs.contains p.1)=if x∈xs then none else look x tm
 | [],x=>by simp[look]
 |(y,v)::tm,x=>by
  have ih:=yP xs tm x
  by_cases hy:y∈xs
  ·rw[List.filter_cons_of_neg (by simpa using hy),ih]
   simp only[look]
   by_cases e:y=x
   ·subst e; simp[hy]
   rw[if_neg e]
  rw[List.filter_cons_of_pos (by simpa using hy)]
  simp only[look,ih]
  by_cases e:y=x
  ·subst e; simp[hy]
  rw[if_neg e,if_neg e]
theorem BdD {xs:List Nat} {s t:St} {l:Lc} (h:same s t l):same (pW xs s) (pW xs t) l:=by
 cases l<;>simp only[same,pW,yP] at h ⊢
 case tmp x=>rw[h]
 case blk=>exact h
 case nid=>exact h
 case defs=>exact h
 case vb b=>
  intro x off sz ys
  split
  ·simp
  exact h x off sz ys
 case vt b=>
  intro x sz ys
  split
  ·simp
  exact h x sz ys
theorem Sim.dropped {K:Col} {μ:Nat->Nat} {w:World} {s:St} {a:Act} (h:Sim K μ s a w) (xs:List Nat):Sim K μ (pW xs s) a w:=
 h.weaken λt v ht=>by
  rw[yP] at ht
  split at ht
  ·simp at ht
  exact⟨v,ht,.inl rfl⟩
def Bi1 (P:Program) (call:Call) (ops:Array Oper) (vs:List Nat) (base:Nat) (fs:List Fp) (Ss:Nat->St) (kreg:Nat) (x:AX) (s':St):Prop:=
 (x=.normal/\kreg=ops.size/\Ss ops.size=s') \/
 (∃d o f,x=.pan d/\fs.length=kreg+1/\ops[kreg]?=some o/\fs[kreg]?=some f/\wantedAt ops (pW (jB ops kreg) (Ss kreg)).tmps o=some true/\eP P call ops vs (base+kreg) o (pW (jB ops kreg) (Ss kreg))=some (.pan d s',f))
theorem BhL {o:Oper} {id:Nat} {S s':St} {d:D} {f:Fp} (h:eP P call ops vs id o S=some (.pan d s',f)):f.all=true/\∃f0,cV P call S.nid o S=some (.pan d s',f0):=by
 simp only[eP] at h
 split at h
 ·simp only[AaK] at h
  split at h
  ·split at h
   ·split at h<;>simp at h
   ·simp at h
  simp at h
 simp only[eM] at h
 split at h
 ·simp at h
 ·rename_i d' s0 f0 h0
  simp only[sJ,pJ,gR.pan.injEq] at h
  obtain⟨⟨rfl,rfl⟩,rfl⟩:=h
  exact⟨rfl,f0,h0⟩
 simp at h
def Dn (listed:Array Bool) (j:Nat):Prop:=listed.getD j false=true
theorem BiZ {listed:Array Bool} {i:Nat} (hi:i<listed.size):Dn (listed.setIfInBounds i true)=λj=>j=i\/Dn listed j:=by
 funext j
 unfold Dn
 by_cases hj:i=j
 ·subst hj; simp[hi]
 rw[getD_set_ne false hj]
 simp[Ne.symm hj]
theorem AqQ {listed:Array Bool} (hsz:listed.size=ops.size) {pn:Bool} (hc:Checked pn ops base fs) (hr:Region.ready .any ops listed=[]):∀j,j<ops.size->Dn listed j:=by
 intro j
 induction j using Nat.strongRecOn with
 |ind j ih=>
  intro hj
  rcases Bool.eq_false_or_eq_true (listed.getD j false) with h|h
  ·exact h
  exfalso
  have hm:j∈Region.ready .any ops listed:=by
   rw[mem_ready]
   refine⟨?_,ops[j],by simp[hj],λe he hb=>?_⟩
   ·have hlt:j<listed.size:=oM
    simp only[Array.getD,hlt,dif_pos] at h ⊢
    exact h
   have hlt:=hc.down j ops[j] (by simp[hj]) e he hb
   exact ih e.on hlt oM
  rw[hr] at hm
  simp at hm
theorem BeN (hcall:pY P call) (hP:oW P) {sz:Nat} (hd:∀o∈ops.toList,∀t,o.dst=some t->t<sz) {pn:Bool} (hc:Checked pn ops base fs) (hst:Steps P call ops vs base fs Ss kreg) (hk:kreg<=ops.size)
  (hpk:pn=true->kreg<fs.length) (hpn:kreg<fs.length->pn=true) {x:AX} {s':St} (hend:Bi1 P call ops vs base fs Ss kreg x s') {Q:Exit->Act->World->Prop} :
  ∀(fuel:Nat) (listed:Array Bool) (K:Col) (μ:Nat->Nat) (t:St) (a:Act) (w:World),listed.size=ops.size->listed.toList.count false=fuel->Inv ops base fs Ss kreg (Dn listed) t ->
   Sim K μ t a w->a.tmps.size=sz->base+ops.size<=t.nid->base<=s'.nid->AjG K μ w base sz x s' Q->wpAny P .any ops Q fuel listed a w:=by
 have fin:∀{listed:Array Bool} {K:Col} {μ:Nat->Nat} {t:St} {a:Act} {w:World},(∀j,j<ops.size->Dn listed j)->Inv ops base fs Ss kreg (Dn listed) t ->
   Sim K μ t a w->a.tmps.size=sz->base<=s'.nid->AjG K μ w base sz x s' Q->Q .normal a w:=by
  intro listed K μ t a w hall hinv hs hsz hn hg
  rcases hend with ⟨rfl,hke,hss⟩|⟨d,o,f,_,hl,ho,_,_,_⟩
  ·have hsame:∀l,same t s' l:=λl=>by
    rw[←hss,←hke]
    exact (hinv.loc l kreg (Nat.le_refl _) (λj hj _=>hall j oM) (λj h1 h2=>oM)).symm
   exact hg .normal K μ a w rfl (fT.refl _ _ _ _) hn (hs.same hsame) hsz
  exact absurd (hinv.dom kreg (hall kreg (Array.getElem?_eq_some_iff.1 ho).1)) oM
 intro fuel
 induction fuel with
 |zero=>
  intro listed K μ t a w hls hcnt hinv hs hsz hnid hn hg
  have hall:∀j,j<ops.size->Dn listed j:=by
   intro j hj
   have:=Ap7 _ hcnt j (by simpa[hls] using hj)
   simp only[Array.getElem?_toList] at this
   unfold Dn
   simp[Array.getD_eq_getD_getElem?,this]
  refine⟨?_,fin hall hinv hs hsz hn hg⟩
  cases hr:Region.ready .any ops listed with
  |nil=>rfl
  |cons j r=>
   have hm:j∈Region.ready .any ops listed:=by rw[hr]; simp
   obtain⟨h0,o,ho,_⟩:=mem_ready.1 hm
   have:=hall j (Array.getElem?_eq_some_iff.1 ho).1
   unfold Dn at this
   have hlt:j<listed.size:=by rw[hls]; exact (Array.getElem?_eq_some_iff.1 ho).1
   simp only[Array.getD,hlt,dif_pos] at this h0
   rw[this] at h0; simp at h0
 |succ fuel ih=>
  intro listed K μ t a w hls hcnt hinv hs hsz hnid hn hg
  refine⟨λhr=>fin (AqQ hls hc hr) hinv hs hsz hn hg,λi hi=>?_⟩
  obtain⟨h0,o,ho,he⟩:=mem_ready.1 hi
  have hio:=(Array.getElem?_eq_some_iff.1 ho).1
  have hlt:i<listed.size:=by rw[hls]; exact hio
  have hli:listed[i]?=some false:=by
   simp only[Array.getD,hlt,dif_pos] at h0
   simp[hlt]; exact h0
  have hnD:¬Dn listed i:=by
   unfold Dn
   simp[Array.getD_eq_getD_getElem?,hli]
  have hom:o∈ops.toList:=by
   have:=Array.mem_of_getElem? ho
   simpa using this
  rcases Nat.lt_or_ge i kreg with hik|hik
  ·obtain⟨t₀,t',f,h1,h2,h3,h4⟩:=hinv.next hc hpk hst hk hik hnD ho he
   have hs₀:Sim K μ t₀ a w:=by
    rcases h1 with rfl|h1
    ·exact hs
    exact hs.same h1
   have hn₀:t₀.nid=t.nid:=by
    rcases h1 with rfl|h1
    ·rfl
    exact (h1 .nid).symm
   refine AyV (base:=base) hcall hP ho hs₀ (λd hd'=>by rw[hsz]; exact hd o hom d hd') h2 oM (λhm=>⟨oM,oM,h3 hm⟩) ?_
   intro K' μ' a' w' haf hn' hs' hsz'
   refine ih (listed.setIfInBounds i true) K' μ' t' a' w' (by simp[hls]) ?_ (by rw[BiZ hlt]; exact h4) hs' (by rw[hsz',hsz]) oM hn (hg.later haf (Nat.le_refl _))
   have:=AsA listed.toList i (by simpa using hli)
   rw[hcnt] at this
   simp only[Array.toList_setIfInBounds]
   omega
  rcases hend with ⟨_,hke,_⟩|⟨d,o',f,rfl,hl,ho',hf,hw,hop⟩
  ·omega
  have bef:∀i',i'∈(jI ops.toList []).getD i []->Dn listed i':=by
   intro i' hi'
   refine AbC (ops:=ops) (D:=Dn listed) hinv.closed i i' hi' λo'' ho'' e he' hb=>?_
   rw[ho,sJ] at ho''; subst ho''
   exact he e he' hb
  rcases Nat.lt_or_ge kreg i with hlt' | hge
  ·have:=hinv.dom kreg (bef kreg (hc.last kreg i hlt' hio oM oM))
   omega
  have hik':i=kreg:=oM
  subst hik'
  rw[ho,sJ] at ho'; subst ho'
  obtain⟨hfa,f0,hev⟩:=BhL hop
  have hfi:fs.getD i default=f:=by simp[List.getD,hf]
  have hsame:∀l,same (pW (jB ops i) t) (pW (jB ops i) (Ss i)) l:=λl=>by
   by_cases hl':∃x∈jB ops i,l=.tmp x
   ·obtain⟨x,hx,rfl⟩:=hl'
    show look x (List.filter _ _)=look x (List.filter _ _)
    rw[yP,yP,if_pos hx,if_pos hx]
   refine BdD ?_
   refine (hinv.loc l i (Nat.le_refl _) (λj hj hwj=>?_) (λj h1 h2=>oM)).symm
   rcases hc.loose j i hj hio oM (hpn oM) (by rw[hfi]; exact hfa) with h|h
   ·exact bef j h
   apply Classical.byContradiction; intro hnb
   simp only[AM.loose,Bool.and_eq_true,Bool.not_eq_true',List.all_eq_true] at h
   rcases hwj with h' | h'
   ·rw[h.1] at h'; simp at h'
   have h2:=h.2 l h'
   split at h2
   ·rename_i x hx
    rw[beq_iff_eq] at h2
    by_cases hbf:j∈(jI ops.toList []).getD i []
    ·exact absurd (bef j hbf) hnb
    refine hl' ⟨x,?_,h2⟩
    simp only[jB,List.mem_filterMap,List.mem_range]
    exact⟨j,hj,by rw[if_neg (by rw[List.contains_iff_mem]; exact hbf)]; exact hx⟩
   simp at h2
  have hs':=hs.dropped (jB ops i) |>.same hsame
  have hnn:t.nid=(pW (jB ops i) (Ss i)).nid:=hsame .nid
  unfold wpOp
  simp only[ho]
  rw[wT hs' hw]
  simp only[if_true]
  refine .inl (uV hcall hP hs' hev (λd hd'=>by rw[hsz]; exact hd o hom d hd') ⟨sM,?_⟩)
  intro d' s'' K' μ' w' u e haf hn' hs'' hr
  simp only[gR.pan.injEq] at e
  obtain⟨rfl,rfl⟩:=e
  exact hg _ K' μ' a w' ⟨u,rfl,hr⟩ (haf.less oM) hn hs'' hsz
theorem Sim.up {K:Col} {μ:Nat->Nat} {w:World} {s:St} {a:Act} (h:Sim K μ s a w) (n:Nat):Sim K μ { s with nid:=s.nid+n } a w:=
 ⟨h.tm,λt V ht b hb=>by have:=h.tids t V ht b hb; show b<s.nid+n; omega,h.own,h.view,
  fun b cells hc=>by
   obtain⟨h1,h2,h3⟩:=h.heap b cells hc
   exact⟨by show b<s.nid+n; omega,λc hc' i hi=>by have:=h2 c hc' i hi; show i<s.nid+n; omega,h3⟩,
  h.bound,h.defs,λx hx b hb=>by have:=h.dids x hx b hb; show b<s.nid+n; omega,h.glob⟩
theorem Sim.drawn {K:Col} {μ:Nat->Nat} {w:World} {s:St} {a:Act} (h:Sim K μ s a w) (n:Nat):Step iD K w K { w with drawn:=n }/\Sim K μ s a { w with drawn:=n }:=by
 have hst:Step (λ_=>False) K w K { w with drawn:=n }:=⟨rfl,rfl,rfl,Nat.le_refl _,λ_ _ _=>rfl,λ_ _ _ _=>⟨rfl,rfl,rfl⟩,λ_ _ h=>h⟩
 exact⟨hst.none_mine,h.step hst sM sM sM h.bound⟩
theorem ApD (hcall:pY P call) (hP:oW P) (hmix:P.follows .mixedOrders=true) {id sz:Nat} (hd:∀o∈ops.toList,∀t,o.dst=some t->t<sz) {K:Col} {μ:Nat->Nat} {w:World} {s:St} {a:Act} {x:AX} {s':St}
  {Q:Exit->Act->World->Prop} {m:Bool} (h:AbF P call ops m s=some (x,s')) (hs:Sim K μ s a w) (hsz:a.tmps.size=sz) (hg:AjG K μ w s.nid sz x s' Q) :
  (Code.region id ops true).wp P Q a w:=by
 unfold AbF at h
 generalize rX ops=vs at h
 split at h
 ·rename_i x' s1 fs hrun
  split at h
  ·rename_i hok
   simp only[Bool.and_eq_true,decide_eq_true_eq] at hok
   obtain⟨hok,hnn⟩:=hok
   simp only[sJ,pJ] at h
   obtain⟨rfl,rfl⟩:=h
   have hc:=AzH hok
   obtain⟨Ss,h0,hcase⟩:=AnA ops.toList 0 _ hrun
   obtain⟨hdr,hs1⟩:=(hs.up ops.size).drawn (w.drawn+1)
   have go:∀kreg,kreg<=ops.size->Steps P call ops vs s.nid fs Ss kreg->Bi1 P call ops vs s.nid fs Ss kreg x' s1->s.nid<=s1.nid->(x'.isPan=true->kreg<fs.length)->(kreg<fs.length->x'.isPan=true)->(Code.region id ops true).wp P Q a w:=by
    intro kreg hk hst hend hn hp1 hp2
    refine wp_region_any hmix ?_
    refine BeN hcall hP hd hc hst hk hp1 hp2 hend ops.size (Array.replicate ops.size false) K μ { s with nid:=s.nid+ops.size } a _ sM sM ?_ hs1 hsz (Nat.le_refl _) hn (hg.later ⟨hdr,λ_ _=>rfl⟩ (Nat.le_refl _))
    have hno:∀j,¬Dn (Array.replicate ops.size false) j:=by
     intro j h
     unfold Dn at h
     by_cases hj:j<ops.size<;>simp[Array.getD_eq_getD_getElem?,hj] at h
    refine⟨λj h=>absurd h (hno j),λj _ _ h=>absurd h (hno j),?_,?_⟩
    ·intro l m hm hb _
     have:=Steps.stays hst (i:=0) (l:=l) m oM λj _ hj hw=>hno j (hb j oM hw)
     rw[Nat.zero_add,h0] at this
     exact this.symm
    intro i o hi ho hm _
    refine⟨λt V ht hb=>?_,λb cells hb c hc' hin=>?_,λy hy hin=>?_⟩
    ·have:=hs.tids t V ht _ hb; omega
    ·have:=(hs.heap b cells hb).2.1 c hc' _ hin; omega
    have:=hs.dids y hy _ hin; omega
   rcases hcase with ⟨rfl,hl,hse,hall⟩|⟨d,k,o,f,rfl,hl,ho,hf,hw,hop,hall⟩
   ·refine go ops.size (Nat.le_refl _) ⟨by simp[hl],λj hj=>?_⟩ (.inl ⟨rfl,rfl,by simpa using hse⟩) ?_ (by simp[AX.isPan]) (λh=>absurd h (by rw[hl]; simp))
    ·obtain⟨o,f,q1,q2,q3⟩:=hall j (by simpa using hj)
     refine⟨o,f,by simpa using q1,?_,?_⟩
     ·simpa using q2
     simpa using q3
    ·exact hnn
   have hkk:k<ops.size:=by
    have:=(List.getElem?_eq_some_iff.1 ho).1
    simpa using this
   refine go k oM ⟨oM,λj hj=>?_⟩ (.inr ⟨d,o,f,rfl,hl,by simpa using ho,hf,by simpa using hw,by simpa using hop⟩) ?_ oM (by simp[AX.isPan])
   ·obtain⟨o,f,q1,q2,q3⟩:=hall j hj
    refine⟨o,f,by simpa using q1,?_,?_⟩
    ·simpa using q2
    simpa using q3
   exact hnn
  simp at h
 simp at h
end
end Go.AM
namespace Go.AM
open Go
variable [cU]
section
variable {P:Program} {K K':Col} {μ μ':Nat->Nat} {w w':World} {s:St} {a:Act}
theorem ArE {call:Call} (hcall:pY P call) {f:Nat} {args:List C} {b off:Nat} {V:V} {s':St} (h:AkM call f args b off s=some (V,s')) (hs:Sim K μ s a w)
  {vs:List Value} (hargs:aZ K μ w args vs):Callee P f/\μ b<w.heap.size/\∃v,w.cell? (ad (μ b) off)=some v/\∃sz xs,vJ s.heap b off=some (sz,xs)/\vJ s'.heap b off=some (sz,xs) /\
   Calls P f vs.toArray w λe w'=>∃K' μ',fT K μ w s.nid K' μ' w'/\Sim K' μ' s' a w'/\s.nid<=s'.nid/\lG V/\(∀b∈V.ids,b<s'.nid)/\w'.cell? (ad (μ' b) off)=some v/\μ' b=μ b/\∃u,e=.returned u/\bY K' μ' w' V u:=by
 unfold AkM at h
 split at h
 ·rename_i cells hb
  split at h
  ·rename_i sz xs hc
   split at h
   ·rename_i V0 s1 ids hd
    split at h
    ·rename_i cells1 hb1
     split at h
     ·rename_i hc1
      simp only[sJ,pJ] at h
      obtain⟨rfl,rfl⟩:=h
      obtain⟨v,g1,g2,g3,g4,g5,g6,g7,hs1⟩:=hs.hide hb hc
      have hbn:=(hs.heap b cells hb).1
      have hargs':aZ (sI K μ b off) μ w args vs:=hargs.step (AtN g6) sM
      refine⟨AdG hcall hd,g7,v,g1,sz,xs,by simp only[vJ,hb,hc],?_,?_⟩
      ·have hlt:off<cells1.length:=(List.getElem?_eq_some_iff.1 hc1).1
       simp only[vJ,cM,List.getElem?_set_self hlt]
      refine (AeN hcall hd hs1 hargs').mono ?_
      rintro e w' ⟨K1,μ1,hA,hR⟩
      obtain⟨r1,r2,r3,r4,r5,u,rfl,r6⟩:=hR
      have hmu:μ1 b=μ b:=hA.mu b hbn
      obtain⟨q1,q2,q3,q4⟩:=r1.unhide hA.step hmu g1 g2 g3 g4 g5 g6 g7 hb1 hc1
      exact⟨_,μ1,⟨q1,hA.mu⟩,q4,r2,r3,r4,q3,hmu,u,rfl,r6.step q2 sM⟩
     simp at h
    simp at h
   simp at h
  simp at h
 simp at h
theorem AxE (a:Act) {d t:Nat} (v:Value) (h:d≠t):(a.put (some d) v).tmps.getD t Go.undef=a.tmps.getD t Go.undef:=by
 rw[AgV]; simp[h]
theorem Ba5 {o:Oper} {ops:Array Oper} (hs:Sim K μ s a w) (hg:o.guard=none) (hl:(match o.op with|.move _=>true|.nilCheck _=>true|.fieldAddr _ _ _=>true|_=>false)=true) {b off:Nat}
  (h:evR P s.nid o s.tmps s.heap=some (.c (.ptr b off),none)):Yields P ops o (.pointer (some (ad (μ b) off))) a/\b<s.nid:=by
 have hw:Region.wanted o (yielded ops a.tmps)=true:=by simp[Region.wanted,hg]
 cases ho:o.op with
 |move x=>
  simp only[evR,ho] at h
  split at h
  ·split at h<;>simp at h
  ·rename_i v _ hx
   simp only[sJ,pJ,and_true] at h
   subst h
   have hr:=fN hs hx
   simp only[bY,RepC] at hr
   exact⟨.inl ⟨hw,λw'=>by simp[execOp,ho,hr]⟩,xE hs hx b (by simp[V.ids,C.ids])⟩
  simp at h
 |nilCheck x=>
  simp only[evR,ho] at h
  split at h
  ·rename_i b' off' hx
   simp only[sJ,pJ,V.c.injEq,C.ptr.injEq,and_true] at h
   obtain⟨rfl,rfl⟩:=h
   have hr:=cY hs hx
   simp only[bY,RepC] at hr
   exact⟨.inl ⟨hw,λw'=>by simp[execOp,ho,hr]⟩,Aa4 hs hx b' (by simp[V.ids,C.ids])⟩
  ·simp at h
  ·simp at h
  simp at h
 |fieldAddr t x i=>
  simp only[evR,ho] at h
  split at h
  ·rename_i off0 ft b' o' hf hx
   split at h
   ·rename_i n hn
    simp only[sJ,pJ,V.c.injEq,C.ptr.injEq,and_true] at h
    obtain⟨rfl,rfl⟩:=h
    obtain⟨fs,f,ht,hfi,rfl,rfl⟩:=zY hf
    have hr:=cY hs hx
    simp only[bY,RepC] at hr
    refine⟨.inl ⟨hw,λw'=>?_⟩,Aa4 hs hx b' (by simp[V.ids,C.ids])⟩
    have hsz:=dX (w:=w') hn
    simp[execOp,ho,hr,Instr.fieldAt,run_underlying ht,hfi,Instr.sureAddr,fieldPlace,hsz,Addr.add_lit]
   simp at h
  ·split at h<;>simp at h
  simp at h
 |_=>simp[ho] at hl
theorem AtR {ops:Array Oper} {Q:Exit->Act->World->Prop} (hns:Region.noSelect ops=true) (hQ:∀c a w,¬Q (.panic c) a w) (hg:∀o∈ops.toList,o.guard=none) (hd:∀o∈ops.toList,∀t,o.dst=some t->t<a.tmps.size) :
  ∀(is:List (Nat×Oper)) (fuel:Nat) (listed:Array Bool) (s s':St) (a':Act),a'.tmps.size=a.tmps.size->AgR P (is.map (·.2)) s=some s'->Sim K μ s a' w->(∀x∈is,ops[x.1]?=some x.2) ->
   (∀pre i post,is.map (·.1)=pre++i::post->Region.free .any ops (pre.foldl (λr i=>r.setIfInBounds i true) listed) i=true/\(Region.ready .any ops (pre.foldl (λr i=>r.setIfInBounds i true) listed)).contains i=true) ->
   (∀a'',Sim K μ s' a'' w->a''.tmps.size=a.tmps.size->wpAny P .any ops Q fuel ((is.map (·.1)).foldl (λr i=>r.setIfInBounds i true) listed) a'' w)->wpAny P .any ops Q (fuel+is.length) listed a' w
 | [],fuel,listed,s,s',a',hsz,he,hs,_,_,hk=>by
  simp only[List.map_nil,AgR,sJ] at he; subst he
  exact hk a' hs hsz
 |(i,o)::is,fuel,listed,s,s',a',hsz,he,hs,hio,hfr,hk=>by
  simp only[List.map_cons,AgR] at he
  split at he
  ·rename_i b off hl hev
   have ho:=hio (i,o) sM
   have hom:o∈ops.toList:=by
    rw[←Array.getElem?_toList] at ho
    exact List.mem_of_getElem? ho
   obtain⟨hy,hb⟩:=Ba5 (ops:=ops) hs (hg o hom) hl hev
   obtain⟨f1,f2⟩:=hfr [] i (is.map (·.1)) sM
   have hdd:∀t,o.dst=some t->t<a'.tmps.size:=λt ht=>by rw[hsz]; exact hd o hom t ht
   have hs2:Sim K μ (putDst o (.c (.ptr b off)) s) (a'.put o.dst (.pointer (some (ad (μ b) off)))) w:=
    hs.put hdd ⟨by simp[bY,RepC],by simp[V.ids,C.ids]; exact hb,sM,sM⟩
   rw[show fuel+((i,o)::is).length=(fuel+is.length)+1 from by simp; omega]
   refine wpAny_take ho hns f1 f2 (λc a w h=>absurd h (hQ c _ w)) hy ?_
   refine AtR hns hQ hg hd is fuel _ _ s' _ (by rw[mS]; exact hsz) he hs2 (λx hx=>hio x (by simp[hx])) ?_ ?_
   ·intro pre j post hp
    have:=hfr (i::pre) j post (by simp[hp])
    simpa using this
   intro a'' h1 h2
   have:=hk a'' h1 h2
   simpa using this
  simp at he
theorem AwK {call:Call} (hcall:pY P call) (hP:oW P) {o:Oper} {b off d6:Nat} {V:V} {s':St} (h:AeR P call b off o s=some (V,s')) (hs:Sim K μ s a w) (hd6:o.dst=some d6) (hd:d6<a.tmps.size)
  {next:Act->World->Prop} {Q:Exit->Act->World->Prop} (v:Value) (hv:w.cell? (ad (μ b) off)=some v)
  (hk:∀K' μ' a' w',fT K μ w s.nid K' μ' w'->s.nid<=s'.nid->Sim K' μ' (putDst o V s') a' w'->a'.tmps.size=a.tmps.size->w'.cell? (ad (μ' b) off)=some v->μ' b=μ b->(∀t,d6≠t->a'.tmps.getD t Go.undef=a.tmps.getD t Go.undef)->next a' w'):o.wp P a w next Q:=by
 unfold AeR at h
 split at h
 ·rename_i c ho
  split at h
  ·rename_i f hc
   split at h
   ·rename_i g args hf hargs
    have hfr:=cY hs hf
    simp only[bY,RepC] at hfr
    have hargr:aZ K μ w args (c.args.toList.map a.eval):=AhX hs hargs
    obtain⟨hce,hlt,v0,hv0,sz,xs,hco,hco',hcal⟩:=ArE hcall h hs hargr
    rw[hv,sJ] at hv0
    subst hv0
    have hrun:(execOp a.eval o).run P w=.ok (.enter g ((c.args.toList.map a.eval)).toArray) w:=by
     have he:=AeK hP hce (c.args.map a.eval) w
     have e2:(c.args.toList.map a.eval).toArray=c.args.map a.eval:=by
      apply Array.ext'; simp
     rw[e2]
     simp[execOp,ho,resolve,hc,Deferred.ofValue,hfr,invoke,he]
    simp only[Oper.wp,hrun,Oper.upon_enter]
    refine hcal.mono ?_
    rintro e w' ⟨K',μ',haf,h1,h2,h3,h4,h5,h6,u,rfl,h7⟩
    refine hk K' μ' (a.put o.dst u) w' haf h2 ?_ (mS _ _ _) h5 h6 ?_
    ·exact h1.put (λt ht=>by rw[hd6] at ht; simp only[sJ] at ht; omega) ⟨h7,h4,λsz xs e=>absurd e (h3.1 sz xs),λl sz xs e=>absurd e (h3.2 l sz xs)⟩
    intro t ht
    rw[hd6]; exact AxE a u ht
   simp at h
  simp at h
 simp at h
theorem Av0 {o:Oper} {t:TypeId} {x d4:Nat} {next:Act->World->Prop} {Q:Exit->Act->World->Prop} (ho:o.op=.load t (.tmp x)) (hd:o.dst=some d4) (ht:Ag2 P t=some false) {g off:Nat} {v:Value}
  (hx:a.tmps.getD x Go.undef=.pointer (some (ad g off))) (hv:w.cell? (ad g off)=some v) (h:next (a.put (some d4) v) w):o.wp P a w next Q:=by
 have hrun:(execOp a.eval o).run P w=.ok (.value v) w:=by
  have hx':a.eval (.tmp x)=.pointer (some (ad g off)):=hx
  simp[execOp,ho,hx',Instr.loadAt,Instr.sureAddr,zO ht _ _ _ hv]
 simp only[Oper.wp,hrun,Oper.upon_value,hd]
 exact h
theorem BbQ {call:Call} (hcall:pY P call) (hP:oW P) {ops:Array Oper} {Q:Exit->Act->World->Prop} {sz base:Nat} {K0:Col} {μ0:Nat->Nat} {w0:World} (hg:∀o∈ops.toList,o.guard=none) (hd:∀o∈ops.toList,∀t,o.dst=some t->t<sz) :
  ∀(is:List (Nat×Oper)) (listed:Array Bool) (K:Col) (μ:Nat->Nat) (s s':St) (a:Act) (w:World),a.tmps.size=sz->ApQ P call (is.map (·.2)) s=some s'->Sim K μ s a w->(∀x∈is,ops[x.1]?=some x.2)->fT K0 μ0 w0 base K μ w->base<=s.nid ->
   (∀pre i post,is.map (·.1)=pre++i::post->Region.ready .any ops (pre.foldl (λr i=>r.setIfInBounds i true) listed)=[i]) ->
   Region.ready .any ops ((is.map (·.1)).foldl (λr i=>r.setIfInBounds i true) listed)=[] ->
   (∀K' μ' a' w',fT K0 μ0 w0 base K' μ' w'->base<=s'.nid->Sim K' μ' s' a' w'->a'.tmps.size=sz->Q .normal a' w')->wpAny P .any ops Q is.length listed a w
 | [],listed,K,μ,s,s',a,w,hsz,he,hs,_,haf,hb,_,hfin,hk=>by
  simp only[List.map_nil,ApQ,sJ] at he; subst he
  exact wpAny_done (by simpa using hfin) (hk K μ a w haf hb hs hsz) _
 |(i,o)::is,listed,K,μ,s,s',a,w,hsz,he,hs,hio,haf,hb,hfr,hfin,hk=>by
  simp only[List.map_cons,ApQ] at he
  split at he
  ·rename_i V s1 ft hev
   have ho:=hio (i,o) sM
   have hom:o∈ops.toList:=by
    rw[←Array.getElem?_toList] at ho
    exact List.mem_of_getElem? ho
   have f1:=hfr [] i (is.map (·.1)) sM
   rw[show ((i,o)::is).length=is.length+1 from by simp]
   refine wpAny_all (rs:=[i]) (by simpa using f1) sM ?_
   intro j hj
   simp only[List.mem_singleton] at hj; subst hj
   unfold wpOp
   simp only at ho
   have hw:Region.wanted o (yielded ops a.tmps)=true:=by simp[Region.wanted,hg o hom]
   simp only[ho,hw,if_true]
   refine .inl (uV hcall hP hs hev (λt ht=>by rw[hsz]; exact hd o hom t ht) ⟨?_,by intro d s' K' μ' w' u e; simp at e⟩)
   intro V' s'' K' μ' a' w' e haf' hn hs' hsz'
   simp only[gR.val.injEq] at e
   obtain⟨rfl,rfl⟩:=e
   refine BbQ hcall hP hg hd is _ K' μ' _ s' a' w' (by rw[hsz',hsz]) he hs' (λx hx=>hio x (by simp[hx])) (haf.trans haf' hb) ?_ ?_ ?_ hk
   ·show base<=(putDst o V s1).nid
    rw[putDst,Ab6]; omega
   ·intro pre k post hp
    have:=hfr (j::pre) k post (by simp[hp])
    simpa using this
   simpa using hfin
  simp at he
theorem Sim.forget (h:Sim K μ s a w) {d:Nat} (hd:d<a.tmps.size) (hn:look d s.tmps=none) (v:Value) {b off sz:Nat} {xs:List D} (hrep:Rep K w (.list sz xs) v) (htied:Ar7 μ s a w (.cell b off) v):Sim K μ s (a.put (some d) v) w:=by
 have h1:Sim K μ (mR (some d) (.view (.cell b off) sz xs) s) (a.put (some d) v) w:=
  h.put (λt ht=>by simp only[sJ] at ht; omega) ⟨hrep,by simp[V.ids],sM,λl z ys e=>by simp only[V.view.injEq] at e; obtain⟨rfl,rfl,rfl⟩:=e; exact htied⟩
 have h2:=h1.weaken (tm:=s.tmps) (λt u ht=>⟨u,by
  have hne:d≠t:=by rintro rfl; rw[hn] at ht; simp at ht
  simp only[mR,pC,look]
  rw[if_neg hne]; exact ht,.inl rfl⟩)
 exact h2
theorem Be9 {call:Call} {o:Oper} {t:TypeId} {n:Nat} {ps:Array (Nat×Operand)} {d4 d6:Nat} (ho:o.op=.buildSlice t n ps) (hps:ps.toList=[(0,.tmp d6)]) (hne:d4≠d6) {u V:V} {s s':St} {ft:eX}
  (h:cV P call s.nid o { s with tmps:=(d4,u)::s.tmps }=some (.val V s',ft)):s'={ s with tmps:=(d4,u)::s.tmps }/\(∃z ys,V=.c (.full z ys))/\∃ft',cV P call s.nid o s=some (.val V s,ft'):=by
 have hl:look d6 ((d4,u)::s.tmps)=look d6 s.tmps:=by simp only[look]; rw[if_neg hne]
 have he:∀e,evT P e ((d4,u)::s.tmps) (.tmp d6)=evT P e s.tmps (.tmp d6):=λe=>by simp only[evT,ev,hl]
 have hel:∀e k,vS P e k ((d4,u)::s.tmps) 0 [(0,.tmp d6)]=vS P e k s.tmps 0 [(0,.tmp d6)]:=λe k=>by simp only[vS,he]
 have hfn:AmD [(0,Operand.tmp d6)]=none:=rfl
 simp only[cV,ho,evR,hps,hel,hfn] at h ⊢
 split at h
 ·rename_i v hv
  simp only[sJ,pJ,gR.val.injEq] at h
  obtain⟨⟨rfl,rfl⟩,_⟩:=h
  refine⟨rfl,?_,?_⟩
  ·split at hv
   ·split at hv
    ·split at hv
     ·split at hv
      ·simp only[sJ,pJ,and_true] at hv
       exact⟨_,_,hv.symm⟩
      ·simp at hv
     ·simp at hv
    ·simp at hv
   ·simp at hv
  exact⟨_,rfl⟩
 ·rename_i v cs hv
  exfalso
  split at hv
  ·split at hv
   ·split at hv
    ·split at hv<;>simp at hv
    ·simp at hv
   ·simp at hv
  simp at hv
 simp at h
theorem Ak4 {d:Option Nat} {v:V}:(mR d v s).heap=s.heap:=by cases d<;>rfl
theorem ApP:∀{l:List Oper} {s s':St},AgR P l s=some s'->s'.nid=s.nid
 | [],s,s',h=>by simp only[AgR,sJ] at h; subst h; rfl
 |o::r,s,s',h=>by
  simp only[AgR] at h
  split at h
  ·rw[ApP h]; exact Ab6
  simp at h
theorem Ax3 {call:Call} {b off:Nat} {o:Oper} {V:V} {s':St} (h:AeR P call b off o s=some (V,s')):∃sz xs,vJ s.heap b off=some (sz,xs):=by
 unfold AeR at h
 split at h
 ·split at h
  ·split at h
   ·unfold AkM at h
    split at h
    ·rename_i cells hb
     split at h
     ·rename_i sz xs hc
      exact⟨sz,xs,by simp only[vJ,hb,hc]⟩
     simp at h
    simp at h
   ·simp at h
  ·simp at h
 simp at h
theorem AfI (ids:List Nat) {t:Nat} {c:C}:∀{tm:List (Nat×V)},look t tm=some (.c c)->look t (AM.unviewIn ids tm)=some (.c c)
 | [],h=>by simp[look] at h
 |(j,v)::r,h=>by
  simp only[look] at h
  split at h
  ·rename_i e; subst e
   simp only[sJ] at h; subst h
   simp only[AM.unviewIn,look,if_true]
  rename_i e
  have ih:=AfI ids (tm:=r) h
  cases v with
  |view l sz xs=>cases l<;>simp only[AM.unviewIn,look]<;>rw[if_neg e]<;>exact ih
  |_=>simp only[AM.unviewIn,look]; rw[if_neg e]; exact ih
theorem Aj4 (l:Loc) {t:Nat} {c:C} {tm:List (Nat×V)} (h:look t tm=some (.c c)):look t (AM.unview l tm)=some (.c c):=by
 rw[wK,h]; rfl
theorem Ax4 {call:Call} {b off:Nat} {o:Oper} {V:V} {s':St} (h:AeR P call b off o s=some (V,s')) {t:Nat} {c:C} (ht:look t s.tmps=some (.c c)):look t s'.tmps=some (.c c):=by
 unfold AeR at h
 split at h
 ·split at h
  ·split at h
   ·unfold AkM at h
    split at h
    ·split at h
     ·split at h
      ·rename_i hdc
       split at h
       ·split at h
        ·simp only[sJ,pJ] at h
         obtain⟨rfl,rfl⟩:=h
         refine Aj4 _ ?_
         unfold mU at hdc
         split at hdc
         ·simp at hdc
         split at hdc
         ·split at hdc
          ·split at hdc
           ·simp only[sJ,pJ,gR.val.injEq] at hdc
            obtain⟨⟨_,rfl⟩,_⟩:=hdc
            exact AfI _ ht
           ·simp at hdc
          ·split at hdc<;>simp at hdc
          ·simp at hdc
         simp at hdc
        ·simp at h
       simp at h
      ·simp at h
     ·simp at h
    simp at h
   ·simp at h
  ·simp at h
 simp at h
def Ay2 (Q:Exit->Act->World->Prop):Exit->Act->World->Prop:=λe a w=>(∀c,e≠.panic c)/\Q e a w
theorem Bd2 {Q:Exit->Act->World->Prop} {c} {a:Act} {w:World}:¬Ay2 Q (.panic c) a w:=λh=>h.1 c rfl
theorem Aj3 {o:Oper} {d t:Nat} {V:V} {c:C} (hd:o.dst=some d) (hne:d≠t) (h:look t s.tmps=some (.c c)):look t (putDst o V s).tmps=some (.c c):=by
 simp only[putDst,mR,hd]
 unfold pC
 split
 ·simp only[look]; rw[if_neg hne]; exact Aj4 _ h
 simp only[look]; rw[if_neg hne]; exact h
theorem BkL:(lst 12 [0,1,2,3,5]).setIfInBounds 4 true=lst 12 [0,1,2,3,5,4]:=dM
theorem BjM:(lst 12 [0,1,2,3,5,4]).setIfInBounds 6 true=lst 12 [0,1,2,3,5,4,6]:=dM
theorem BhE:(lst 12 [0,1,2,3,5,4,6]).setIfInBounds 7 true=lst 12 [0,1,2,3,5,4,6,7]:=dM
theorem BkM:(lst 12 [0,1,2,3,5]).setIfInBounds 6 true=lst 12 [0,1,2,3,5,6]:=dM
theorem BjN:(lst 12 [0,1,2,3,5,6]).setIfInBounds 4 true=lst 12 [0,1,2,3,5,6,4]:=dM
theorem BhF:(lst 12 [0,1,2,3,5,6,4]).setIfInBounds 7 true=lst 12 [0,1,2,3,5,4,6,7]:=dM
theorem BjO:(lst 12 [0,1,2,3,5,6]).setIfInBounds 7 true=lst 12 [0,1,2,3,5,6,7]:=dM
theorem BhG:(lst 12 [0,1,2,3,5,6,7]).setIfInBounds 4 true=lst 12 [0,1,2,3,5,4,6,7]:=dM
set_option maxHeartbeats 4000000 in
theorem ArO {call:Call} (hcall:pY P call) (hP:oW P) {ops:Array Oper} {sz:Nat} (hd:∀o∈ops.toList,∀t,o.dst=some t->t<sz) {x:AX} {s':St} (h:AvE P call ops s=some (x,s')) (hs:Sim K μ s a w) (hsz:a.tmps.size=sz)
  {Q:Exit->Act->World->Prop} (hg:AjG K μ w s.nid sz x s' Q) (id:Nat):(Code.region id ops true).wp P Q a w:=by
 unfold AvE at h
 split at h
 ·rename_i o0 o1 o2 o3 o4 o5 o6 o7 o8 o9 o10 o11 hchk hops
  unfold BbP at hchk
  rw[hops] at hchk
  simp only[Bool.and_eq_true,beq_iff_eq,List.all_eq_true,Option.isNone_iff_eq_none] at hchk
  obtain⟨⟨⟨⟨hgd,hns⟩,hshape⟩,hfree⟩,hrdy⟩:=hchk
  obtain⟨⟨⟨⟨⟨⟨⟨⟨⟨⟨r1,r2⟩,r3⟩,r4⟩,r5⟩,r6⟩,r7⟩,r8⟩,r9⟩,r10⟩,r11⟩:=hrdy
  have hsize:ops.size=12:=by rw[←Array.length_toList,hops]; rfl
  have hget:∀(i:Nat) (o:Oper),[o0,o1,o2,o3,o4,o5,o6,o7,o8,o9,o10,o11][i]?=some o->ops[i]?=some o:=by
   intro i o hi
   rw[←Array.getElem?_toList,hops]; exact hi
  split at h
  ·rename_i s0 t xx d4 d6 hp ho4 hd4 hd6
   rw[ho4,hd4,hd6] at hshape
   split at hshape
   ·rename_i tt xx' d4' d6' tb nb ps d7 e1 e2 e3 ho7 hd7
    simp only[Op.load.injEq,Operand.tmp.injEq,sJ] at e1 e2 e3
    obtain⟨rfl,rfl⟩:=e1
    subst e2; subst e3
    split at hshape
    ·rename_i pp hps
     simp only[Bool.and_eq_true,beq_iff_eq,bne_iff_ne,ne_eq] at hshape
     obtain⟨⟨⟨⟨⟨⟨hpp,n46⟩,n47⟩,n67⟩,nx4⟩,nx6⟩,nx7⟩:=hshape
     replace hpp:=hpp.symm
     subst hpp
     split at h
     ·rename_i b off hxx htg
      split at h
      ·rename_i Vc s1 hcl
       split at h
       ·rename_i szl xs hown
        split at h
        ·rename_i s2 hseq
         simp only[sJ,pJ] at h
         obtain⟨rfl,rfl⟩:=h
         refine wp_mono (Q:=λe a w=>(∀c,e≠.panic c)/\Q e a w) ?_ (λe a w h=>h.2)
         refine wp_region_any hP.mixed ?_
         obtain⟨hdr,hs1⟩:=hs.drawn (w.drawn+1)
         generalize hw1:({ w with drawn:=w.drawn+1 }:World)=w1 at hdr hs1
         have hdd:∀o∈ops.toList,∀t,o.dst=some t->t<a.tmps.size:=λo ho t ht=>by rw[hsz]; exact hd o ho t ht
         have hgd':∀o∈ops.toList,o.guard=none:=λo ho=>hgd o (by rw[hops] at ho; exact ho)
         rw[hsize]
         have hlst0:Array.replicate 12 false=lst 12 []:=rfl
         rw[hlst0]
         refine AtR (a:=a) hns (λ_ _ _=>Bd2) hgd' hdd [(0,o0),(1,o1),(2,o2),(3,o3),(5,o5)] 7 (lst 12 []) s s0 a rfl hp hs1 ?_ ?_ ?_
         ·intro y hy
          simp only[List.mem_cons,List.not_mem_nil,or_false] at hy
          rcases hy with rfl|rfl|rfl|rfl|rfl<;>exact hget _ _ rfl
         ·intro pre i post hpre
          have hf:∀q∈[(([]:List Nat),0),([0],1),([0,1],2),([0,1,2],3),([0,1,2,3],5)],Region.free .any ops (lst 12 q.1) q.2=true/\(Region.ready .any ops (lst 12 q.1)).contains q.2=true:=hfree
          have hmem:(pre,i)∈[(([]:List Nat),0),([0],1),([0,1],2),([0,1,2],3),([0,1,2,3],5)]:=by
           rcases pre with _|⟨p0,_|⟨p1,_|⟨p2,_|⟨p3,_|⟨p4,pre⟩⟩⟩⟩⟩<;>simp at hpre<;>simp[hpre]
          exact hf _ hmem
         intro a2 hs2 hsz2
         show wpAny P .any ops (Ay2 Q) 7 (lst 12 [0,1,2,3,5]) a2 w1
         have hnid0:s0.nid=s.nid:=ApP hp
         have hxval:a2.tmps.getD xx Go.undef=.pointer (some (ad (μ b) off)):=by
          have:=(hs2.tm xx _ hxx).2
          simpa[bY,RepC] using this
         have hbn:b<s0.nid:=hs2.tids xx _ hxx b (by simp[V.ids,C.ids])
         have hsD:Sim K μ (pW [d4,d6] s0) a2 w1:=hs2.dropped _
         have h4lt:d4<sz:=hd o4 (by rw[hops]; simp) d4 hd4
         have h6lt:d6<sz:=hd o6 (by rw[hops]; simp) d6 hd6
         have h7lt:d7<sz:=hd o7 (by rw[hops]; simp) d7 hd7
         have hsz2':a2.tmps.size=sz:=by rw[hsz2,hsz]
         obtain⟨v4,hv4,xs0,sz0,hrep0,hco0⟩:∃v4,w1.cell? (ad (μ b) off)=some v4/\∃xs0 sz0,Rep K w1 (.list sz0 xs0) v4/\vJ (pW [d4,d6] s0).heap b off=some (sz0,xs0):=by
          obtain⟨sz0,xs0,hco⟩:=Ax3 hcl
          unfold vJ at hco
          split at hco
          ·rename_i cells hb
           split at hco
           ·rename_i z ys hc
            simp only[sJ,pJ] at hco
            obtain⟨rfl,rfl⟩:=hco
            obtain⟨v,g1,_,_,g4,_⟩:=hsD.hide hb hc
            exact⟨v,g1,ys,z,g4,by simp only[vJ,hb,hc]⟩
           simp at hco
          simp at hco
         have htied0:∀A:Act,Ar7 μ (pW [d4,d6] s0) A w1 (.cell b off) v4:=λA cells z ys _ _=>hv4
         have rest8:∀(K':Col) (μ':Nat->Nat) (A:Act) (W:World) (S:St),ApQ P call [o8,o9,o10,o11] S=some s2->Sim K' μ' S A W->A.tmps.size=sz->fT K μ w s.nid K' μ' W->s.nid<=S.nid ->
           wpAny P .any ops (Ay2 Q) 4 (lst 12 [0,1,2,3,5,4,6,7]) A W:=by
          intro K' μ' A W S hev hS hA haf hn
          refine BbQ hcall hP hgd' hd [(8,o8),(9,o9),(10,o10),(11,o11)] _ K' μ' S s2 A W hA hev hS ?_ haf hn ?_ ?_ ?_
          ·intro y hy
           simp only[List.mem_cons,List.not_mem_nil,or_false] at hy
           rcases hy with rfl|rfl|rfl|rfl<;>exact hget _ _ rfl
          ·intro pre i post hpre
           rcases pre with _|⟨p0,_|⟨p1,_|⟨p2,_|⟨p3,pre⟩⟩⟩⟩<;>simp at hpre
           ·obtain⟨rfl,_⟩:=hpre; exact r7
           ·obtain⟨rfl,rfl,_⟩:=hpre; exact r8
           ·obtain⟨rfl,rfl,rfl,_⟩:=hpre; exact r9
           obtain⟨rfl,rfl,rfl,rfl,_⟩:=hpre; exact r10
          ·exact List.isEmpty_iff.1 r11
          intro K2 μ2 A2 W2 haf2 hn2 hS2 hA2
          exact⟨sM,hg .normal K2 μ2 A2 W2 rfl haf2 hn2 hS2 hA2⟩
         simp only[ApQ] at hseq
         split at hseq
         ·rename_i V7 s3' ft7 hev7
          replace hev7:cV P call (putDst o6 Vc s1).nid o7 { putDst o6 Vc s1 with tmps:=(d4,.view (.cell b off) szl xs)::(putDst o6 Vc s1).tmps }=some (.val V7 s3',ft7):=hev7
          obtain⟨rfl,⟨z7,y7,rfl⟩,ft7',hev7'⟩:=Be9 ho7 hps n46 hev7
          have hnidc:(putDst o6 Vc s1).nid=s1.nid:=Ab6
          have hw67:∀(o:Oper) (A:Act),o∈ops.toList->Region.wanted o (yielded ops A.tmps)=true:=λo A ho=>by simp[Region.wanted,hgd' o ho]
          have m4:o4∈ops.toList:=by rw[hops]; simp
          have m6:o6∈ops.toList:=by rw[hops]; simp
          have m7:o7∈ops.toList:=by rw[hops]; simp
          have do7:∀(K':Col) (μ':Nat->Nat) (A:Act) (W:World),Sim K' μ' { putDst o6 Vc s1 with tmps:=(d4,.view (.cell b off) szl xs)::(putDst o6 Vc s1).tmps } A W->A.tmps.size=sz->fT K μ w s.nid K' μ' W->s.nid<=s1.nid->∀L:Array Bool,L=lst 12 [0,1,2,3,5,4,6,7] ->
            wpOp P ops (Ay2 Q) 7 (wpAny P .any ops (Ay2 Q) 4 L) A W:=by
           rintro K' μ' A W hS hA haf hn L rfl
           unfold wpOp
           rw[hget 7 o7 rfl]
           simp only[hw67 o7 A m7,if_true]
           refine .inl (uV hcall hP hS hev7 (λt ht=>by rw[hA]; exact hd o7 m7 t ht) ⟨?_,by intro d s' K' μ' w' u e; simp at e⟩)
           intro V' s'' K2 μ2 A2 W2 e haf2 hn2 hS2 hA2
           simp only[gR.val.injEq] at e
           obtain⟨rfl,rfl⟩:=e
           refine rest8 K2 μ2 A2 W2 _ hseq hS2 (by rw[hA2,hA]) (haf.trans haf2 ?_) ?_
           ·show s.nid<=(putDst o6 Vc s1).nid; rw[hnidc]; exact hn
           show s.nid<=(putDst o7 _ _).nid
           rw[putDst,Ab6]
           show s.nid<=(putDst o6 Vc s1).nid; rw[hnidc]; exact hn
          have hafw:∀{K':Col} {μ':Nat->Nat} {W:World},fT K μ w1 (pW [d4,d6] s0).nid K' μ' W->fT K μ w s.nid K' μ' W:=by
           intro K' μ' W haf
           have:fT K μ w s.nid K μ w1:=⟨hdr,λ_ _=>rfl⟩
           exact this.trans haf (by show s.nid<=s0.nid; omega)
          have hcellrep:∀{K':Col} {μ':Nat->Nat} {A:Act} {W:World},Sim K' μ' (putDst o6 Vc s1) A W->∃v,W.cell? (ad (μ' b) off)=some v/\Rep K' W (.list szl xs) v:=by
           intro K' μ' A W hS
           unfold vJ at hown
           split at hown
           ·rename_i cells hb
            split at hown
            ·rename_i z ys hc
             simp only[sJ,pJ] at hown
             obtain⟨rfl,rfl⟩:=hown
             obtain⟨v,g1,_,_,g4,_⟩:=hS.hide (b:=b) (off:=off) (cells:=cells) (by rw[show (putDst o6 Vc s1).heap=s1.heap from Ak4]; exact hb) hc
             exact⟨v,g1,g4⟩
            simp at hown
           simp at hown
          have hview:∀{K':Col} {μ':Nat->Nat} {A:Act} {W:World} {v:Value},Sim K' μ' (putDst o6 Vc s1) A W->W.cell? (ad (μ' b) off)=some v->A.tmps.getD d4 Go.undef=v->A.tmps.size=sz ->
            Sim K' μ' { putDst o6 Vc s1 with tmps:=(d4,.view (.cell b off) szl xs)::(putDst o6 Vc s1).tmps } A W:=by
           intro K' μ' A W v hS hv hAv hA
           obtain⟨v',h1,h2⟩:=hcellrep hS
           rw[hv,sJ] at h1; subst h1
           have:=hS.put (dst:=some d4) (V:=.view (.cell b off) szl xs) (v:=v) (λt ht=>by simp only[sJ] at ht; subst ht; rw[hA]; exact h4lt)
            ⟨h2,by simp[V.ids],sM,λl z ys e=>by simp only[V.view.injEq] at e; obtain⟨rfl,rfl,rfl⟩:=e; exact λcells z ys _ _=>hv⟩
           rw[←hAv,AqN A (by rw[hA]; exact h4lt)] at this
           exact this
          refine wpAny_all (rs:=[4,6]) r1 sM ?_
          intro i hi
          simp only[List.mem_cons,List.not_mem_nil,or_false] at hi
          rcases hi with rfl|rfl
          ·-- the load
           unfold wpOp
           rw[hget 4 o4 rfl]
           simp only[hw67 o4 a2 m4,if_true]
           refine .inl (Av0 ho4 hd4 htg hxval hv4 ?_)
           rw[BkL]
           have hsA:Sim K μ (pW [d4,d6] s0) (a2.put (some d4) v4) w1:=hsD.forget (by rw[hsz2']; exact h4lt) (by
            show look d4 (s0.tmps.filter λp=>!([d4,d6]:List Nat).contains p.1)=none
            rw[yP]; simp) v4 hrep0 (htied0 a2)
           refine wpAny_all (rs:=[6]) r2 sM ?_
           intro i hi
           simp only[List.mem_singleton] at hi; subst hi
           unfold wpOp
           rw[hget 6 o6 rfl]
           simp only[hw67 o6 _ m6,if_true]
           refine .inl (AwK hcall hP hcl hsA hd6 (by rw[mS,hsz2']; exact h6lt) v4 hv4 ?_)
           rw[BjM]
           intro K' μ' A W haf hn hS hA hcv hmu hkeep
           have hA4:A.tmps.getD d4 Go.undef=v4:=by
            rw[hkeep d4 (λe=>n46 e.symm),AgV]; simp[show d4<a2.tmps.size by rw[hsz2']; exact h4lt]
           have hAsz:A.tmps.size=sz:=by rw[hA,mS]; exact hsz2'
           refine wpAny_all (rs:=[7]) r3 sM ?_
           intro i hi
           simp only[List.mem_singleton] at hi; subst hi
           exact do7 K' μ' A W (hview hS hcv hA4 hAsz) hAsz (hafw haf) (by have:s0.nid<=s1.nid:=hn; omega) _ BhE
          -- the call
          unfold wpOp
          rw[hget 6 o6 rfl]
          simp only[hw67 o6 a2 m6,if_true]
          refine .inl (AwK hcall hP hcl hsD hd6 (by rw[hsz2']; exact h6lt) v4 hv4 ?_)
          rw[BkM]
          intro K' μ' A W haf hn hS hA hcv hmu hkeep
          have hAsz:A.tmps.size=sz:=by rw[hA]; exact hsz2'
          have hAx:A.tmps.getD xx Go.undef=.pointer (some (ad (μ' b) off)):=by
           rw[hkeep xx (λe=>nx6 e.symm),hxval,hmu]
          have hn1:s.nid<=s1.nid:=by have:s0.nid<=s1.nid:=hn; omega
          refine wpAny_all (rs:=[4,7]) r4 sM ?_
          intro i hi
          simp only[List.mem_cons,List.not_mem_nil,or_false] at hi
          rcases hi with rfl|rfl
          ·-- then the load
           unfold wpOp
           rw[hget 4 o4 rfl]
           simp only[hw67 o4 A m4,if_true]
           refine .inl (Av0 ho4 hd4 htg hAx hcv ?_)
           rw[BjN]
           obtain⟨v',g1,g2⟩:=hcellrep hS
           rw[hcv,sJ] at g1; subst g1
           have hS2:=hS.put (dst:=some d4) (V:=.view (.cell b off) szl xs) (v:=v4) (λt ht=>by simp only[sJ] at ht; subst ht; rw[hAsz]; exact h4lt)
            ⟨g2,by simp[V.ids],sM,λl z ys e=>by simp only[V.view.injEq] at e; obtain⟨rfl,rfl,rfl⟩:=e; exact λcells z ys _ _=>hcv⟩
           refine wpAny_all (rs:=[7]) r5 sM ?_
           intro i hi
           simp only[List.mem_singleton] at hi; subst hi
           exact do7 K' μ' _ W hS2 (by rw[mS]; exact hAsz) (hafw haf) hn1 _ BhF
          -- the slice is built ahead of the load
          unfold wpOp
          rw[hget 7 o7 rfl]
          simp only[hw67 o7 A m7,if_true]
          rw[BjO]
          refine .inl (uV hcall hP hS hev7' (λt ht=>by rw[hAsz]; exact hd o7 m7 t ht) ⟨?_,by intro d s' K' μ' w' u e; simp at e⟩)
          intro V' s'' K2 μ2 A2 W2 e haf2 hn2 hS2 hA2
          simp only[gR.val.injEq] at e
          obtain⟨rfl,rfl⟩:=e
          refine wpAny_all (rs:=[4]) r6 sM ?_
          intro i hi
          simp only[List.mem_singleton] at hi; subst hi
          unfold wpOp
          rw[hget 4 o4 rfl]
          simp only[hw67 o4 A2 m4,if_true]
          have hAsz2:A2.tmps.size=sz:=by rw[hA2,hAsz]
          have hl0:look xx (pW [d4,d6] s0).tmps=some (.c (.ptr b off)):=by
           show look xx (s0.tmps.filter λp=>!([d4,d6]:List Nat).contains p.1)=_
           rw[yP,if_neg (by simp[nx4,nx6]),hxx]
          have hl1:=Ax4 hcl hl0
          have hl2:look xx (putDst o6 Vc s1).tmps=some (.c (.ptr b off)):=Aj3 hd6 (λe=>nx6 e.symm) hl1
          have hl3:look xx (putDst o7 (.c (.full z7 y7)) (putDst o6 Vc s1)).tmps=some (.c (.ptr b off)):=Aj3 hd7 (λe=>nx7 e.symm) hl2
          have hAx2:A2.tmps.getD xx Go.undef=.pointer (some (ad (μ2 b) off)):=by
           have:=(hS2.tm xx _ hl3).2
           simpa[bY,RepC] using this
          obtain⟨v5,hv5,hrep5⟩:∃v,W2.cell? (ad (μ2 b) off)=some v/\Rep K2 W2 (.list szl xs) v:=by
           unfold vJ at hown
           split at hown
           ·rename_i cells hb
            split at hown
            ·rename_i z ys hc
             simp only[sJ,pJ] at hown
             obtain⟨rfl,rfl⟩:=hown
             obtain⟨v,g1,_,_,g4,_⟩:=hS2.hide (b:=b) (off:=off) (cells:=cells) (by
              rw[show (putDst o7 (.c (.full z7 y7)) (putDst o6 Vc s1)).heap=s1.heap from by rw[putDst,Ak4,putDst,Ak4]]; exact hb) hc
             exact⟨v,g1,g4⟩
            simp at hown
           simp at hown
          refine .inl (Av0 ho4 hd4 htg hAx2 hv5 ?_)
          have hS3:=hS2.put (dst:=some d4) (V:=.view (.cell b off) szl xs) (v:=v5) (λt ht=>by simp only[sJ] at ht; subst ht; rw[hAsz2]; exact h4lt)
           ⟨hrep5,by simp[V.ids],sM,λl z ys e=>by simp only[V.view.injEq] at e; obtain⟨rfl,rfl,rfl⟩:=e; exact λcells z ys _ _=>hv5⟩
          have hS4:=hS3.weaken (tm:=(putDst o7 (.c (.full z7 y7)) { putDst o6 Vc s1 with tmps:=(d4,.view (.cell b off) szl xs)::(putDst o6 Vc s1).tmps }).tmps) (λt u ht=>⟨u,by
           simp only[putDst,mR,hd7,pC,AM.unview] at ht ⊢
           simp only[look] at ht ⊢
           by_cases e1:d7=t
           ·subst e1
            rw[if_neg n47]
            simpa using ht
           rw[if_neg e1] at ht ⊢
           simpa using ht,.inl rfl⟩)
          rw[BhG]
          refine rest8 K2 μ2 _ W2 _ hseq ?_ (by rw[mS]; exact hAsz2) ((hafw haf).trans haf2 ?_) ?_
          ·have e:({ mR (some d4) (.view (.cell b off) szl xs) (putDst o7 (.c (.full z7 y7)) (putDst o6 Vc s1)) with tmps:=(putDst o7 (.c (.full z7 y7)) { putDst o6 Vc s1 with tmps:=(d4,.view (.cell b off) szl xs)::(putDst o6 Vc s1).tmps }).tmps }:St)=putDst o7 (.c (.full z7 y7)) { putDst o6 Vc s1 with tmps:=(d4,.view (.cell b off) szl xs)::(putDst o6 Vc s1).tmps }:=by
            simp only[putDst,mR,hd7]
           rw[←e]; exact hS4
          ·show s.nid<=(putDst o6 Vc s1).nid; rw[hnidc]; exact hn1
          show s.nid<=(putDst o7 _ _).nid
          rw[putDst,Ab6]
          show s.nid<=(putDst o6 Vc s1).nid; rw[hnidc]; exact hn1
         simp at hseq
        simp at h
       simp at h
      simp at h
     simp at h
    simp at hshape
   simp at hshape
  simp at h
 simp at h
end
end Go.AM
