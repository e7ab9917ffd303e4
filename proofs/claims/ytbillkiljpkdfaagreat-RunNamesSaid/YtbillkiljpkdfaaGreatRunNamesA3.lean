/- Part of a proof about the given program: the abstract machine, the printed functions, the plain laws. -/
import Derived.Test.YtbillkiljpkdfaaGreatRunNamesA2
import Derived.Recover
import Derived.Below
import Derived.Shelf.Strings.Fields
import Derived.Shelf.Strings.OnBuilder
import Derived.Shelf.Strings.IndexAnyAll
import Derived.Shelf.Small.Strs
import Derived.Shelf.SlicesE.Clone
import Derived.Shelf.SlicesE.Reverse
import Derived.Shelf.SlicesE.Delete
import Derived.Laws.AppendOwnNone
import Derived.Test.YtbillkiljpkdfaaGreatProg
import Derived.WalkKit
import Derived.ProofKit
import Derived.Handy
import Derived.KernelRfl
import Derived.LaidSub
import Derived.MakeChecks
set_option linter.all false
set_option maxRecDepth 100000
set_option maxHeartbeats 4000000
namespace Go.AM
open Go
variable [cM]
section
variable {P:Program} {K K':Col} {μ μ':Nat->Nat} {w w':World} {s:St} {a:Act}
structure yV (P:Program) (call:Call):Prop where
 o:oY P (AbF call)
 v:oY P (Ar8 call)
theorem AzA {call:Call} (hcall:yV P call) (hP:nS P) (hs:Sim K μ s a w) {o:Oper} {V:V} {s':St} (h:spec P call o s=some (V,s')) (hd:∀t,o.dst=some t->t<a.tmps.size)
  {next:Act->World->Prop} {Q:Exit->Act->World->Prop} (hb:AiH P K μ s a w o (.val V s') next Q):o.wp P a w next Q:=by
 unfold spec at h
 split at h
 ·rename_i r hr
  simp only[sJ] at h; subst h
  exact AmX hs hr hd hb
 split at h
 ·rename_i c ho
  split at h
  ·rename_i f hc
   split at h
   ·rename_i g args hf hargs
    split at h
    ·rename_i v s1 ids hdc
     simp only[sJ,pJ] at h
     obtain⟨rfl,rfl⟩:=h
     have hev:cP P (Ar8 call) s.nid o s=some (.val v s1,⟨ids,ids,[]⟩):=by
      simp only[cP,ho,hc,hf,hargs,List.map_nil,List.append_nil,hdc]
     exact tV hcall.v hP hs hev hd hb
    simp at h
   simp at h
  simp at h
 simp at h
theorem zX {call:Call} (hcall:yV P call) (hP:nS P) {ops:Array Oper} {sz:Nat} (hd:∀o∈ops.toList,∀t,o.dst=some t->t<sz) {x:AX} {s':St}
  {Q:Exit->Act->World->Prop}:∀(l:List Oper) (i:Nat) (K:Col) (μ:Nat->Nat) (s:St) (a:Act) (w:World),ops.toList.drop i=l->AaR P call ops l s=some (x,s') ->
   Sim K μ s a w->a.tmps.size=sz->AiI K μ w s.nid sz x s' Q->wpOps P ops Q (List.range' i l.length) a w
 | [],i,K,μ,s,a,w,_,h,hs,hsz,hg=>by
  simp only[AaR,sJ,pJ] at h
  obtain⟨rfl,rfl⟩:=h
  exact hg .normal K μ a w rfl (After.refl _ _ _ _) (Nat.le_refl _) hs hsz
 |o::l,i,K,μ,s,a,w,hl,h,hs,hsz,hg=>by
  have hoi:ops[i]?=some o:=by
   have:(ops.toList.drop i)[0]?=some o:=by rw[hl]; rfl
   rw[qT] at this
   simpa using this
  have hl':ops.toList.drop (i+1)=l:=by
   rw[←List.drop_drop,hl]; rfl
  have hom:o∈ops.toList:=by
   have:o∈ops.toList.drop i:=by rw[hl]; simp
   exact List.mem_of_mem_drop this
  have hdo:∀t,o.dst=some t->t<a.tmps.size:=by rw[hsz]; exact hd o hom
  simp only[List.length_cons,List.range'_succ,wpOps,hoi]
  simp only[AaR] at h
  split at h
  ·simp at h
  ·rename_i hw
   rw[vP hs hw]
   simp only[fJ,if_false]
   have hs':=hs.put (dst:=o.dst) (V:=.c .undef) (v:=Go.undef) hdo rT
   have hn:(putDst o (.c .undef) s).nid=s.nid:=by unfold putDst lV; cases o.dst<;>rfl
   exact zX hcall hP hd l (i+1) K μ _ _ w hl' h hs' (by rw[lW]; exact hsz) (by rw[hn]; exact hg)
  rename_i hw
  rw[vP hs hw]
  simp only[if_true]
  split at h
  ·rename_i v s1 hop
   refine .inl (AzA hcall hP hs hop hdo ⟨?_,by simp⟩)
   intro V s'' K' μ' a' w' e haf hn hs' hsz'
   simp only[gA.val.injEq] at e
   obtain⟨rfl,rfl⟩:=e
   have hn':(putDst o v s1).nid=s1.nid:=by unfold putDst lV; cases o.dst<;>rfl
   exact zX hcall hP hd l (i+1) K' μ' _ a' w' hl' h hs' (by rw[hsz',hsz]) (by rw[hn']; exact hg.later haf hn)
  split at h
  ·rename_i v s1 f hop
   refine .inl (tV hcall.o hP hs hop hdo ⟨?_,by simp⟩)
   intro V s'' K' μ' a' w' e haf hn hs' hsz'
   simp only[gA.val.injEq] at e
   obtain⟨rfl,rfl⟩:=e
   have hn':(putDst o v s1).nid=s1.nid:=by unfold putDst lV; cases o.dst<;>rfl
   exact zX hcall hP hd l (i+1) K' μ' _ a' w' hl' h hs' (by rw[hsz',hsz]) (by rw[hn']; exact hg.later haf hn)
  ·rename_i d s1 f hop
   simp only[sJ,pJ] at h
   obtain⟨rfl,rfl⟩:=h
   refine .inl (tV hcall.o hP hs hop hdo ⟨by simp,?_⟩)
   intro d' s'' K' μ' w' u e haf hn hs' hr
   simp only[gA.pan.injEq] at e
   obtain⟨rfl,rfl⟩:=e
   exact hg _ K' μ' a w' ⟨u,rfl,hr⟩ haf hn hs' hsz
  simp at h
theorem ApE {f:St->Option (AX×St)} {keep:List Nat} {n sz:Nat} {c:Code} {x:AX} {s':St} {Q:Exit->Act->World->Prop}
  (hf:∀{K:Col} {μ:Nat->Nat} {w:World} {s:St} {a:Act} {x:AX} {s':St} {Q:Exit->Act->World->Prop},f s=some (x,s')->Sim K μ s a w->a.tmps.size=sz->AiI K μ w s.nid sz x s' Q->c.wp P Q a w) :
  ∀(k:Nat) (K:Col) (μ:Nat->Nat) (s:St) (a:Act) (w:World),iter f (aH keep n) k s=some (x,s')->Sim K μ s a w->a.tmps.size=sz->n<=s.nid->AiI K μ w n sz x s' Q->Code.rounds P c Q k a w
 |0,K,μ,s,a,w,h,_,_,_,_=>by simp[iter] at h
 |k+1,K,μ,s,a,w,h,hs,hsz,hn,hg=>by
  simp only[iter] at h
  rw[rounds_succ]
  split at h
  ·simp at h
  rename_i s1 hc
  obtain⟨K1,μ1,hst1,hmu1,hs1,hn1,_⟩:=hs.clean hc
  have ha1:After K μ w n K1 μ1 w:=⟨hst1,hmu1⟩
  split at h
  ·rename_i s2 hf2
   refine hf hf2 hs1 hsz ?_
   intro e K' μ' a' w' ho ha hn2 hs2 hsz2
   simp only[Out] at ho
   subst ho
   have ha2:After K μ w n K' μ' w':=ha1.trans ha hn1
   exact ApE hf k K' μ' s2 a' w' h hs2 hsz2 (by omega) (hg.later ha2 (Nat.le_refl _))
  rename_i r hnot
  cases hr:f s1 with
  |none=>rw[hr] at h; simp at h
  |some r'=>
   obtain⟨x',s2⟩:=r'
   rw[hr] at h
   have hx':x'≠.normal:=by
    intro e; subst e
    exact hnot s2 hr
   simp only[sJ,pJ] at h
   obtain⟨rfl,rfl⟩:=h
   refine hf hr hs1 hsz ?_
   intro e K' μ' a' w' ho ha hn2 hs2 hsz2
   have ha2:After K μ w n K' μ' w':=ha1.trans ha hn1
   have hq:=hg e K' μ' a' w' ho ha2 (by omega) hs2 hsz2
   cases e with
   |normal=>cases x'<;>simp[Out] at ho; exact absurd rfl hx'
   |_=>exact hq
theorem AgS {h:List Nat} {n sz:Nat} {r:Option (AX×St)} {x:AX} {s':St} (hr:settle h n r=some (x,s')) :
  ∃s0,r=some (x,s0)/\∀{K:Col} {μ:Nat->Nat} {w:World} {Q:Exit->Act->World->Prop},AiI K μ w n sz x s' Q->AiI K μ w n sz x s0 Q:=by
 unfold settle at hr
 split at hr
 ·rename_i s0
  split at hr
  ·simp only[sJ,pJ] at hr
   obtain⟨rfl,rfl⟩:=hr
   exact⟨_,rfl,λh=>h⟩
  split at hr
  ·rename_i s1 hc
   simp only[sJ,pJ] at hr
   obtain⟨rfl,rfl⟩:=hr
   refine⟨_,rfl,λhg e K' μ' a' w' ho ha hn hs hsz=>?_⟩
   obtain⟨K1,μ1,g1,g2,h1,h2,_⟩:=hs.clean hc
   exact hg e K1 μ1 a' w' (by simp only[Out] at ho ⊢; exact ho) (ha.trans ⟨g1,g2⟩ (Nat.le_refl _)) h2 h1 hsz
  simp at hr
 exact⟨_,hr,λh=>h⟩
theorem AwO {id:Nat} {r:Option (AX×St)} {x:AX} {s':St} (hr:leaves id r=some (x,s')) :
  (x=.normal/\r=some (.exit id,s'))\/(r=some (x,s')/\x≠.exit id):=by
 unfold leaves at hr
 split at hr
 ·rename_i id' s0
  split at hr
  ·rename_i he
   simp only[sJ,pJ] at hr
   obtain⟨rfl,rfl⟩:=hr
   exact .inl ⟨rfl,by rw[he]⟩
  rename_i he
  simp only[sJ,pJ] at hr
  obtain⟨rfl,rfl⟩:=hr
  exact .inr ⟨rfl,by simpa using he⟩
 rename_i hno
 refine .inr ⟨hr,?_⟩
 rintro rfl
 exact hno _ _ hr
theorem iH {H:Nat->List Nat} {call:Call} {rounds sz:Nat} (hcall:yV P call) (hP:nS P) :
  ∀(c:Code) {K:Col} {μ:Nat->Nat} {w:World} {s:St} {a:Act} {x:AX} {s':St} {Q:Exit->Act->World->Prop},dF sz c=true->iG P H call rounds c s=some (x,s') ->
   Sim K μ s a w->a.tmps.size=sz->AiI K μ w s.nid sz x s' Q->c.wp P Q a w
 |.skip,K,μ,w,s,a,x,s',Q,_,h,hs,hsz,hg=>by
  simp only[iG,sJ,pJ] at h
  obtain⟨rfl,rfl⟩:=h
  exact wp_skip (hg _ K μ a w rfl (After.refl _ _ _ _) (Nat.le_refl _) hs hsz)
 |.label l,K,μ,w,s,a,x,s',Q,_,h,hs,hsz,hg=>by
  simp only[iG,sJ,pJ] at h
  obtain⟨rfl,rfl⟩:=h
  exact wp_label (hg _ K μ a w rfl (After.refl _ _ _ _) (Nat.le_refl _) hs hsz)
 |.ret,K,μ,w,s,a,x,s',Q,_,h,hs,hsz,hg=>by
  simp only[iG,sJ,pJ] at h
  obtain⟨rfl,rfl⟩:=h
  exact wp_ret (hg _ K μ a w rfl (After.refl _ _ _ _) (Nat.le_refl _) hs hsz)
 |.exit id,K,μ,w,s,a,x,s',Q,_,h,hs,hsz,hg=>by
  simp only[iG,sJ,pJ] at h
  obtain⟨rfl,rfl⟩:=h
  exact wp_exit (hg _ K μ a w rfl (After.refl _ _ _ _) (Nat.le_refl _) hs hsz)
 |.seq c d,K,μ,w,s,a,x,s',Q,hd,h,hs,hsz,hg=>by
  simp only[dF,Bool.and_eq_true] at hd
  simp only[iG] at h
  refine wp_seq ?_
  split at h
  ·rename_i s1 h1
   refine iH hcall hP c hd.1 h1 hs hsz ?_
   intro e K' μ' a' w' ho ha hn hs1 hsz1
   simp only[Out] at ho; subst ho
   exact iH hcall hP d hd.2 h hs1 hsz1 (hg.later ha hn)
  rename_i r hnot
  cases hr:iG P H call rounds c s with
  |none=>rw[hr] at h; simp at h
  |some r'=>
   obtain⟨x',s2⟩:=r'
   rw[hr] at h
   have hx':x'≠.normal:=by intro e; subst e; exact hnot s2 hr
   simp only[sJ,pJ] at h
   obtain⟨rfl,rfl⟩:=h
   refine iH hcall hP c hd.1 hr hs hsz ?_
   intro e K' μ' a' w' ho ha hn hs1 hsz1
   have hq:=hg e K' μ' a' w' ho ha hn hs1 hsz1
   cases e with
   |normal=>cases x'<;>simp[Out] at ho; exact absurd rfl hx'
   |_=>exact hq
 |.cond o c d,K,μ,w,s,a,x,s',Q,hd,h,hs,hsz,hg=>by
  simp only[dF,Bool.and_eq_true] at hd
  simp only[iG] at h
  split at h
  ·rename_i ho
   have hr:=cQ hs ho
   simp only[RepV,RepC,Rep] at hr
   obtain⟨s0,h0,hgo⟩:=AgS (sz:=sz) h
   exact wp_cond_true hr (iH hcall hP c hd.1 h0 hs hsz (hgo hg))
  ·rename_i ho
   have hr:=cQ hs ho
   simp only[RepV,RepC,Rep] at hr
   obtain⟨s0,h0,hgo⟩:=AgS (sz:=sz) h
   exact wp_cond_false hr (iH hcall hP d hd.2 h0 hs hsz (hgo hg))
  simp at h
 |.block id c,K,μ,w,s,a,x,s',Q,hd,h,hs,hsz,hg=>by
  simp only[dF] at hd
  simp only[iG] at h
  obtain⟨s0,h0,hgo⟩:=AgS (sz:=sz) h
  replace hg:=hgo hg
  refine wp_block ?_
  rcases AwO h0 with ⟨rfl,h1⟩|⟨h1,hne⟩
  ·refine iH hcall hP c hd h1 hs hsz ?_
   intro e K' μ' a' w' ho ha hn hs1 hsz1
   simp only[Out] at ho; subst ho
   simp only[Exit.inBlock,if_true]
   exact hg _ K' μ' a' w' rfl ha hn hs1 hsz1
  refine iH hcall hP c hd h1 hs hsz ?_
  intro e K' μ' a' w' ho ha hn hs1 hsz1
  have hq:=hg e K' μ' a' w' ho ha hn hs1 hsz1
  cases e with
  |exit id'=>
   cases x<;>simp[Out] at ho
   subst ho
   simp only[Exit.inBlock]
   rw[if_neg (by intro e; exact hne (by rw[e]))]
   exact hq
  |_=>exact hq
 |.scope c,K,μ,w,s,a,x,s',Q,hd,h,hs,hsz,hg=>by
  simp only[dF] at hd
  simp only[iG] at h
  refine wp_scope_straight ?_
  refine iH hcall hP c hd h hs hsz ?_
  intro e K' μ' a' w' ho ha hn hs1 hsz1
  have hq:=hg e K' μ' a' w' ho ha hn hs1 hsz1
  cases e with
  |goto l=>cases x<;>simp[Out] at ho
  |_=>exact hq
 |.loop c,K,μ,w,s,a,x,s',Q,hd,h,hs,hsz,hg=>by
  simp only[dF] at hd
  simp only[iG] at h
  exact wp_loop_rounds rounds (ApE (λh1 h2 h3 h4=>iH hcall hP c hd h1 h2 h3 h4) rounds K μ s a w h hs hsz (Nat.le_refl _) hg)
 |.region id ops draw,K,μ,w,s,a,x,s',Q,hd,h,hs,hsz,hg=>by
  simp only[dF,List.all_eq_true] at hd
  have hd':∀o∈ops.toList,∀t,o.dst=some t->t<sz:=by
   intro o ho t ht
   have:=hd o ho
   rw[ht] at this
   simpa using this
  simp only[iG] at h
  split at h
  ·simp at h
  rename_i s0 hfz
  obtain⟨K0,hst0,hn0,_,hs0⟩:=AlK hs hfz
  have hg0:AiI K0 μ w s0.nid sz x s' Q:=hg.later ⟨hst0,λ_ _=>rfl⟩ hn0
  have hk:=hs0.keep (H id)
  split at h
  ·cases draw with
   |true=>
    simp only[if_true] at h
    exact AoG hcall.o hP hP.mixed hd' h hk hsz hg0
   |false=>
    simp only[fJ,if_false] at h
    refine wp_region ?_
    have:=zX hcall hP hd' ops.toList 0 K0 μ _ a w (by simp) h hk hsz hg0
    rw[List.range_eq_range']
    simpa using this
  cases draw with
  |true=>
   simp only[if_true] at h
   split at h
   ·exact AoG hcall.o hP hP.mixed hd' h hk hsz hg0
   exact AqR hcall.o hP hd' h hk hsz hg0 _
  |false=>
   simp only[fJ,if_false] at h
   split at h
   ·rename_i x1 s1 fs hev
    simp only[sJ,pJ] at h
    obtain⟨rfl,rfl⟩:=h
    refine wp_region ?_
    have:=AfS hcall.o hP hd' ops.toList 0 K0 μ _ a w [] (by simp) hev hk hsz hg0
    rw[List.range_eq_range']
    simpa using this
   simp at h
 |.rangeFunc _ _ _ _,K,μ,w,s,a,x,s',Q,_,h,_,_,_=>by simp[iG] at h
 |.goto _,K,μ,w,s,a,x,s',Q,_,h,_,_,_=>by simp[iG] at h
 |.refuse _,K,μ,w,s,a,x,s',Q,_,h,_,_,_=>by simp[iG] at h
end
end Go.AM
namespace Go.AM
open Go
variable [cM]
theorem gP {n m:Nat} (h:n<=m):∀c:Code,dF n c=true->dF m c=true
 |.region _ ops _,hd=>by
  simp only[dF,List.all_eq_true] at hd ⊢
  intro o ho
  have:=hd o ho
  cases hdst:o.dst with
  |none=>rfl
  |some d=>
   rw[hdst] at this
   simp only[decide_eq_true_eq] at this ⊢
   exact Nat.lt_of_lt_of_le this h
 |.seq a b,hd=>by
  simp only[dF,Bool.and_eq_true] at hd ⊢
  exact⟨gP h a hd.1,gP h b hd.2⟩
 |.cond _ a b,hd=>by
  simp only[dF,Bool.and_eq_true] at hd ⊢
  exact⟨gP h a hd.1,gP h b hd.2⟩
 |.block _ c,hd=>by simp only[dF] at hd ⊢; exact gP h c hd
 |.loop c,hd=>by simp only[dF] at hd ⊢; exact gP h c hd
 |.scope c,hd=>by simp only[dF] at hd ⊢; exact gP h c hd
 |.skip,_|.label _,_|.ret,_|.exit _,_|.goto _,_|.refuse _,_=>rfl
 |.rangeFunc _ _ _ _,_=>rfl
theorem Ae4 {α:Type}:∀{l:List α} {n k:Nat},look k (nJ n l)=if n<=k then l[k-n]? else none
 | [],n,k=>by simp[nJ,look]
 |x::l,n,k=>by
  simp only[nJ,look]
  by_cases h:n=k
  ·subst h; simp
  rw[if_neg h,Ae4]
  by_cases h1:n<=k
  ·rw[if_pos (by omega),if_pos h1,show k-n=(k-(n+1))+1 from by omega]; simp
  rw[if_neg (by omega),if_neg h1]
def AcU (tmps:Array Value):ResultVar->Sem Value
 |.tmp t=>pure (tmps.getD t Go.undef)
 |.cell p t=>do loadVar t (←asAddr (tmps.getD p Go.undef))
theorem ApS (fn:Func) (tmps:Array Value):results fn tmps=(do
  let vs ←fn.results.mapM (AcU tmps)
  pure (if h:vs.size=1 then vs[0] else .tuple vs)):=by
 unfold results
 congr 2
section
variable {P:Program} {K K':Col} {μ μ':Nat->Nat} {w w':World} {s:St} {a:Act}
theorem BeK (hs:Sim K μ s a w) {r:ResultVar} {c:C} (h:BeJ P s r=some c) :
  ∃u,(AcU a.tmps r).run P w=.ok u w/\RepC K μ w c u /\
   (∀b∈c.ids,b<s.nid)/\∀sz xs,c≠.own sz xs:=by
 cases r with
 |tmp t=>
  simp only[BeJ,Option.map_eq_some_iff,Option.bind_eq_some_iff] at h
  obtain⟨c',⟨v,hv,hc⟩,rfl⟩:=h
  obtain⟨_,hr⟩:=hs.tm t v hv
  exact⟨_,rfl,C.still_rep (AjI hr hc).1,λb hb=>hs.tids t v hv b (Ao3 hc b (by rw[C.still_ids] at hb; exact hb)),by intro sz xs; cases c'<;>simp[C.still]⟩
 |cell p t=>
  simp only[BeJ] at h
  split at h
  ·rename_i b off hp
   have hpr:=(hs.tm p _ hp).2
   simp only[RepV,RepC] at hpr
   split at h
   ·rename_i cs hb0
    obtain⟨cs0,hb,hbm,rfl⟩:=xJ hb0
    obtain⟨vs,hrv,hcv⟩:=(hs.heap b cs0 hb).2.2.vals hbm
    split at h
    ·rename_i n ht hn
     split at h
     ·rename_i hle
      simp only[Option.map_eq_some_iff] at h
      obtain⟨ds,hds,rfl⟩:=h
      have hnh:∀i,i<n->(eZ cs0)[off+i]?≠some .hid:=by
       intro i hi e
       have hm:C.hid∈((eZ cs0).drop off).take n:=by
        refine List.mem_of_getElem? (i:=i) ?_
        rw[List.getElem?_take,if_pos hi,qT]; exact e
       exact Ar2 hds _ hm rfl
      have hl:=AbU (P:=P) (w:=w) ht hn (μ b) off ((vs.drop off).take n) (by have:=hrv.length; simp; omega)
       (λi v hv=>by
        rw[List.getElem?_take] at hv
        split at hv
        ·rename_i hin; rw[qT] at hv; exact (hcv _ v hv (hnh i hin)).1
        simp at hv)
      refine⟨_,by simp only[AcU,hpr,asAddr,Sem.run_bind,Sem.run_pure,Result.andThen_ok]; exact hl,?_,by simp[C.ids],by simp⟩
      simp only[RepC,Rep]
      refine⟨_,rfl,AaD hds ((hrv.drop off).take n) ?_⟩
      intro u hu
      obtain⟨i,hi⟩:=List.getElem?_of_mem hu
      rw[List.getElem?_take] at hi
      split at hi
      ·rename_i hin; rw[qT] at hi; exact (hcv _ u hi (hnh i hin)).2.1
      simp at hi
     simp at h
    ·rename_i ht
     simp only[Option.bind_eq_some_iff] at h
     obtain⟨c',hc',htold⟩:=h
     obtain⟨hch,rfl⟩:c'≠.hid/\c'.still=c:=by
      cases c'<;>simp only[C.told,reduceCtorEq,sJ] at htold<;>exact⟨by simp,htold⟩
     obtain⟨v,hv1,hv2⟩:=hrv.get hc'
     refine⟨v,by simp only[AcU,hpr,asAddr,Sem.run_bind,Sem.run_pure,Result.andThen_ok]; exact yL ht _ _ _ (hcv off v hv1 (by rw[hc']; simpa using hch)).1,C.still_rep hv2,?_,by intro sz xs; cases c'<;>simp[C.still]⟩
     intro i hi
     rw[C.still_ids] at hi
     exact hs.flat_ids hb (List.mem_of_getElem? hc') i hi
    simp at h
   simp at h
  simp at h
theorem AeD (hs:Sim K μ s a w):∀{rs:List ResultVar} {cs:List C},aY (BeJ P s) rs=some cs ->
  ∃us,(rs.mapM (AcU a.tmps)).run P w=.ok us w /\
   bA K μ w cs us/\(∀c∈cs,(∀b∈c.ids,b<s.nid)/\∀sz xs,c≠.own sz xs)
 | [],cs,h=>by
  simp only[aY,sJ] at h; subst h
  exact⟨[],by simp,.nil,by simp⟩
 |r::rs,cs,h=>by
  simp only[aY] at h
  split at h
  ·rename_i c cs' hc hcs
   simp only[sJ] at h; subst h
   obtain⟨u,h1,h2,h3,h4⟩:=BeK hs hc
   obtain⟨us,h5,h6,h7⟩:=AeD hs hcs
   refine⟨u::us,?_,.cons h2 h6,?_⟩
   ·simp only[List.mapM_cons,Sem.run_bind,h1,Result.andThen_ok,h5,Sem.run_pure]
   intro x hx
   rcases List.mem_cons.1 hx with rfl|hx
   ·exact⟨h3,h4⟩
   exact h7 x hx
  simp at h
theorem AxD {fn:Func} {r:ResultVar} {tmps:Array Value} {u:Value} (hr:fn.results=#[r]) (h:(AcU tmps r).run P w=.ok u w):(results fn tmps).run P w=.ok u w:=by
 rw[ApS,Sem.run_bind,Array.mapM_eq_mapM_toList,Sem.run_map,hr]
 have:(List.mapM (AcU tmps) [r]).run P w=.ok [u] w:=by
  simp only[List.mapM_cons,List.mapM_nil,Sem.run_bind,h,Result.andThen_ok,Sem.run_pure]
 rw[show (#[r]:Array ResultVar).toList=[r] from rfl,this]
 rfl
theorem BeL (hs:Sim K μ s a w) {fn:Func} {v:V} (h:BgQ P s fn.results.toList=some v) :
  ∃u,(results fn a.tmps).run P w=.ok u w/\RepV K μ w v u/\(∀b∈v.ids,b<s.nid)/\mR v:=by
 unfold BgQ at h
 have harr:∀us:List Value,(fn.results.toList.mapM (AcU a.tmps)).run P w=.ok us w ->
   (results fn a.tmps).run P w=.ok (if h:us.toArray.size=1 then us.toArray[0] else .tuple us.toArray) w:=by
  intro us hu
  rw[ApS,Sem.run_bind,Array.mapM_eq_mapM_toList,Sem.run_map,hu]
  rfl
 split at h
 ·rename_i c hm
  simp only[sJ] at h; subst h
  obtain⟨us,h1,h2,h3⟩:=AeD hs hm
  cases h2 with
  |cons hc hn=>
   cases hn with
   |nil=>
    rename_i u
    refine⟨u,?_,hc,?_,?_⟩
    ·rw[harr _ h1]; rfl
    ·exact (h3 c (by simp)).1
    refine⟨λsz xs e=>?_,by simp⟩
    simp only[V.c.injEq] at e
    exact (h3 c (by simp)).2 sz xs e
 ·rename_i cs hno hm
  simp only[sJ] at h; subst h
  obtain⟨us,h1,h2,h3⟩:=AeD hs hm
  have hl:us.toArray.size≠1:=by
   intro e
   have h4:=h2.length
   have h5:cs.length=1:=by simpa[h4] using e
   match cs,h5 with
   | [c],_=>exact hno c rfl
  refine⟨.tuple us.toArray,?_,⟨us,rfl,h2⟩,?_,by simp[mR]⟩
  ·rw[harr _ h1]
   rw[dif_neg hl]
  intro b hb
  simp only[V.ids,List.mem_flatMap] at hb
  obtain⟨c,hc,hb⟩:=hb
  exact (h3 c hc).1 b hb
 simp at h
theorem Ax1 (hs:Sim K μ s a w) {n:Nat} {extra ids:List Nat} {lh':List (List C)} (h:AeB s.heap n extra=some (ids,lh')) :
  AjC (λb o=>gY ids (K b o)) (λi=>μ (ids.getD i 0)) w lh'/\lh'.length=ids.length/\(∃r,ids=bC 0 n++r):=by
 unfold AeB at h
 split at h
 ·simp at h
 split at h
 ·simp at h
 rename_i ids' hr
 split at h
 ·rename_i lh hlh
  simp only[sJ,pJ] at h
  obtain⟨rfl,rfl⟩:=h
  obtain⟨h1,h2,h3⟩:=AbA hr (AcN 0 n)
  obtain⟨h4,h5⟩:=As2 hs h1 hlh
  exact⟨h4,h5,h2⟩
 simp at h
theorem V.into_rep {ids:List Nat} (hK:∀b o,K b o=.ro->K' b o=.ro) (hμ:∀i b,ids[i]?=some b->μ' i=μ b) {c c':V} {v:Value} (hc:V.into ids c=some c') (h:RepV K μ w c v)
  (hp:mR c):RepV K' μ' w c' v/\(∀b∈c'.ids,b<ids.length)/\mR c':=by
 have many:∀{cs cs':List C} {vs:List Value},aY (C.into ids) cs=some cs'->bA K μ w cs vs->bA K' μ' w cs' vs/\∀c∈cs',∀b∈c.ids,b<ids.length:=by
  intro cs cs' vs hm hr
  refine⟨hr.mapM hm λc c' v h1 h2=>(AM.into_rep hK hμ h1 h2).1,?_⟩
  intro c' hc' b hb
  obtain⟨i,hi⟩:=List.getElem?_of_mem hc'
  obtain⟨c,hci,hcc⟩:=gK hm hi
  obtain⟨u,_,hru⟩:=hr.get hci
  exact (AM.into_rep hK hμ hcc hru).2.1 b hb
 cases c with
 |c x=>
  simp only[V.into,Option.map_eq_some_iff] at hc
  obtain⟨x',hx,rfl⟩:=hc
  obtain⟨h1,h2,h3⟩:=AM.into_rep (μ':=μ') hK hμ hx h
  refine⟨h1,h2,?_,by simp⟩
  intro sz xs e
  simp only[V.c.injEq] at e
  exact hp.1 sz xs (by rw[(h3 sz xs).1 e])
 |view l sz xs=>exact absurd rfl (hp.2 l sz xs)
 |rptr cs=>
  simp only[V.into,sJ] at hc; subst hc
  obtain⟨blk,off,vs,h1,h2,h3⟩:=h
  exact⟨⟨blk,off,vs,h1,λi u hu=>⟨hK _ _ (h2 i u hu).1,(h2 i u hu).2⟩,dE.recolor hK _ _ h3⟩,by simp[V.ids],hp⟩
 |vagg cs=>
  simp only[V.into,Option.map_eq_some_iff] at hc
  obtain⟨cs',hm,rfl⟩:=hc
  obtain⟨vs,h1,h2,h3⟩:=h
  obtain⟨q1,q2⟩:=many hm h2
  refine⟨⟨vs,h1,q1,h3⟩,?_,by simp[mR]⟩
  intro b hb
  simp only[V.ids,List.mem_flatMap] at hb
  obtain⟨c,hc,hb⟩:=hb
  exact q2 c hc b hb
 |tuple cs=>
  simp only[V.into,Option.map_eq_some_iff] at hc
  obtain⟨cs',hm,rfl⟩:=hc
  obtain⟨vs,h1,h2⟩:=h
  obtain⟨q1,q2⟩:=many hm h2
  refine⟨⟨vs,h1,q1⟩,?_,by simp[mR]⟩
  intro b hb
  simp only[V.ids,List.mem_flatMap] at hb
  obtain⟨c,hc,hb⟩:=hb
  exact q2 c hc b hb
theorem AlW {args:List C} {lh:List (List C)} {vs:List Value} {n:Nat} (hr:bA K μ w args vs) (hi:∀c∈args,∀b∈c.ids,b<lh.length) (hh:AjC K μ w lh) (hb:rO K w) (hgl:AjB K w) :
  Sim K μ { tmps:=nJ 0 (args.map λc=>V.c c.plain),heap:=nJ 0 lh,nid:=lh.length,defers:=[],pan:=none }
   { tmps:=vs.toArray++Array.replicate n Go.undef,defers:=[] } w:=by
 have back:∀{t:Nat} {v:V},look t (nJ 0 (args.map λc=>V.c c.plain))=some v->∃c,args[t]?=some c/\v=.c c.plain:=by
  intro t v h
  rw[Ae4,if_pos (by omega)] at h
  simp only[Nat.sub_zero,List.getElem?_map,Option.map_eq_some_iff] at h
  obtain⟨c,h1,rfl⟩:=h
  exact⟨c,h1,rfl⟩
 refine⟨?_,?_,?_,?_,?_,hb,rfl,by simp,hgl⟩
 ·intro t v ht
  obtain⟨c,h1,rfl⟩:=back ht
  obtain⟨u,h2,h3⟩:=hr.get h1
  have hlt:=(List.getElem?_eq_some_iff.1 h2).1
  refine⟨by simp; omega,?_⟩
  have:(vs.toArray++Array.replicate n Go.undef).getD t Go.undef=u:=by
   simp only[Array.getD_eq_getD_getElem?]
   rw[Array.getElem?_append_left (by simpa using hlt)]
   simp[h2]
  rw[this]
  exact C.plain_rep h3
 ·intro t v ht b hb'
  obtain⟨c,h1,rfl⟩:=back ht
  simp only[V.ids,C.plain_ids] at hb'
  exact hi c (List.mem_of_getElem? h1) b hb'
 ·intro t sz xs ht
  obtain⟨c,_,e⟩:=back ht
  cases c<;>simp[C.plain] at e
 ·intro t l sz xs ht
  obtain⟨c,_,e⟩:=back ht
  simp at e
 intro b cells hc
 rw[show (St.heap { tmps:=nJ 0 (args.map λc=>V.c c.plain),heap:=nJ 0 lh,nid:=lh.length,defers:=[],pan:=none })=nJ 0 lh from rfl,Ae4,if_pos (by omega),Nat.sub_zero] at hc
 obtain⟨h1,h2⟩:=hh b cells hc
 exact⟨(List.getElem?_eq_some_iff.1 hc).1,h1,h2⟩
def EndOK (K:Col) (μ:Nat->Nat) (w:World) (n:Nat) (r:aE) (e:Ending) (w':World):Prop:=
 ∃K' μ',Step iL K w K' w'/\rO K' w'/\(∀i,i<n->μ' i=μ i) /\
  match r with
  |.ret v lh'=>n<=lh'.length/\AjC K' μ' w' lh'/\mR v/\(∀b∈v.ids,b<lh'.length)/\∃u,e=.returned u/\RepV K' μ' w' v u
  |.pan d lh'=>lh'.length=n/\AjC K' μ' w' lh'/\∃u,e=.panicked [⟨u,false,false⟩]/\Rep K' w' d u
theorem AuB {n:Nat} {s':St} {a':Act} {extra ids:List Nat} {lh':List (List C)} (ha:After K μ w n K' μ' w') (hs':Sim K' μ' s' a' w')
  (ho:AeB s'.heap n extra=some (ids,lh')) :
  Step iL K w (λb o=>gY ids (K' b o)) w'/\rO (λb o=>gY ids (K' b o)) w'/\(∀i,i<n->μ' (ids.getD i 0)=μ i)/\n<=lh'.length /\
   AjC (λb o=>gY ids (K' b o)) (λi=>μ' (ids.getD i 0)) w' lh'/\lh'.length=ids.length:=by
 obtain⟨q1,q2,r',q3⟩:=Ax1 hs' ho
 refine⟨⟨ha.step.os,ha.step.tape,ha.step.output,ha.step.size,ha.step.block,λb o hb' hn=>?_,ha.step.ex⟩,λb o hb'=>by simp only[hs'.bound b o hb']; rfl,?_,?_,q1,q2⟩
 ·have hc:=ha.step.cell b o hb' hn
  refine⟨hc.1,hc.2.1,?_⟩
  simp only[hc.2.2]
  have:K b o=.ro\/K b o=.other:=by
   by_cases h1:K b o=.ro
   ·exact .inl h1
   by_cases h2:K b o=.other
   ·exact .inr h2
   exact absurd ⟨h1,h2⟩ hn
  rcases this with h1|h1<;>rw[h1]<;>rfl
 ·intro i hi'
  have hgd:ids.getD i 0=i:=by
   rw[q3]
   simp only[List.getD,List.getElem?_append_left (show i<(bC 0 n).length by rw[wD]; exact hi'),AmO hi']
   simp
  rw[hgd,ha.mu i hi']
 rw[q2,q3,List.length_append,wD]; omega
theorem Ak3 {n:Nat} {s':St} {a':Act} {fn:Func} {r:aE} (ha:After K μ w n K' μ' w') (hs':Sim K' μ' s' a' w') (h:tI P fn n s'=some r) :
  ∃u,(results fn a'.tmps).run P w'=.ok u w'/\EndOK K μ w n r (.returned u) w'/\∃v lh,r=.ret v lh:=by
 unfold tI at h
 split at h
 ·simp at h
 rename_i s1 hfz
 obtain⟨K1,hst1,hn1,hd1,hs1⟩:=zU hs' hfz
 have ha:=ha.trans (m:=n) ⟨hst1,λ_ _=>rfl⟩ (Nat.le_refl _)
 clear hs'
 have hs':=hs1
 split at h
 ·rename_i v hv
  split at h
  ·rename_i ids lh' hob
   split at h
   ·rename_i v' hv'
    simp only[sJ] at h; subst h
    obtain⟨u,hu,hru,hvi,hpl⟩:=BeL hs' hv
    obtain⟨g1,g2,g3,g4,g5,g6⟩:=AuB ha hs' hob
    obtain⟨k1,k2,k3⟩:=V.into_rep (K':=λb o=>gY ids (K1 b o)) (μ':=λi=>μ' (ids.getD i 0)) (λb o h=>by rw[h]; rfl)
     (λi b h=>by simp[List.getD,h]) hv' hru hpl
    exact⟨u,hu,⟨_,_,g1,g2,g3,g4,g5,k3,by rw[g6]; exact k2,u,rfl,k1⟩,v',lh',rfl⟩
   simp at h
  simp at h
 simp at h
theorem AtI {n:Nat} {s':St} {a':Act} {d:D} {u:Value} {r:aE} (ha:After K μ w n K' μ' w') (hs':Sim K' μ' s' a' w') (hu:Rep K' w' d u) (h:AlB d n s'=some r) :
  EndOK K μ w n r (.panicked [⟨u,false,false⟩]) w':=by
 unfold AlB at h
 split at h
 ·rename_i ids lh' hob
  split at h
  ·rename_i hl
   simp only[sJ] at h; subst h
   obtain⟨g1,g2,g3,g4,g5,g6⟩:=AuB ha hs' hob
   exact⟨_,_,g1,g2,g3,by rw[g6]; exact hl,g5,u,rfl,Rep.recolor (λb o h=>by rw[h]; rfl) _ _ hu⟩
  simp at h
 simp at h
theorem Sim.defs_nil (hs:Sim K μ s a w):Sim K μ { s with defers:=[] } { a with defers:=[] } w:=
 ⟨hs.tm,hs.tids,hs.own,hs.view,hs.heap,hs.bound,rfl,by simp,hs.glob⟩
def Ab5:Option D->Value->FrameMode
 |none,_=>.returning
 |some _,u=>.panicking [⟨u,false,false⟩]
def AsB:Option D->Value->FrameMode
 |none,_=>.returning
 |some _,u=>.panicking [⟨u,true,false⟩]
def BfG (P:Program) (pan:Option D) (f:Nat) (args:List C) (lh:List (List C)) (r:aE):Prop:=
 ∀K μ w vs pu,bA K μ w args vs->(∀c∈args,∀b∈c.ids,b<lh.length)->AjC K μ w lh->rO K w->AjB K w->(∀d,pan=some d->Rep K w d pu) ->
  CallsD P f vs.toArray (Ab5 pan pu) w λe m w'=>EndOK K μ w lh.length r e w'/\m=(if AiC P f then AsB pan pu else Ab5 pan pu)/\∃u,e=.returned u
theorem AmV {o:Oper} (h:BaG o=true):(execOp a.eval o).run P w=.ok .recover w/\o.guard=none:=by
 unfold BaG at h
 split at h
 ·rename_i c ho hg
  split at h
  ·rename_i hc
   refine⟨?_,hg⟩
   simp[execOp,ho,resolve,hc,invoke,builtin]
  simp at h
 simp at h
theorem At2 (hP:nS P) (H:Nat->Nat->List Nat) {call:Call} (ih:yV P call) (k:Nat) (pan:Option D) {f:Nat} {args:List C} {lh:List (List C)} {r:aE} (h:AnW P H call k pan f args lh=some r) :
  Callee P f/\BfG P pan f args lh r:=by
 unfold AnW at h
 split at h
 ·rename_i fn hfn
  split at h
  ·rename_i code hcode
   split at h
   ·rename_i hlen
    refine⟨⟨fn,hfn,by rw[hcode]; rfl⟩,?_⟩
    intro K μ w vs pu hr hi hh hb hgl hpu
    have hfo:=hP.func f fn hfn
    simp only[AiV,hcode,Bool.and_eq_true] at hfo
    have hsim:=AlW (n:=fn.ntmps-vs.toArray.size) hr hi hh hb hgl
    have hdb:=gP (m:=(vs.toArray++Array.replicate (fn.ntmps-vs.toArray.size) Go.undef).size) (by simp; omega) code hfo.2
    have hrec:AiC P f=Bc7 code:=by simp only[AiC,hfn,hcode]
    have done:∀{x:AX} {s':St} {e:Exit} {K':Col} {μ':Nat->Nat} {a':Act} {w':World},(match x with|.normal|.ret=>if s'.defers.isEmpty then tI P fn lh.length s' else none|_=>none)=some r->Out K' w' x e->After K μ w lh.length K' μ' w' ->
      Sim K' μ' s' a' w'->(e=.normal\/e=.ret)/\a'.defers=[]/\∃u,(results fn a'.tmps).run P w'=.ok u w'/\EndOK K μ w lh.length r (.returned u) w':=by
     intro x s' e K' μ' a' w' hx ho ha hs'
     have key:∀{o:Option aE},(if s'.defers.isEmpty then tI P fn lh.length s' else none)=o->o=some r->a'.defers=[]/\∃u,(results fn a'.tmps).run P w'=.ok u w'/\EndOK K μ w lh.length r (.returned u) w':=by
      intro o h1 h2
      subst h2
      split at h1
      ·rename_i hd
       obtain⟨u,hu,hE,_⟩:=Ak3 ha hs' h1
       exact⟨by rw[hs'.defs,List.isEmpty_iff.1 hd]; rfl,u,hu,hE⟩
      simp at h1
     cases x with
     |normal=>exact⟨.inl ho,key rfl hx⟩
     |ret=>exact⟨.inr ho,key rfl hx⟩
     |exit id=>simp at hx
     |pan d=>simp at hx
    have h':∃x s',Ay4 P (H f) call k pan code (zW args lh)=some (x,s')/\(match x with|.normal|.ret=>if s'.defers.isEmpty then tI P fn lh.length s' else none|_=>none)=some r:=by
     split at h
     ·rename_i s' he; exact⟨_,s',he,h⟩
     ·rename_i s' he; exact⟨_,s',he,h⟩
     simp at h
    obtain⟨x,s',hex,hx⟩:=h'
    unfold Ay4 at hex
    split at hex
    ·rename_i hrc
     refine (callsD_of_wp (R:=λe w'=>EndOK K μ w lh.length r e w'/\∃u,e=.returned u) hfn hcode (iH ih hP code hdb hex hsim rfl ?_)).mono ?_
     ·intro e K' μ' a' w' ho ha hn hs' hsz
      obtain⟨he,hd,u,hu,hE⟩:=done hx ho ha hs'
      rcases he with rfl|rfl
      ·exact⟨hd,u,hu,hE,u,rfl⟩
      exact⟨hd,u,hu,hE,u,rfl⟩
     rintro e u' w' ⟨rfl,hE,hu⟩
     exact⟨hE,by rw[hrec,hrc]; rfl,hu⟩
    rename_i hrc
    split at hex
    ·rename_i id ops b
     split at hex
     ·rename_i o o1 hops
      have hdops:∀q∈ops.toList,∀t,q.dst=some t->t<(vs.toArray++Array.replicate (fn.ntmps-vs.toArray.size) Go.undef).size:=by
       intro q hq t ht
       simp only[dF,Bool.and_eq_true,List.all_eq_true] at hdb
       have:=hdb.1 q hq
       rw[ht] at this
       simpa using this
      have hdbb:dF (vs.toArray++Array.replicate (fn.ntmps-vs.toArray.size) Go.undef).size b=true:=by
       simp only[dF,Bool.and_eq_true] at hdb
       exact hdb.2
      simp only[Bc7,hops] at hrc
      obtain⟨hr0,d,hd0,ha1,hg1⟩:BaG o=true/\∃d,o.dst=some d/\o1.op=.assign (.tmp d)/\o1.guard=none:=by
       revert hrc
       simp only[Bool.and_eq_true]
       rintro⟨h1,h2⟩
       refine⟨h1,?_⟩
       split at h2
       ·rename_i d x e1 e2 e3
        simp only[beq_iff_eq] at h2
        subst h2
        exact⟨_,e1,e2,e3⟩
       simp at h2
      refine callsD_of_wpS hfn hcode ?_
      generalize hA0:({ tmps:=vs.toArray++Array.replicate (fn.ntmps-vs.toArray.size) Go.undef,defers:=[] }:Act)=a0 at hsim ⊢
      have hsz0:a0.tmps.size=(vs.toArray++Array.replicate (fn.ntmps-vs.toArray.size) Go.undef).size:=by rw[←hA0]
      rw[←hsz0] at hdbb hdops
      intro c₀ cs hc0
      refine wpS_seq (wpS_region ?_)
      have h0:ops[0]?=some o:=by rw[←Array.getElem?_toList,hops]; rfl
      have h1:ops[1]?=some o1:=by rw[←Array.getElem?_toList,hops]; rfl
      have hsize:ops.size=2:=by rw[←Array.length_toList,hops]; rfl
      rw[hsize,show List.range 2=[0,1] from rfl]
      simp only[wpOpsS,h0,h1]
      have wanted:∀{q:Oper} {t:Array Value},q.guard=none->Region.wanted q (yielded ops t)=true:=by
       intro q t hq
       simp[Region.wanted,hq]
      rw[wanted (AmV (a:={ tmps:=#[],defers:=[] }) (P:=P) (w:=w) hr0).2]
      simp only[if_true]
      rw[(AmV hr0).1]
      simp only
      have hdl:d<a0.tmps.size:=hdops o (by rw[hops]; simp) d hd0
      have hrun1:∀v,(execOp (Act.put a0 o.dst v).eval o1).run P w=.ok (.value v) w:=by
       intro v
       have:(Act.put a0 o.dst v).eval (.tmp d)=v:=by
        rw[hd0]
        show (Act.put a0 (some d) v).tmps.getD d Go.undef=v
        rw[AfX,if_pos ⟨rfl,hdl⟩]
       simp[execOp,ha1,this]
      have fin:∀(v:Value) (cs':List Frame),RepV K μ w (Az3 pan) v->(∃u',cs'={ c₀ with mode:=u' }::cs/\u'=AsB pan pu) ->
        b.wpS P (bodyPostS P fn c₀ cs λe m w'=>EndOK K μ w lh.length r e w'/\m=(if AiC P f then AsB pan pu else Ab5 pan pu)/\∃u,e=.returned u) ((Act.put a0 o.dst v).put o1.dst v) cs' w:=by
       intro v cs' hv hcs
       refine wpS_of_wp ?_
       have hs0:=hsim.keep (H f id)
       have hgood:∀{K:Col} {μ:Nat->Nat} {s:St} {a:Act} {w:World} {dst:Option Nat},RepV K μ w (Az3 pan) v->Good K μ s a w dst (Az3 pan) v:=by
        intro K μ s a w dst hv
        refine⟨hv,?_,?_,?_⟩<;>cases pan<;>simp[Az3,Go.AM.V.ids,C.ids]
       have hs1:=hs0.put (dst:=o.dst) (hdops o (by rw[hops]; simp)) (hgood hv)
       have hs2:=hs1.put (dst:=o1.dst) (by rw[lW]; exact hdops o1 (by rw[hops]; simp)) (hgood hv)
       have hnid:∀(q:Oper) (V:V) (s:St),(putDst q V s).nid=s.nid:=by intro q V s; unfold putDst lV; cases q.dst<;>rfl
       refine iH ih hP b (by rw[lW,lW]; exact hdbb) hex hs2 rfl ?_
       intro e K' μ' a' w' ho ha hn hs' hsz
       have hnid2:∀(dst:Option Nat) (V:V) (s:St),(lV dst V s).nid=s.nid:=by intro dst V s; cases dst<;>rfl
       simp only[hnid,hnid2] at ha
       obtain⟨he,hd,u,hu,hE⟩:=done hx ho ha hs'
       obtain⟨u',hcs,hu'⟩:=hcs
       have hm:u'=(if AiC P f then AsB pan pu else Ab5 pan pu):=by
        rw[hrec,show Bc7 (.seq (.region id ops false) b)=true from by simp only[Bc7,hops]; exact hrc]; exact hu'
       rcases he with rfl|rfl
       ·exact⟨hd,u',hcs,u,hu,hE,hm,u,rfl⟩
       exact⟨hd,u',hcs,u,hu,hE,hm,u,rfl⟩
      cases pan with
      |none=>
       have e:({ c₀ with mode:=.returning }:Frame)=c₀:=by cases c₀; simp only[Ab5] at hc0; simp only[hc0]
       have:recoverD (c₀::cs)=none:=by simp only[recoverD,hc0,Ab5]
       rw[this]
       simp only[wanted hg1,if_true,hrun1,Oper.upon_value]
       exact fin .nilIface (c₀::cs) (by simp[Az3,RepV,RepC,Rep]) ⟨.returning,by rw[e],rfl⟩
      |some d'=>
       have:recoverD (c₀::cs)=some (pu,{ c₀ with mode:=.panicking [⟨pu,true,false⟩] }::cs):=by simp only[recoverD,hc0,Ab5]
       rw[this]
       simp only[wanted hg1,if_true,hrun1,Oper.upon_value]
       exact fin pu _ (show Rep K w d' pu from hpu d' rfl) ⟨.panicking [⟨pu,true,false⟩],rfl,rfl⟩
     simp at hex
    simp at hex
   simp at h
  simp at h
 simp at h
theorem AqF (hP:nS P) (H:Nat->Nat->List Nat) {call:Call} (ih:yV P call) (k:Nat) (pan:Option D) {f:Nat} {args:List C} {r:gA} {ids:List Nat} (h:lY (AnW P H call k pan) f args s=some (r,ids)) (hs:Sim K μ s a w)
  {vs:List Value} (hargs:bA K μ w args vs) {pu:Value} (hpu:∀d,pan=some d->Rep K w d pu) :
  Callee P f/\CallsD P f vs.toArray (Ab5 pan pu) w λe m w'=>m=(if AiC P f then AsB pan pu else Ab5 pan pu)/\∃K' μ',After K μ w s.nid K' μ' w'/\BcP K' μ' s a w' s.nid r e/\∃u,e=.returned u:=by
 obtain⟨args',lh,r',h1,h2,h3,h4,h5,h6,h7⟩:=AjP h hs hargs
 obtain⟨q1,q2⟩:=At2 hP H ih k pan h1
 refine⟨q1,(q2 _ _ _ _ _ h2 h3 h4 h5 h6 (λd hd=>?_)).mono ?_⟩
 ·exact Rep.recolor (λb o h=>by rw[h]; rfl) _ _ (hpu d hd)
 rintro e m w' ⟨hE,hm,hu⟩
 obtain⟨K',μ',hA,hR⟩:=h7 e w' hE
 exact⟨hm,K',μ',hA,hR,hu⟩
theorem uM (hP:nS P) (H:Nat->Nat->List Nat) {call:Call} (ih:yV P call) (k:Nat) {fn:Func} {tmps:Array Value} {R:Ending->World->Prop} :
  ∀(ds:List (Nat×List Nat)) (pan:Option D) (pu:Value) (s:St) (K:Col) (μ:Nat->Nat) (w:World) {pan':Option D} {s':St},tB P H call k ds pan s=some (pan',s')->s.defers=[] ->
   Sim K μ s { tmps:=tmps,defers:=[] } w->(∀x∈ds,∀b∈x.2,b<s.nid)->(∀d,pan=some d->Rep K w d pu) ->
   (∀K' μ' w' pu',After K μ w s.nid K' μ' w'->s.nid<=s'.nid->Sim K' μ' s' { tmps:=tmps,defers:=[] } w'->(∀d,pan'=some d->Rep K' w' d pu')->Leaves P fn tmps R [] (Ab5 pan' pu') w') ->
   Leaves P fn tmps R (ds.map (AaI μ)) (Ab5 pan pu) w
 | [],pan,pu,s,K,μ,w,pan',s',h,_,hs,_,hpu,hend=>by
  simp only[tB,sJ,pJ] at h
  obtain⟨rfl,rfl⟩:=h
  exact hend K μ w pu (After.refl _ _ _ _) (Nat.le_refl _) hs hpu
 |(g,caps)::ds,pan,pu,s,K,μ,w,pan',s',h,hd0,hs,hin,hpu,hend=>by
  simp only[tB] at h
  split at h
  ·rename_i v s1 ids hc
   have hargs:bA K μ w (caps.map λb=>C.ptr b 0) (caps.map λb=>Value.pointer (some (ad (μ b) 0))):=by
    refine bA.of_get (by simp) λi c v hc hv=>?_
    simp only[List.getElem?_map,Option.map_eq_some_iff] at hc hv
    obtain⟨b,hb,rfl⟩:=hc
    obtain⟨b',hb',rfl⟩:=hv
    rw[hb,sJ] at hb'; subst hb'
    rfl
   obtain⟨⟨fg,hfg,hbg⟩,hcall⟩:=AqF hP H ih k pan hc hs hargs hpu
   have hmode:Ab5 pan pu≠.run:=by cases pan<;>simp[Ab5]
   simp only[List.map_cons]
   refine leaves_cons (fv:=.func g) (f:=g) hmode ?_ (hcall.mono ?_)
   ·have hbn:fg.body.isNone=false:=by cases hb:fg.body<;>simp[hb] at hbg ⊢
    have hnm:(fg.name == "runtime.NumGoroutine")=false:=by
     have:=hP.func g fg hfg
     simp only[AiV,Bool.and_eq_true,Bool.not_eq_true'] at this
     exact this.1
    simp[invoke,callFunc,hfg,hnm,hbn,-beq_iff_eq,-beq_eq_false_iff_ne,-Option.isNone_iff_eq_none]
   rintro e m w' ⟨hm,K',μ',hA,hR,u,rfl⟩
   obtain⟨hs',hn,hpl,hvi,hdf,_⟩:=hR
   have hset:Go.settle m=Ab5 (if AiC P g then none else pan) pu:=by
    subst hm
    cases hr:AiC P g<;>cases pan<;>simp[Ab5,AsB,Go.settle]
   show Leaves P fn tmps R (ds.map (AaI μ)) (Go.settle m) w'
   rw[hset]
   have hmap:ds.map (AaI μ)=ds.map (AaI μ'):=by
    refine List.map_congr_left λx hx=>?_
    unfold AaI
    congr 3
    refine List.map_congr_left λb hb=>?_
    rw[hA.mu b (hin x (List.mem_cons_of_mem _ hx) b hb)]
   rw[hmap]
   refine uM hP H ih k ds _ pu s1 K' μ' w' h (by rw[hdf,hd0]) hs' (λx hx b hb=>Nat.lt_of_lt_of_le (hin x (List.mem_cons_of_mem _ hx) b hb) hn) ?_ ?_
   ·intro d hd
    split at hd
    ·simp at hd
    exact Rep.step hA.step (by simp[iL]) _ _ (hpu d hd)
   intro K2 μ2 w2 pu2 hA2 hn2 hs2 hp2
   exact hend K2 μ2 w2 pu2 (hA.trans hA2 hn) (by omega) hs2 hp2
  simp at h
theorem AtQ (hP:nS P) (H:Nat->Nat->List Nat) {call:Call} (ih:yV P call) (k:Nat) {fn:Func} {n:Nat} {x:AX} {s':St} {r:aE} {e:Exit} {a':Act} (h:finish P H call k fn n x s'=some r)
  (ho:Out K' w' x e) (ha:After K μ w n K' μ' w') (hn:n<=s'.nid) (hs':Sim K' μ' s' a' w'):bodyPostD P fn (λe w'=>EndOK K μ w n r e w') e a' w':=by
 have hs0:Sim K' μ' { s' with defers:=[] } { tmps:=a'.tmps,defers:=[] } w':=hs'.defs_nil
 have ret0:∀{s2:St} {K2:Col} {μ2:Nat->Nat} {w2:World},tI P fn n s2=some r->After K μ w n K2 μ2 w2->Sim K2 μ2 s2 { tmps:=a'.tmps,defers:=[] } w2->Leaves P fn a'.tmps (λe w'=>EndOK K μ w n r e w') [] .returning w2:=by
  intro s2 K2 μ2 w2 he ha2 hs2
  obtain⟨u,hu,hE,_⟩:=Ak3 ha2 hs2 he
  exact⟨u,hu,hE⟩
 have pan0:∀{d:D} {u:Value} {s2:St} {K2:Col} {μ2:Nat->Nat} {w2:World},AlB d n s2=some r->After K μ w n K2 μ2 w2->Sim K2 μ2 s2 { tmps:=a'.tmps,defers:=[] } w2->Rep K2 w2 d u->Leaves P fn a'.tmps (λe w'=>EndOK K μ w n r e w') [] (.panicking [⟨u,false,false⟩]) w2:=
  fun he ha2 hs2 hu=>AtI ha2 hs2 hu he
 have normal:∀{o:Option aE},(if s'.defers.isEmpty then tI P fn n s' else
   match tB P H call k s'.defers none { s' with defers:=[] } with
   |some (none,s')=>tI P fn n s'
   |_=>none)=o->o=some r->Leaves P fn a'.tmps (λe w'=>EndOK K μ w n r e w') a'.defers .returning w':=by
  intro o h1 h2
  subst h2
  rw[hs'.defs]
  split at h1
  ·rename_i hd
   rw[List.isEmpty_iff.1 hd]
   refine ret0 (s2:=s') h1 ha ?_
   have:=hs'.defs_nil
   rw[←List.isEmpty_iff.1 hd] at this
   exact this
  split at h1
  ·rename_i s2 hrun
   refine uM hP H ih k s'.defers none Go.undef _ K' μ' w' hrun rfl hs0 hs'.dids (by simp) ?_
   intro K2 μ2 w2 pu2 hA hn2 hs2 _
   exact ret0 h1 (ha.trans hA hn) hs2
  simp at h1
 cases x with
 |normal=>simp only[Out] at ho; subst ho; exact normal rfl h
 |ret=>simp only[Out] at ho; subst ho; exact normal rfl h
 |exit id=>simp[finish] at h
 |pan d=>
  obtain⟨u,rfl,hu⟩:=ho
  show Leaves P fn a'.tmps _ a'.defers (.panicking [⟨u,false,false⟩]) w'
  rw[hs'.defs]
  simp only[finish] at h
  split at h
  ·rename_i hd
   rw[List.isEmpty_iff.1 hd]
   refine pan0 (s2:=s') h ha ?_ hu
   have:=hs'.defs_nil
   rw[←List.isEmpty_iff.1 hd] at this
   exact this
  split at h
  ·rename_i s2 hrun
   refine uM hP H ih k s'.defers (some d) u _ K' μ' w' hrun rfl hs0 hs'.dids (by intro d' e; simp only[sJ] at e; subst e; exact hu) ?_
   intro K2 μ2 w2 pu2 hA hn2 hs2 _
   exact ret0 h (ha.trans hA hn) hs2
  ·rename_i d' s2 hrun
   refine uM hP H ih k s'.defers (some d) u _ K' μ' w' hrun rfl hs0 hs'.dids (by intro d' e; simp only[sJ] at e; subst e; exact hu) ?_
   intro K2 μ2 w2 pu2 hA hn2 hs2 hp2
   exact pan0 h (ha.trans hA hn) hs2 (hp2 d' rfl)
  simp at h
theorem At1 (hP:nS P) {E:Nat->Option Call} (hE:∀f g,E f=some g->∀args lh r,g f args lh=some r->Callee P f/\CallOK P f args lh r) (H:Nat->Nat->List Nat) {call:Call} (ih:yV P call) (k:Nat):oY P (Al3 P E H call k):=by
 intro f args lh r h
 simp only[Al3] at h
 split at h
 ·rename_i g hg
  exact hE f g hg args lh r h
 split at h
 ·rename_i fn hfn
  split at h
  ·rename_i code hcode
   split at h
   ·rename_i hlen
    refine⟨⟨fn,hfn,by rw[hcode]; rfl⟩,?_⟩
    intro K μ w vs hr hi hh hb hgl
    have hfo:=hP.func f fn hfn
    simp only[AiV,hcode,Bool.and_eq_true] at hfo
    have hsim:=AlW (n:=fn.ntmps-vs.toArray.size) hr hi hh hb hgl
    have hdb:=gP (m:=(vs.toArray++Array.replicate (fn.ntmps-vs.toArray.size) Go.undef).size) (by simp; omega) code hfo.2
    split at h
    ·rename_i x s' hex
     refine calls_of_wp_defers (R:=λe w'=>EndOK K μ w lh.length r e w') hfn hcode (iH ih hP code hdb hex hsim rfl ?_)
     intro e K' μ' a' w' ho ha hn hs' hsz
     exact AtQ hP H ih k h ho ha hn hs'
    simp at h
   simp at h
  simp at h
 simp at h
theorem CallOK.of_still {f:Nat} {args:List C} {lh:List (List C)} {r:aE} (h:CallOK P f (args.map C.still) lh r):CallOK P f args lh r:=by
 intro K μ w vs hr hi hh hb hg
 refine h K μ w vs hr.still ?_ hh hb hg
 intro c hc b hbb
 simp only[List.mem_map] at hc
 obtain⟨c',hc',rfl⟩:=hc
 rw[C.still_ids] at hbb
 exact hi c' hc' b hbb
omit [cM] in
theorem AvF {f g:Nat} (h:g=f+yN):Nat.blt g yN=false:=by
 have h1:yN<=g:=by rw[h]; exact Nat.le_add_left _ _
 cases hb:Nat.blt g yN with
 |false=>rfl
 |true=>exact absurd (Nat.lt_of_lt_of_le (Nat.blt_eq.mp hb) h1) (Nat.lt_irrefl _)
omit [cM] in
theorem AxS {f g:Nat} (h:g=f+yN):g-yN=f:=by rw[h]; exact Nat.add_sub_cancel _ _
theorem BeM (hs:Sim K μ s a w) {fn:Func} {v:V} (h:BiQ P s fn.results.toList=some v) :
  ∃u,(results fn a.tmps).run P w=.ok u w/\RepV K μ w v u/\(∀b∈v.ids,b<s.nid)/\mR v:=by
 unfold BiQ at h
 split at h
 ·rename_i p t hres
  split at h
  ·rename_i b off n hp ht hn
   split at h
   ·rename_i cs hb0
    obtain⟨cs0,hb,hbm,rfl⟩:=xJ hb0
    obtain⟨vs,hrv,hcv⟩:=(hs.heap b cs0 hb).2.2.vals hbm
    split at h
    ·rename_i hle
     simp only[Option.map_eq_some_iff] at h
     obtain⟨ds,hds,rfl⟩:=h
     have hpr:=(hs.tm p _ hp).2
     simp only[RepV,RepC] at hpr
     obtain⟨hl0,hsp⟩:=lA hds
     have hnh:∀i,i<n->(eZ cs0)[off+i]?≠some .hid:=by
      intro i hi e
      obtain⟨y,hy,_⟩:=hsp i C.hid (by rw[List.getElem?_take,if_pos hi,qT]; exact e)
      simp[C.told] at hy
     have hl:=AbU (P:=P) (w:=w) ht hn (μ b) off ((vs.drop off).take n) (by have:=hrv.length; simp; omega)
      (λi v hv=>by
       rw[List.getElem?_take] at hv
       split at hv
       ·rename_i hin; rw[qT] at hv; exact (hcv _ v hv (hnh i hin)).1
       simp at hv)
     have h1:∀u∈(vs.drop off).take n,fA u=true:=by
      intro u hu
      obtain⟨i,hi⟩:=List.getElem?_of_mem hu
      rw[List.getElem?_take] at hi
      split at hi
      ·rename_i hin; rw[qT] at hi; exact (hcv _ u hi (hnh i hin)).2.1
      simp at hi
     have htold:∀{l l':List C} {us:List Value},aY C.told l=some l'->bA K μ w l us->bA K μ w l' us/\∀c∈l',∀i∈c.ids,∃c0∈l,i∈c0.ids:=by
      intro l
      induction l with
      |nil=>
       intro l' us e hr
       simp only[aY,sJ] at e; subst e
       cases hr
       exact⟨.nil,by simp⟩
      |cons c l ih=>
       intro l' us e hr
       simp only[aY] at e
       split at e
       ·rename_i y ys hy hys
        simp only[sJ] at e; subst e
        cases hr with
        |cons r1 r2=>
         obtain⟨q1,q2⟩:=ih hys r2
         have hyc:y=c.still:=by cases c<;>simp only[C.told,reduceCtorEq,sJ] at hy<;>exact hy.symm
         subst hyc
         refine⟨.cons (C.still_rep r1) q1,λx hx i hi=>?_⟩
         rcases List.mem_cons.1 hx with rfl|hx
         ·exact⟨c,by simp,by rw[C.still_ids] at hi; exact hi⟩
         obtain⟨c0,h0,h1⟩:=q2 x hx i hi
         exact⟨c0,by simp[h0],h1⟩
       simp at e
     obtain⟨g1,g2⟩:=htold hds ((hrv.drop off).take n)
     have hres':fn.results=#[.cell p t]:=by apply Array.ext'; simpa using hres
     refine⟨.agg ((vs.drop off).take n).toArray,?_,⟨_,rfl,g1,h1⟩,?_,by simp[mR]⟩
     ·have e1:(AcU a.tmps (.cell p t)).run P w=.ok (.agg ((vs.drop off).take n).toArray) w:=by
       simp only[AcU,hpr,asAddr,Sem.run_bind,Sem.run_pure,Result.andThen_ok]; exact hl
      exact AxD hres' e1
     intro i hi
     simp only[V.ids,List.mem_flatMap] at hi
     obtain⟨c,hc,hi⟩:=hi
     obtain⟨c0,h0,hi⟩:=g2 c hc i hi
     exact hs.flat_ids hb (List.mem_of_mem_drop (List.mem_of_mem_take h0)) i hi
    simp at h
   simp at h
  simp at h
 simp at h
theorem AqK {n:Nat} {s':St} {a':Act} {fn:Func} {r:aE} (ha:After K μ w n K' μ' w') (hs':Sim K' μ' s' a' w') (h:Ah3 P fn n s'=some r) :
  ∃u,(results fn a'.tmps).run P w'=.ok u w'/\EndOK K μ w n r (.returned u) w':=by
 unfold Ah3 at h
 split at h
 ·rename_i v hv
  split at h
  ·rename_i ids lh' hob
   split at h
   ·rename_i v' hv'
    simp only[sJ] at h; subst h
    obtain⟨u,hu,hru,hvi,hpl⟩:=BeM hs' hv
    obtain⟨g1,g2,g3,g4,g5,g6⟩:=AuB ha hs' hob
    obtain⟨k1,k2,k3⟩:=V.into_rep (K':=λb o=>gY ids (K' b o)) (μ':=λi=>μ' (ids.getD i 0)) (λb o h=>by rw[h]; rfl)
     (λi b h=>by simp[List.getD,h]) hv' hru hpl
    exact⟨u,hu,⟨_,_,g1,g2,g3,g4,g5,k3,by rw[g6]; exact k2,u,rfl,k1⟩⟩
   simp at h
  simp at h
 simp at h
theorem At3 (hP:nS P) (H:Nat->Nat->List Nat) {call:Call} (ih:yV P call) (k:Nat) {g f:Nat} {args:List C} {lh:List (List C)} {r:aE} (h:Al4 P H call k g f args lh=some r) :
  Callee P f/\CallOK P f args lh r:=by
 unfold Al4 at h
 split at h
 ·rename_i fn hfn
  split at h
  ·rename_i code hcode
   split at h
   ·rename_i hlen
    refine⟨⟨fn,hfn,by rw[hcode]; rfl⟩,?_⟩
    intro K μ w vs hr hi hh hb hgl
    have hfo:=hP.func f fn hfn
    simp only[AiV,hcode,Bool.and_eq_true] at hfo
    have hsim:=AlW (n:=fn.ntmps-vs.toArray.size) hr hi hh hb hgl
    have hdb:=gP (m:=(vs.toArray++Array.replicate (fn.ntmps-vs.toArray.size) Go.undef).size) (by simp; omega) code hfo.2
    have h':∃x s',iG P (H g) call k code (zW args lh)=some (x,s')/\(x=.normal\/x=.ret)/\s'.defers=[]/\Ah3 P fn lh.length s'=some r:=by
     split at h
     ·rename_i s' he
      split at h
      ·rename_i hd; exact⟨_,s',he,.inl rfl,List.isEmpty_iff.1 hd,h⟩
      simp at h
     ·rename_i s' he
      split at h
      ·rename_i hd; exact⟨_,s',he,.inr rfl,List.isEmpty_iff.1 hd,h⟩
      simp at h
     simp at h
    obtain⟨x,s',hex,hx,hd,hend⟩:=h'
    refine calls_of_wp_defers (R:=λe w'=>EndOK K μ w lh.length r e w') hfn hcode (iH ih hP code hdb hex hsim rfl ?_)
    intro e K' μ' a' w' ho ha hn hs' hsz
    obtain⟨u,hu,hE⟩:=AqK ha hs' hend
    have he:e=.normal\/e=.ret:=by
     rcases hx with rfl|rfl
     ·exact .inl ho
     exact .inr ho
    have hdd:a'.defers=[]:=by rw[hs'.defs,hd]; rfl
    rcases he with rfl|rfl
    ·show Leaves P fn a'.tmps _ a'.defers .returning w'
     rw[hdd]; exact⟨u,hu,hE⟩
    show Leaves P fn a'.tmps _ a'.defers .returning w'
    rw[hdd]; exact⟨u,hu,hE⟩
   simp at h
  simp at h
 simp at h
omit [cM] in
theorem AnY {E:Nat->Option Call} (H:Nat->Nat->List Nat) (f:Nat) (args:List C) (lh:List (List C)):zB P E H 0 f args lh=none:=rfl
omit [cM] in
theorem AgX {E:Nat->Option Call} (H:Nat->Nat->List Nat) (k:Nat) {f:Nat} (hf:Nat.blt f yN=true) (args:List C) (lh:List (List C)) :
 zB P E H (k+1) f args lh=Al3 P E H (zB P E H k) k f (if (H f 999999).isEmpty then args.map C.still else args) lh:=by rw[zB,hf]
omit [cM] in
theorem AnX {E:Nat->Option Call} (H:Nat->Nat->List Nat) (k:Nat) {f g:Nat} (h1:Nat.blt g yN=false) (h2:g-yN=f) (args:List C) (lh:List (List C)) :
 zB P E H (k+1) g args lh=Al4 P H (zB P E H k) k g f (args.map C.still) lh:=by rw[zB,h1,h2]
theorem BfM (hP:nS P) {E:Nat->Option Call} (hE:∀f g,E f=some g->∀args lh r,g f args lh=some r->Callee P f/\CallOK P f args lh r) (H:Nat->Nat->List Nat) {k:Nat} (ih:yV P (zB P E H k)):oY P (AbF (zB P E H (k+1))):=by
 intro f args lh r h
 have ih:=At1 hP hE H ih k
 unfold AbF at h
 split at h
 ·rename_i hf
  rw[AgX H k hf] at h
  have:=ih _ _ _ _ h
  split at this
  ·exact⟨this.1,this.2.of_still⟩
  exact this
 simp at h
theorem BcT (hP:nS P) {E:Nat->Option Call} (H:Nat->Nat->List Nat) {k:Nat} (ih:yV P (zB P E H k)) {f g:Nat} (h1:Nat.blt g yN=false) (h2:g-yN=f) {args:List C} {lh:List (List C)} {r:aE} (h:zB P E H (k+1) g args lh=some r) :
  Callee P f/\CallOK P f args lh r:=by
 rw[AnX H k h1 h2] at h
 have:=At3 hP H ih k h
 exact⟨this.1,this.2.of_still⟩
theorem AvH {call:Call} (h:∀f g args lh r,g=f+yN->call g args lh=some r->Callee P f/\CallOK P f args lh r):oY P (Ar8 call):=
 fun f args lh r e=>h f (f+yN) args lh r rfl e
theorem AbC (hP:nS P) {E:Nat->Option Call} (hE:∀f g,E f=some g->∀args lh r,g f args lh=some r->Callee P f/\CallOK P f args lh r) (H:Nat->Nat->List Nat) :
  ∀k,yV P (zB P E H k)
 |0=>⟨λf args lh r h=>by unfold AbF at h; split at h<;>simp[AnY] at h,AvH λf g args lh r _ h=>by simp[AnY] at h⟩
 |k+1=>⟨BfM hP hE H (AbC hP hE H k),AvH λf g args lh r hg h=>BcT hP H (AbC hP hE H k) (AvF hg) (AxS hg) h⟩
end
end Go.AM
namespace Go.AM
open Go Go.RowKit
variable [cM]
def colRo (w:World):Col:=λb _=>if b<w.heap.size then .ro else .other
theorem AqA {w w':World} {K':Col} (h:Step iL (colRo w) w K' w'):Below w.heap.size w w':=
 ⟨h.os,h.tape,h.output,h.size,λb hb=>h.block b hb λoff hm=>by
  simp only[colRo,hb,if_true] at hm
  exact hm.1 rfl⟩
def AuR (w:World):Prop:=∀x∈cM.tab,∀i v,x.2[i]?=some v->w.cell? (ad x.1 i)=some v
theorem AuR.glob {w:World} (h:AuR w):AjB (colRo w) w:=by
 intro x hx i v hv
 have:=h x hx i v hv
 rw[Nat.zero_add]
 exact⟨by simp[colRo,block_lt this],this⟩
section
variable {P:Program} {f:Nat} {args:List C} {w:World} {vs:List Value}
theorem Bb8 {v:V} (h:CallOK P f args [] (.ret v [])) (hargs:bA (colRo w) (λ_=>0) w args vs) (hids:∀c∈args,c.ids=[]) (hg:AuR w) :
  Calls P f vs.toArray w λe w'=>Below w.heap.size w w'/\∃u K' μ',e=.returned u/\RepV K' μ' w' v u:=by
 refine (h (colRo w) (λ_=>0) w vs hargs (λc hc b hb=>by rw[hids c hc] at hb; simp at hb) (λi cells hi=>by simp at hi)
  (λb off hb=>by simp only[colRo]; rw[if_neg (by omega)]) hg.glob).mono ?_
 rintro e w' ⟨K',μ',hst,_,_,_,_,_,_,u,rfl,hu⟩
 exact⟨AqA hst,u,K',μ',rfl,hu⟩
theorem calls_true (h:CallOK P f args [] (.ret (.d (.bool true)) [])) (hargs:bA (colRo w) (λ_=>0) w args vs) (hids:∀c∈args,c.ids=[]) (hg:AuR w) :
  Calls P f vs.toArray w λe w'=>e=.returned (.bool true)/\Below w.heap.size w w':=by
 refine (Bb8 h hargs hids hg).mono ?_
 rintro e w' ⟨hb,u,K',μ',rfl,hu⟩
 simp only[RepV,RepC,Rep] at hu
 subst hu
 exact⟨rfl,hb⟩
end
end Go.AM
namespace Go.AM
open Go
def Evt (p:Nat->Prop):Prop:=∃k₀,∀k,k₀<=k->p k
theorem Evt.of {p:Nat->Prop} (h:∀k,p k):Evt p:=⟨0,λk _=>h k⟩
theorem Evt.and {p q:Nat->Prop} (h:Evt p) (h':Evt q):Evt λk=>p k/\q k:=by
 obtain⟨a,ha⟩:=h; obtain⟨b,hb⟩:=h'
 exact⟨max a b,λk hk=>⟨ha k (by omega),hb k (by omega)⟩⟩
theorem Evt.imp {p q:Nat->Prop} (h:Evt p) (hq:∀k,p k->q k):Evt q:=by
 obtain⟨a,ha⟩:=h; exact⟨a,λk hk=>hq k (ha k hk)⟩
theorem Evt.succ {p:Nat->Prop} (h:Evt λk=>p (k+1)):Evt p:=by
 obtain⟨a,ha⟩:=h
 refine⟨a+1,λk hk=>?_⟩
 obtain⟨j,rfl⟩:∃j,k=j+1:=⟨k-1,by omega⟩
 exact ha j (by omega)
structure Ctx where
 P:Program
 E:Nat->Option Call
 H:Nat->Nat->List Nat
abbrev Ctx.raw (X:Ctx) (k:Nat):Call:=zB X.P X.E X.H k
abbrev Ctx.call (X:Ctx) (k:Nat):Call:=AbF (X.raw k)
def aval (X:Ctx) (f:Nat) (args:List C) (lh:List (List C)) (r:aE):Prop:=Evt λk=>X.call k f args lh=some r
structure awp (X:Ctx) (f:Nat) (c:Code) (Q:AX->St->Prop) (s:St):Prop where
 ex:∃x s',(Evt λk=>iG X.P (X.H f) (X.raw k) k c s=some (x,s'))/\Q x s'
structure pB (X:Ctx) (ops:Array Oper) (l:List Oper) (Q:AX->St->Prop) (s:St):Prop where
 ex:∃x s',(Evt λk=>∀fs,∃fs',Ai2 X.P (X.call k) ops l s fs=some (x,s',fs'))/\Q x s'
structure nK (X:Ctx) (ops:Array Oper) (vs:List Nat) (base:Nat) (pre:List Fp) (l:List Oper) (i:Nat) (Q:AX->St->Prop) (s:St):Prop where
 ex:∃x s' fs,(Evt λk=>sO X.P (X.call k) ops false vs base l i s=some (x,s',fs))/\(AfD x.isPan ops base (pre++fs)&&decide (base<=s'.nid))=true/\Q x s'
structure cD (X:Ctx) (f:Nat) (c:Code) (clean:St->Option St) (Q:AX->St->Prop) (s:St):Prop where
 ex:∃x s',(∃m₀,Evt λk=>∀m,m₀<=m->iter (iG X.P (X.H f) (X.raw k) k c) clean m s=some (x,s'))/\Q x s'
inductive kT (X:Ctx) (f:Nat) (b:Code) (Q:AX->St->Prop):AX->St->Prop where
 |normal {s:St}:awp X f b Q s->kT X f b Q .normal s
 |exit {id:Nat} {s:St}:Q (.exit id) s->kT X f b Q (.exit id) s
 |ret {s:St}:Q .ret s->kT X f b Q .ret s
 |pan {d:D} {s:St}:Q (.pan d) s->kT X f b Q (.pan d) s
def yB (h:List Nat) (n:Nat) (s:St):Option St:=match h with
 | []=>some s
 |_::ks=>aH ks n s
theorem AcV {h:List Nat} {n:Nat} {s s':St} (hs:yB h n s=some s'):settle h n (some (.normal,s))=some (.normal,s'):=by
 cases h with
 |nil=>simp only[yB,sJ] at hs; subst hs; rfl
 |cons k ks=>simp only[yB] at hs; simp only[settle,hs]
inductive aJ (id:Nat) (hk:List Nat) (n:Nat) (Q:AX->St->Prop):AX->St->Prop where
 |here {s s':St}:yB hk n s=some s'->Q .normal s'->aJ id hk n Q (.exit id) s
 |there {id':Nat} {s:St}:(id'==id)=false->Q (.exit id') s->aJ id hk n Q (.exit id') s
 |normal {s s':St}:yB hk n s=some s'->Q .normal s'->aJ id hk n Q .normal s
 |ret {s:St}:Q .ret s->aJ id hk n Q .ret s
 |pan {d:D} {s:St}:Q (.pan d) s->aJ id hk n Q (.pan d) s
inductive fN (hk:List Nat) (n:Nat) (Q:AX->St->Prop):AX->St->Prop where
 |normal {s s':St}:yB hk n s=some s'->Q .normal s'->fN hk n Q .normal s
 |exit {id:Nat} {s:St}:Q (.exit id) s->fN hk n Q (.exit id) s
 |ret {s:St}:Q .ret s->fN hk n Q .ret s
 |pan {d:D} {s:St}:Q (.pan d) s->fN hk n Q (.pan d) s
theorem fN.settled {hk:List Nat} {n:Nat} {Q:AX->St->Prop} {x:AX} {s:St} (h:fN hk n Q x s):∃s',settle hk n (some (x,s))=some (x,s')/\Q x s':=by
 cases h with
 |normal h1 h2=>exact⟨_,AcV h1,h2⟩
 |exit h=>exact⟨_,rfl,h⟩
 |ret h=>exact⟨_,rfl,h⟩
 |pan h=>exact⟨_,rfl,h⟩
theorem aJ.settled {id:Nat} {hk:List Nat} {n:Nat} {Q:AX->St->Prop} {x:AX} {s:St} (h:aJ id hk n Q x s):∃x' s',settle hk n (leaves id (some (x,s)))=some (x',s')/\Q x' s':=by
 cases h with
 |here h1 h2=>exact⟨_,_,by simp only[leaves,if_true]; exact AcV h1,h2⟩
 |there hn h=>
  refine⟨_,_,?_,h⟩
  simp only[leaves]
  rw[if_neg (by simpa using hn)]; rfl
 |normal h1 h2=>exact⟨_,_,AcV h1,h2⟩
 |ret h=>exact⟨_,_,rfl,h⟩
 |pan h=>exact⟨_,_,rfl,h⟩
section
variable {X:Ctx} {f:Nat} {Q:AX->St->Prop} {s:St}
theorem AvB (h:Q .normal s):awp X f .skip Q s:=⟨_,_,.of λ_=>rfl,h⟩
theorem AzQ (h:Q .ret s):awp X f .ret Q s:=⟨_,_,.of λ_=>rfl,h⟩
theorem AvA {id:Nat} (h:Q (.exit id) s):awp X f (.exit id) Q s:=⟨_,_,.of λ_=>rfl,h⟩
theorem Ar5 {id:Nat} (h:Q .normal s):awp X f (.label id) Q s:=⟨_,_,.of λ_=>rfl,h⟩
theorem At7 {a b:Code} (h:awp X f a (kT X f b Q) s):awp X f (.seq a b) Q s:=by
 obtain⟨x,s',h1,h2⟩:=h
 cases x with
 |normal=>
  cases h2 with|normal h2=>
  obtain⟨x2,s2,h3,h4⟩:=h2
  exact⟨x2,s2,(h1.and h3).imp λk ⟨p,q⟩=>by simp only[iG,p,q],h4⟩
 |exit id=>cases h2 with|exit h2=>exact⟨_,s',h1.imp λk p=>by simp only[iG,p],h2⟩
 |ret=>cases h2 with|ret h2=>exact⟨_,s',h1.imp λk p=>by simp only[iG,p],h2⟩
 |pan d=>cases h2 with|pan h2=>exact⟨_,s',h1.imp λk p=>by simp only[iG,p],h2⟩
theorem Av8 {o:Operand} {a b:Code} {c:Bool} (hc:ev s.tmps o=some (.c (.d (.bool c)))) (h:c=true->awp X f a (fN (X.H f (uI a b)) s.nid Q) s) (h':c=false->awp X f b (fN (X.H f (uI a b)) s.nid Q) s):awp X f (.cond o a b) Q s:=by
 cases c with
 |true=>
  obtain⟨x,s',h1,h2⟩:=h rfl
  obtain⟨s2,h3,h4⟩:=h2.settled
  exact⟨x,s2,h1.imp λk p=>by simp only[iG,hc,p,h3],h4⟩
 |false=>
  obtain⟨x,s',h1,h2⟩:=h' rfl
  obtain⟨s2,h3,h4⟩:=h2.settled
  exact⟨x,s2,h1.imp λk p=>by simp only[iG,hc,p,h3],h4⟩
theorem xF {id:Nat} {c:Code} (h:awp X f c (aJ id (X.H f (1000000+id)) s.nid Q) s):awp X f (.block id c) Q s:=by
 obtain⟨x,s',h1,h2⟩:=h
 obtain⟨x2,s2,h3,h4⟩:=h2.settled
 exact⟨x2,s2,h1.imp λk p=>by simp only[iG,p,h3],h4⟩
theorem Ar6 {c:Code} (h:awp X f c Q s):awp X f (.scope c) Q s:=by
 obtain⟨x,s',h1,h2⟩:=h
 exact⟨x,s',h1.imp λk p=>by simp only[iG,p],h2⟩
theorem Am5 {id:Nat} {ops:Array Oper} {s0:St} (hM:isM (X.H f id)=false) (hz:frz (X.H f id) s=some s0) (h:pB X ops ops.toList Q { s0 with tmps:=tT (X.H f id) s0.tmps }):awp X f (.region id ops false) Q s:=by
 obtain⟨x,s',h1,h2⟩:=h
 refine⟨x,s',h1.imp λk p=>?_,h2⟩
 obtain⟨fs',hp⟩:=p []
 simp only[iG,hz,hM,fJ,if_false,hp]
theorem Ar4 {id:Nat} {ops:Array Oper} {s0:St} (hM:isM (X.H f id)=false) (hns:(X.H f id).contains 4999999=false) (hz:frz (X.H f id) s=some s0) (h:nK X ops (qY ops) s0.nid [] ops.toList 0 Q { s0 with tmps:=tT (X.H f id) s0.tmps,nid:=s0.nid+ops.size }):awp X f (.region id ops true) Q s:=by
 obtain⟨x,s',fs,h1,h2,h3⟩:=h
 refine⟨x,s',h1.imp λk p=>?_,h3⟩
 simp only[iG,hz,hM,if_true,hns,AaJ,p]
 simp only[List.nil_append] at h2
 rw[if_pos h2]
def noF (ks:List Nat):Bool:=ks.all λk=>!Nat.ble 7000000 k||Nat.ble 15000000 k
theorem AnK:∀{ks:List Nat} {s:St},noF ks=true->frz ks s=some s
 | [],_,_=>rfl
 |k::r,s,h=>by
  simp only[noF,List.all_cons,Bool.and_eq_true,Bool.or_eq_true,Bool.not_eq_true'] at h
  rcases h.1 with h1|h1
  ·simp only[frz,h1]
   exact AnK h.2
  have h2:Nat.ble 7000000 k=true:=Nat.ble_eq_true_of_le (by have:=Nat.le_of_ble_eq_true h1; omega)
  have h3:Nat.ble 13000000 k=true:=Nat.ble_eq_true_of_le (by have:=Nat.le_of_ble_eq_true h1; omega)
  simp only[frz,h2,AkA,h3]
  exact AnK h.2
theorem AtW:∀{ks:List Nat},noF ks=true->isM ks=false
 | [],_=>rfl
 |k::r,h=>by
  simp only[noF,List.all_cons,Bool.and_eq_true] at h
  have ih:=AtW (ks:=r) h.2
  unfold isM at ih ⊢
  rw[List.contains_cons,ih,Bool.or_false]
  cases hb:(14000000==k) with
  |false=>rfl
  |true=>
   have:k=14000000:=(beq_iff_eq.1 hb).symm
   subst this
   exact absurd h.1 (by decide)
theorem Ao5 {id:Nat} {ops:Array Oper} (hz:noF (X.H f id)=true) (h:pB X ops ops.toList Q { s with tmps:=tT (X.H f id) s.tmps }):awp X f (.region id ops false) Q s:=Am5 (AtW hz) (AnK hz) h
theorem Av9 {id:Nat} {ops:Array Oper} (hz:(noF (X.H f id)&&!(X.H f id).contains 4999999)=true) (h:nK X ops (qY ops) s.nid [] ops.toList 0 Q { s with tmps:=tT (X.H f id) s.tmps,nid:=s.nid+ops.size }):awp X f (.region id ops true) Q s:=by
 simp only[Bool.and_eq_true,Bool.not_eq_true'] at hz
 exact Ar4 (AtW hz.1) hz.2 (AnK hz.1) h
theorem AjL {c:Code} {Q':AX->St->Prop} (h:awp X f c Q s) (hq:∀x s',Q x s'->Q' x s'):awp X f c Q' s:=by
 obtain⟨x,s',h1,h2⟩:=h
 exact⟨x,s',h1,hq x s' h2⟩
theorem AjJ {ops:Array Oper} (h:Q .normal s):pB X ops [] Q s:=⟨_,_,.of λ_ fs=>⟨fs,rfl⟩,h⟩
theorem Bb4 {ops:Array Oper} {o:Oper} {l:List Oper} (hw:wantedAt ops s.tmps o=some false) (h:pB X ops l Q (putDst o (.c .undef) s)):pB X ops (o::l) Q s:=by
 obtain⟨x,s',h1,h2⟩:=h
 refine⟨x,s',h1.imp λk p fs=>?_,h2⟩
 obtain⟨fs',hp⟩:=p (eM.none::fs)
 exact⟨fs',by simp only[Ai2,hw,hp]⟩
theorem At6 {ops:Array Oper} {o:Oper} {l:List Oper} {v:V} {s1:St} {ft:eM} (hw:wantedAt ops s.tmps o=some true) (hop:Evt λk=>cP X.P (X.call k) s.nid o s=some (.val v s1,ft))
  (h:pB X ops l Q (putDst o v s1)):pB X ops (o::l) Q s:=by
 obtain⟨x,s',h1,h2⟩:=h
 refine⟨x,s',(hop.and h1).imp λk ⟨q,p⟩ fs=>?_,h2⟩
 obtain⟨fs',hp⟩:=p (ft::fs)
 exact⟨fs',by simp only[Ai2,hw,q,hp]⟩
theorem AjK {ops:Array Oper} {o:Oper} {l:List Oper} {v:V} {s1:St} {ft:eM} (hw:wantedAt ops s.tmps o=some true) (hop:∀call,cP X.P call s.nid o s=some (.val v s1,ft))
 (h:pB X ops l Q (putDst o v s1)):pB X ops (o::l) Q s:=At6 hw (.of λ_=>hop _) h
theorem Bd0 {ops:Array Oper} {o:Oper} {l:List Oper} {d:D} {s1:St} {ft:eM} (hw:wantedAt ops s.tmps o=some true) (hop:Evt λk=>cP X.P (X.call k) s.nid o s=some (.pan d s1,ft))
  (h:Q (.pan d) s1):pB X ops (o::l) Q s:=
 ⟨_,_,hop.imp λk q fs=>⟨ft::fs,by simp only[Ai2,hw,q]⟩,h⟩
theorem Av5 {ops:Array Oper} {vs:List Nat} {base i:Nat} {pre:List Fp} (hok:(AfD false ops base pre&&decide (base<=s.nid))=true) (h:Q .normal s):nK X ops vs base pre [] i Q s:=
 ⟨_,_,[],.of λ_=>rfl,by rw[List.append_nil]; exact hok,h⟩
theorem Bb3 {ops:Array Oper} {vs:List Nat} {base i:Nat} {pre:List Fp} {o:Oper} {l:List Oper} {s1:St} (hw:wantedAt ops s.tmps o=some false) (hp:uY o.dst (.c .undef) s=some s1)
  (h:nK X ops vs base (pre++[Fp.fill ⟨(eO ops o).map .tmp,kC o.dst (.c .undef),[],false⟩ s1]) l (i+1) Q s1):nK X ops vs base pre (o::l) i Q s:=by
 obtain⟨x,s',fs,h1,h2,h3⟩:=h
 refine⟨x,s',Fp.fill ⟨(eO ops o).map .tmp,kC o.dst (.c .undef),[],false⟩ s1::fs,h1.imp λk p=>by simp only[sO,hw,hp,p],?_,h3⟩
 rw[List.append_assoc] at h2; exact h2
theorem At5 {ops:Array Oper} {vs:List Nat} {base i:Nat} {pre:List Fp} {o:Oper} {l:List Oper} {v:V} {s1 s2:St} {ft:Fp} (hw:wantedAt ops s.tmps o=some true)
  (hop:Evt λk=>eD X.P (X.call k) ops vs (base+i) o s=some (.val v s1,ft)) (hp:uY o.dst v s1=some s2)
  (h:nK X ops vs base (pre++[ft.fill s2]) l (i+1) Q s2):nK X ops vs base pre (o::l) i Q s:=by
 obtain⟨x,s',fs,h1,h2,h3⟩:=h
 refine⟨x,s',ft.fill s2::fs,(hop.and h1).imp λk ⟨q,p⟩=>by simp only[sO,AxP,AkW q,hw,q,hp,p],?_,h3⟩
 rw[List.append_assoc] at h2; exact h2
theorem Av6 {ops:Array Oper} {vs:List Nat} {base i:Nat} {pre:List Fp} {o:Oper} {l:List Oper} {v:V} {s1 s2:St} {ft:Fp} (hw:wantedAt ops s.tmps o=some true)
 (hop:∀call,eD X.P call ops vs (base+i) o s=some (.val v s1,ft)) (hp:uY o.dst v s1=some s2)
 (h:nK X ops vs base (pre++[ft.fill s2]) l (i+1) Q s2):nK X ops vs base pre (o::l) i Q s:=At5 hw (.of λ_=>hop _) hp h
theorem BcY {ops:Array Oper} {vs:List Nat} {base i:Nat} {pre:List Fp} {o:Oper} {l:List Oper} {v:V} {s1 s2:St} (hw:wantedAt ops s.tmps o=some true)
  (hop:AcC X.P o s=some (v,s1)) (hp:uY o.dst v s1=some s2)
  (h:nK X ops vs base (pre++[Fp.fill (xV X.P ops o s v) s2]) l (i+1) Q s2):nK X ops vs base pre (o::l) i Q s:=by
 obtain⟨x,s',fs,h1,h2,h3⟩:=h
 refine⟨x,s',Fp.fill (xV X.P ops o s v) s2::fs,h1.imp λk p=>by simp only[sO,AxP,hop,hw,hp,p],?_,h3⟩
 rw[List.append_assoc] at h2; exact h2
theorem BcZ {ops:Array Oper} {vs:List Nat} {base i:Nat} {pre:List Fp} {o:Oper} {l:List Oper} {d d0:D} {s1 s0:St} {ft ft0:Fp} (hw:wantedAt ops s.tmps o=some true)
  (hop0:Evt λk=>eD X.P (X.call k) ops vs (base+i) o s=some (.pan d0 s0,ft0)) (hw':wantedAt ops (oW (iK ops i) s).tmps o=some true)
  (hop:Evt λk=>eD X.P (X.call k) ops vs (base+i) o (oW (iK ops i) s)=some (.pan d s1,ft)) (hok:(AfD true ops base (pre++[ft])&&decide (base<=s1.nid))=true) (h:Q (.pan d) s1):nK X ops vs base pre (o::l) i Q s:=by
 refine⟨.pan d,s1,[ft],(hop0.and hop).imp λk p=>?_,hok,h⟩
 obtain⟨q,p⟩:=p
 rw[sO]
 simp only[AxP,AkW q,hw,q]
 rw[hw',p]
theorem eC {c:Code} (h:cD X f c (aH (X.H f (kL c)) s.nid) Q s):awp X f (.loop c) Q s:=by
 obtain⟨x,s',⟨m₀,a,h1⟩,h2⟩:=h
 exact⟨x,s',⟨max m₀ a,λk hk=>by simp only[iG]; exact h1 k (by omega) k (by omega)⟩,h2⟩
theorem Ay9 {c:Code} {clean:St->Option St} {s1:St} (hc:clean s=some s1) (h:awp X f c (λx s'=>match x with|.normal=>cD X f c clean Q s' | x=>Q x s') s1):cD X f c clean Q s:=by
 obtain⟨x,s',h1,h2⟩:=h
 cases x with
 |normal=>
  obtain⟨x2,s2,⟨m₀,h3⟩,h4⟩:=h2
  refine⟨x2,s2,⟨m₀+1,(h1.and h3).imp λk ⟨p,q⟩ m hm=>?_⟩,h4⟩
  obtain⟨j,rfl⟩:∃j,m=j+1:=⟨m-1,by omega⟩
  simp only[iter,hc,p]
  exact q j (by omega)
 |_=>
  refine⟨_,s',⟨1,h1.imp λk p m hm=>?_⟩,h2⟩
  obtain⟨j,rfl⟩:∃j,m=j+1:=⟨m-1,by omega⟩
  simp only[iter,hc,p]
structure wZ (X:Ctx) (fn:Func) (n:Nat) (r:aE) (x:AX) (s:St):Prop where
 ex:Evt λk=>finish X.P X.H (X.raw k) k fn n x s=some r
structure rdef (X:Ctx) (ds:List (Nat×List Nat)) (pan:Option D) (s:St) (pan':Option D) (s':St):Prop where
 ex:Evt λk=>tB X.P X.H (X.raw k) k ds pan s=some (pan',s')
theorem wZ.ret {fn:Func} {n:Nat} {r:aE} (hd:s.defers=[]) (h:tI X.P fn n s=some r):wZ X fn n r .ret s:=
 ⟨.of λk=>by simp only[finish,hd,List.isEmpty_nil,if_true,h]⟩
theorem wZ.normal {fn:Func} {n:Nat} {r:aE} (hd:s.defers=[]) (h:tI X.P fn n s=some r):wZ X fn n r .normal s:=
 ⟨.of λk=>by simp only[finish,hd,List.isEmpty_nil,if_true,h]⟩
theorem wZ.pan {fn:Func} {n:Nat} {r:aE} {d:D} (hd:s.defers=[]) (h:AlB d n s=some r):wZ X fn n r (.pan d) s:=
 ⟨.of λk=>by simp only[finish,hd,List.isEmpty_nil,if_true,h]⟩
def Bj8 (X:Ctx) (pan:Option D) (f:Nat) (args:List C) (lh:List (List C)) (r:aE):Prop:=Evt λk=>AnW X.P X.H (X.raw k) k pan f args lh=some r
theorem rdef.nil {pan:Option D}:rdef X [] pan s pan s:=⟨.of λ_=>rfl⟩
theorem rdef.cons {g:Nat} {caps ids:List Nat} {l:List (Nat×List Nat)} {pan pan':Option D} {s':St} {args':List C} {lh lh' lh'':List (List C)} {v v':V} (hr:qX s.heap 64 ((caps.map λb=>C.ptr b 0).flatMap C.ids) []=some ids) (hi:aY (C.into ids) (caps.map λb=>.ptr b 0)=some args')
  (hb:oB s.heap ids=some lh) (hv:Bj8 X pan g args' lh (.ret v lh')) (hk:aY (aY (C.back (ids++bC s.nid (lh'.length-ids.length)))) lh'=some lh'') (hv':V.back (ids++bC s.nid (lh'.length-ids.length)) v=some v')
  (h:rdef X l (if AiC X.P g then none else pan) { s with tmps:=unviewIn (ids++bC s.nid (lh'.length-ids.length)) s.tmps,heap:=dI (ids++bC s.nid (lh'.length-ids.length)) lh'' s.heap,nid:=s.nid+(lh'.length-ids.length) } pan' s') :
  rdef X ((g,caps)::l) pan s pan' s':=
 ⟨(hv.and h.ex).imp λk ⟨p,q⟩=>by simp only[tB,lY,hr,hi,hb,p,hk,hv']; exact q⟩
theorem BfO {fn:Func} {code:Code} {args args':List C} {lh:List (List C)} {r:aE} (hE:X.E f=none) (hf:X.P.funcs[f]?=some fn) (hb:fn.body=some code) (hst:(if (X.H f 999999).isEmpty then args.map C.still else args)=args') (hl:args'.length=fn.params.size+fn.nfree)
  (h:awp X f code (wZ X fn lh.length r) (zW args' lh)) (hlow:Nat.blt f yN=true:=by rfl):aval X f args lh r:=by
 obtain⟨x,s',h1,h2⟩:=h
 refine Evt.succ ((h1.and h2.ex).imp λk ⟨p,q⟩=>?_)
 simp only[Ctx.call,Ctx.raw,AbF,hlow,AgX X.H k hlow,hst,Al3,hE,hf,hb,hl,if_true]
 simp only[p]
 exact q
structure BjQ (X:Ctx) (fn:Func) (n:Nat) (r:aE) (x:AX) (s:St):Prop where
 ex:(x=.normal\/x=.ret)/\s.defers=[]/\tI X.P fn n s=some r
theorem C.still_still:∀l:List C,(l.map C.still).map C.still=l.map C.still
 | []=>rfl
 |c::l=>by
  have ih:=C.still_still l
  simp only[List.map_cons,ih]
  cases c<;>rfl
theorem AdO {args:List C} {lh:List (List C)} {r:aE} (h:aval X f (args.map C.still) lh r) (hH:(X.H f 999999).isEmpty=true):aval X f args lh r:=by
 obtain⟨k₀,h⟩:=h
 refine⟨k₀+1,λk hk=>?_⟩
 obtain⟨j,rfl⟩:∃j,k=j+1:=⟨k-1,by omega⟩
 have:=h (j+1) (by omega)
 simp only[Ctx.call,Ctx.raw,AbF] at this ⊢
 split at this
 ·rename_i hlow
  simp only[AgX X.H j hlow,hH,if_true] at this ⊢
  rw[C.still_still] at this
  exact this
 simp at this
theorem aval_ext {g:Call} {args args':List C} {lh:List (List C)} {r:aE} (hE:X.E f=some g) (hst:(if (X.H f 999999).isEmpty then args.map C.still else args)=args') (h:g f args' lh=some r) (hlow:Nat.blt f yN=true:=by rfl):aval X f args lh r:=
 Evt.succ (.of λk=>by simp only[Ctx.call,Ctx.raw,AbF,hlow,AgX X.H k hlow,hst,Al3,hE,h])
theorem Bd6 (call:Call) (f:Nat) (args:List C) (lh:List (List C)):Ar8 call f args lh=call (f+yN) args lh:=rfl
theorem BeG (X:Ctx) (k:Nat) {f g:Nat} (h1:Nat.blt g yN=false) (h2:g-yN=f) (args:List C) (lh:List (List C)):X.raw (k+1) g args lh=Al4 X.P X.H (X.raw k) k g f (args.map C.still) lh:=
 AnX X.H k h1 h2 args lh
def AzN (X:Ctx) (f:Nat) (args:List C) (lh:List (List C)) (r:aE):Prop:=Evt λk=>Ar8 (X.raw k) f args lh=some r
structure Ay6 (X:Ctx) (fn:Func) (n:Nat) (r:aE) (x:AX) (s:St):Prop where
 ex:(x=.normal\/x=.ret)/\s.defers=[]/\Ah3 X.P fn n s=some r
theorem BcW {g:Nat} {fn:Func} {code:Code} {args args':List C} {lh:List (List C)} {r:aE} (hg:g=f+yN) (hf:X.P.funcs[f]?=some fn) (hb:fn.body=some code) (hst:args.map C.still=args') (hl:args'.length=fn.params.size+fn.nfree)
  (h:awp X g code (Ay6 X fn lh.length r) (zW args' lh)):AzN X f args lh r:=by
 obtain⟨x,s',h1,⟨hx,hd,h2⟩⟩:=h
 refine Evt.succ (h1.imp λk p=>?_)
 rw[Bd6,←hg,BeG X k (AvF hg) (AxS hg)]
 simp only[Al4,hf,hb,hst,hl,if_true,p]
 rcases hx with rfl|rfl<;>simp only[hd,List.isEmpty_nil,if_true,h2]
theorem Ak5 {o:Oper} {c:Go.Call} {fo:Operand} {g:Nat} {caps ids:List Nat} {args args':List C} {lh lh' lh'':List (List C)} {v v':V} (ho:o.op=.call c) (hc:c.callee=.value fo) (hf:ev s.tmps fo=some (.c (.fn g caps)))
  (ha:oA X.P s.tmps c.args.toList c.argTypes.toList=some args) (hr:qX s.heap 64 ((args++caps.map λb=>C.ptr b 0).flatMap C.ids) []=some ids) (hi:aY (C.into ids) (args++caps.map λb=>.ptr b 0)=some args')
  (hb:oB s.heap ids=some lh) (hv:aval X g args' lh (.ret v lh')) (hk:aY (aY (C.back (ids++bC s.nid (lh'.length-ids.length)))) lh'=some lh'') (hv':V.back (ids++bC s.nid (lh'.length-ids.length)) v=some v') :
  Evt λk=>cP X.P (X.call k) s.nid o s=some (.val v' { s with tmps:=unviewIn (ids++bC s.nid (lh'.length-ids.length)) s.tmps,heap:=dI (ids++bC s.nid (lh'.length-ids.length)) lh'' s.heap,nid:=s.nid+(lh'.length-ids.length) },⟨ids,ids,[]⟩):=
 hv.imp λk p=>by simp only[cP,ho,hc,hf,ha,lY,hr,hi,hb,p,hk,hv']
theorem BbL {o:Oper} {c:Go.Call} {fo:Operand} {g:Nat} {x:D} {ids:List Nat} {args args':List C} {lh lh' lh'':List (List C)} {v v':V} (ho:o.op=.call c) (hc:c.callee=.value fo) (hf:ev s.tmps fo=some (.c (.bfn g x)))
  (ha:oA X.P s.tmps c.args.toList c.argTypes.toList=some args) (hr:qX s.heap 64 ((.d x::args).flatMap C.ids) []=some ids) (hi:aY (C.into ids) (.d x::args)=some args')
  (hb:oB s.heap ids=some lh) (hv:aval X g args' lh (.ret v lh')) (hk:aY (aY (C.back (ids++bC s.nid (lh'.length-ids.length)))) lh'=some lh'') (hv':V.back (ids++bC s.nid (lh'.length-ids.length)) v=some v') :
  Evt λk=>cP X.P (X.call k) s.nid o s=some (.val v' { s with tmps:=unviewIn (ids++bC s.nid (lh'.length-ids.length)) s.tmps,heap:=dI (ids++bC s.nid (lh'.length-ids.length)) lh'' s.heap,nid:=s.nid+(lh'.length-ids.length) },⟨ids,ids,[]⟩):=
 hv.imp λk p=>by simp only[cP,ho,hc,hf,ha,lY,hr,hi,hb,p,hk,hv']
end
end Go.AM
namespace Go.AM
open Go
section
variable {P:Program} {call:Call} {id:Nat} {o:Oper} {s:St}
theorem AtP {t:TypeId} {x i:Operand} {l:List UInt8} {k:IntKind} {n:Int} {b:UInt8} (ho:o.op=.index t x i) (ht:P.underlying t=some .string) (hx:ev s.tmps x=some (.c (.d (.str l))))
  (hi:ev s.tmps i=some (.c (.d (.int k n)))) (h0:0<=n) (hb:l[n.toNat]?=some b):cP P call id o s=some (.val (.d (AbE b)) s,⟨cL o s.tmps,[],[]⟩):=by
 simp only[cP,ho,evR,ht,hx,hi,h0,if_true,hb]
theorem AtO {t e:TypeId} {x i:Operand} {sz:Nat} {xs:List D} {k:IntKind} {n:Int} {d:D} (ho:o.op=.indexAddr t x i) (ht:mN P t=some e) (hz:some sz=tsz P e) (hx:(ev s.tmps x).bind V.toD=some (.list sz xs))
  (hi:ev s.tmps i=some (.c (.d (.int k n)))) (h0:0<=n) (hb:xs[n.toNat]?=some d):cP P call id o s=some (.val (.rptr d.cells) s,⟨cL o s.tmps,[],[]⟩):=by
 obtain⟨v,hv,hd⟩:=Option.bind_eq_some_iff.1 hx
 cases v with
 |c y=>
  cases y with
  |arr b n k=>simp[V.toD,C.toD] at hd
  |_=>simp only[cP,ho,evR,ht,hv,hi,hd,h0,hz,and_self,if_true,hb]
 |_=>simp only[cP,ho,evR,ht,hv,hi,hd,h0,hz,and_self,if_true,hb]
theorem AdX {t:TypeId} {x:Operand} {lo hi:Option Operand} {l:List UInt8} {a b:Nat} (ho:o.op=.slice t x lo hi none) (ht:P.underlying t=some .string) (hx:evT P t s.tmps x=some (.c (.d (.str l))))
  (hl:fX s.tmps lo 0=some a) (hh:fX s.tmps hi l.length=some b) (h1:a<=b) (h2:b<=l.length) :
  cP P call id o s=some (.val (.d (.str ((l.take b).drop a))) s,⟨cL o s.tmps,[],[]⟩):=by
 simp only[cP,ho,evR,hx,Au1,ht,V.toD,C.toD,hl,hh,AgT,h1,h2,and_self,if_true,Option.map_some]
theorem pR {tm:List (Nat×V)} {x:Operand} {k:IntKind} {n:Int} {d:Nat} (hx:ev tm x=some (.c (.d (.int k n)))) (h:0<=n):fX tm (some x) d=some n.toNat:=by
 simp only[fX,hx,h,if_true]
theorem AcM {t e:TypeId} {x:Operand} {lo hi:Option Operand} {v:V} {sz:Nat} {xs:List D} {a b:Nat} (ho:o.op=.slice t x lo hi none) (ht:P.underlying t=some (.slice e)) (hz:tsz P e=some sz) (hx:evT P t s.tmps x=some v) (hv:v.toD=some (.list sz xs))
  (hl:fX s.tmps lo 0=some a) (hh:fX s.tmps hi xs.length=some b) (h1:a<=b) (h2:b<=xs.length) :
  cP P call id o s=some (.val (.d (.list sz ((xs.take b).drop a))) s,⟨cL o s.tmps,[],[]⟩):=by
 simp[cP,ho,evR,hx,Ad6 hv,ht,hv,hl,hh,AgT,h1,h2,hz]
theorem BbK {t u:TypeId} {x y:Operand} {a b:List UInt8} (ho:o.op=.binOp .add t x y u) (hx:evT P t s.tmps x=some (.c (.d (.str a)))) (hy:evT P t s.tmps y=some (.c (.d (.str b)))) (h:a.length+b.length<=room) :
  cP P call id o s=some (.val (.d (.str (a++b))) s,⟨cL o s.tmps,[],[]⟩):=by
 simp only[cP,ho,evR,hx,hy,AvC,BaS,h,if_true]
theorem BdR {src dst e:TypeId} {x:Operand} {a:List UInt8} (ho:o.op=.convert src dst x) (hs:P.underlying src=some .string) (hd:P.underlying dst=some (.slice e)) (he:P.underlying e=some (.int .u8)) (hz:tsz P e=some 1)
  (hx:evT P src s.tmps x=some (.c (.d (.str a)))) (h:a.length<=room):cP P call id o s=some (.val (.c (.own 1 (a.map AbE))) s,⟨cL o s.tmps,[],[]⟩):=by
 simp only[cP,ho,evR,hx,AvJ,hs,hd,he,h,hz,and_self,if_true]
theorem AqN {c:Go.Call} {t u e:TypeId} {x y:Operand} {n z:Nat} {yv:V} {ys:List D} (ho:o.op=.call c) (hc:c.callee=.builtin .append) (ha:c.args.toList=[x,y]) (hat:c.argTypes.toList=[t,u]) (ht:mN P t=some e) (hn:tsz P e=some n) (hu:gQ P u=true)
  (hb:P.bytesOf e<=1024/\kU P e n=true) (hx:evT P t s.tmps x=some (.c (.nilsl z))) (hy:evT P u s.tmps y=some yv) (hys:appended yv=some (n,ys)) (hl:ys.length<=4294967296) :
  cP P call id o s=some (.val (.c (.own n ys)) s,bR x s.tmps):=by
 simp only[cP,ho,hc,ha,hat,iX,ht,hn,hu,hx,hy,hys,bJ,hb,and_self,if_true,hl]
theorem AoV {c:Go.Call} {t u e:TypeId} {x y:Operand} {n w:Nat} {yv:V} {xs ys zs:List D} (ho:o.op=.call c) (hc:c.callee=.builtin .append) (ha:c.args.toList=[x,y]) (hat:c.argTypes.toList=[t,u]) (ht:mN P t=some e) (hn:tsz P e=some n) (hu:gQ P u=true)
  (hb:P.bytesOf e<=1024/\kU P e n=true) (hx:evT P t s.tmps x=some (.view (.tmp w) n xs)) (hw:look w s.tmps=some (.c (.own n zs))) (hy:evT P u s.tmps y=some yv) (hys:appended yv=some (n,ys)) (hl:xs.length+ys.length<=4294967296) :
  cP P call id o s=some (.val (.c (.own n (xs++ys))) { s with tmps:=plainAt w s.tmps },bR x s.tmps):=by
 simp only[cP,ho,hc,ha,hat,iX,ht,hn,hu,hx,hy,hys,bJ,hb,and_self,if_true,hw,hl]
theorem AoU {c:Go.Call} {t u e:TypeId} {x y:Operand} {n b off:Nat} {yv:V} {xs ys zs:List D} {cells:List C} (ho:o.op=.call c) (hc:c.callee=.builtin .append) (ha:c.args.toList=[x,y]) (hat:c.argTypes.toList=[t,u]) (ht:mN P t=some e) (hn:tsz P e=some n) (hu:gQ P u=true)
  (hb:P.bytesOf e<=1024/\kU P e n=true) (hx:evT P t s.tmps x=some (.view (.cell b off) n xs)) (hw:xC b s.heap=some cells) (hw':cells[off]?=some (.own n zs)) (hy:evT P u s.tmps y=some yv) (hys:appended yv=some (n,ys)) (hl:xs.length+ys.length<=4294967296) :
  cP P call id o s=some (.val (.c (.own n (xs++ys))) { s with heap:=upd b (cells.set off (.d (.list n xs))) s.heap },bR x s.tmps):=by
 simp only[cP,ho,hc,ha,hat,iX,ht,hn,hu,hx,hy,hys,bJ,hb,and_self,if_true,hw,hw',hl]
end
section
variable {X:Ctx} {Q:AX->St->Prop} {s:St}
theorem BfP {ops:Array Oper} {vs:List Nat} {base i:Nat} {pre:List Fp} {o:Oper} {l:List Oper} {v:V} {s1 s2:St} {ft:eM} (hw:wantedAt ops s.tmps o=some true) (hm:aP o=false)
  (hop:Evt λk=>cP X.P (X.call k) s.nid o s=some (.val v s1,ft)) (hp:uY o.dst (gO vs o.dst v) (afterApp o s1)=some s2)
  (h:nK X ops vs base (pre++[(qS ops o s (gO vs o.dst v) s1 ft).fill s2]) l (i+1) Q s2):nK X ops vs base pre (o::l) i Q s:=
 At5 hw (hop.imp λk p=>by simp only[eD,hm,fJ,if_false,dY,p]) hp h
end
end Go.AM
namespace Go.AM
open Go
section
variable {X:Ctx} {f:Nat} {Q:AX->St->Prop} {tm tm':List (Nat×V)} {hp:List (Nat×List C)} {nid:Nat} {df:List (Nat×List Nat)} {pn:Option D}
def AbT {α:Type}:List Nat->List (Nat×V)->(List (Nat×V)->α)->α
 | [],_,k=>k []
 |t::r,tm,k=>match look t tm with
  |some (.view _ sz xs)=>AbT r tm λl=>k ((t,.d (.list sz xs))::l)
  |some v=>AbT r tm λl=>k ((t,v)::l)
  |none=>AbT r tm k
theorem tS {α:Type}:∀(ks:List Nat) (tm:List (Nat×V)) (k:List (Nat×V)->α),AbT ks tm k=k (tT ks tm)
 | [],_,_=>rfl
 |t::r,tm,k=>by
  simp only[AbT,tT]
  cases h:look t tm with
  |none=>simp only[tS]
  |some v=>cases v<;>simp only[tS]
theorem oE:∀tm:List (Nat×V),unviewIn [] tm=tm
 | []=>rfl
 |(t,v)::r=>by
  cases v with
  |view l sz xs=>cases l<;>simp[unviewIn,oE r]
  |_=>simp[unviewIn,oE r]
theorem kY {fn:Func} {code:Code} {args args':List C} {lh:List (List C)} {r:aE} {n:Nat} (hE:X.E f=none) (hf:X.P.funcs[f]?=some fn) (hb:fn.body=some code) (hst:(if (X.H f 999999).isEmpty then args.map C.still else args)=args') (hl:args'.length=fn.params.size+fn.nfree)
  (ht:nJ 0 (args'.map λc=>V.c c.plain)=tm) (hh:nJ 0 lh=hp) (hn:lh.length=n) (h:awp X f code (wZ X fn n r) ⟨tm,hp,n,[],none⟩) (hlow:Nat.blt f yN=true:=by rfl):aval X f args lh r:=
 BfO hE hf hb hst hl (by unfold zW; rw[ht,hh,hn]; exact h) hlow
theorem Av4 {g:Nat} {fn:Func} {code:Code} {args args':List C} {lh:List (List C)} {r:aE} {n:Nat} (hg:g=f+yN) (hf:X.P.funcs[f]?=some fn) (hb:fn.body=some code) (hst:args.map C.still=args') (hl:args'.length=fn.params.size+fn.nfree)
  (ht:nJ 0 (args'.map λc=>V.c c.plain)=tm) (hh:nJ 0 lh=hp) (hn:lh.length=n) (h:awp X g code (Ay6 X fn n r) ⟨tm,hp,n,[],none⟩):AzN X f args lh r:=
 BcW hg hf hb hst hl (by unfold zW; rw[ht,hh,hn]; exact h)
end
end Go.AM
namespace Go.AM
open Go
section
variable {X:Ctx} {f:Nat} {Q:AX->St->Prop} {s:St}
inductive cH (R:St->Prop) (Q:AX->St->Prop):AX->St->Prop where
 |normal {s:St}:R s->cH R Q .normal s
 |exit {id:Nat} {s:St}:Q (.exit id) s->cH R Q (.exit id) s
 |ret {s:St}:Q .ret s->cH R Q .ret s
 |pan {d:D} {s:St}:Q (.pan d) s->cH R Q (.pan d) s
end
end Go.AM
namespace Go.AM
open Go
section
variable {X:Ctx} {f:Nat} {Q:AX->St->Prop} {tm tm':List (Nat×V)} {hp hp':List (Nat×List C)} {nid nid':Nat} {df df':List (Nat×List Nat)} {pn pn':Option D}
end
end Go.AM
namespace Go.AM
open Go
def ApV {α:Type} (d:Nat) (b:Bool):List (Nat×V)->(List (Nat×V)->α)->α
 | [],k=>k []
 |(j,v)::r,k=>if j=d then k ((j,.d (.bool b))::r) else ApV d b r λl=>k ((j,v)::l)
theorem AgQ {α:Type} {d:Nat} {b:Bool}:∀{tm:List (Nat×V)} {k:List (Nat×V)->α},look d tm=some (.c (.d (.bool b)))->ApV d b tm k=k tm
 | [],_,h=>by simp[look] at h
 |(j,v)::r,k,h=>by
  simp only[look] at h
  simp only[ApV]
  by_cases hj:j=d
  ·rw[if_pos hj] at h ⊢
   simp only[sJ] at h
   rw[h]
  rw[if_neg hj] at h ⊢
  rw[AgQ h]
section
variable {X:Ctx} {f:Nat} {Q:AX->St->Prop} {tm tm0 tm1:List (Nat×V)} {hp:List (Nat×List C)} {nid:Nat} {df:List (Nat×List Nat)} {pn:Option D}
def AkY {α:Type} (l:Loc):List (Nat×V)->(List (Nat×V)->α)->α
 | [],k=>k []
 |(t,v)::r,k=>match v with
  |.view l' sz xs=>AkY l r λr=>k ((t,if l'=l then .d (.list sz xs) else .view l' sz xs)::r)
  |v=>AkY l r λr=>k ((t,v)::r)
theorem Aq5 {α:Type} {l:Loc}:∀{tm:List (Nat×V)} {k:List (Nat×V)->α},AkY l tm k=k (unview l tm)
 | [],_=>rfl
 |(t,v)::r,k=>by cases v<;>simp only[AkY,unview,Aq5]
end
section
variable {X:Ctx} {f:Nat} {Q:AX->St->Prop} {tm tm' tm1 tm2:List (Nat×V)} {hp hp':List (Nat×List C)} {nid:Nat} {df:List (Nat×List Nat)} {pn:Option D}
end
section
variable {X:Ctx} {f:Nat} {Q:AX->St->Prop} {tm:List (Nat×V)} {hp:List (Nat×List C)} {nid:Nat} {df:List (Nat×List Nat)} {pn:Option D}
end
end Go.AM
namespace Go.AM
open Go
abbrev Str:=List UInt8
def lget {α:Type} (l:List α) (i:Int):Option α:=if 0<=i then l[i.toNat]? else none
def sget (s:Str) (i:Int):Option Int:=if 0<=i then (s[i.toNat]?).map λb=>(b.toNat:Int) else none
def sfrom (s:Str) (lo:Int):Option Str:=if 0<=lo/\lo.toNat<=s.length then some (s.drop lo.toNat) else none
def sto (s:Str) (hi:Int):Option Str:=if 0<=hi/\hi.toNat<=s.length then some (s.take hi.toNat) else none
def smid (s:Str) (lo hi:Int):Option Str:=if 0<=lo/\lo<=hi/\hi.toNat<=s.length then some ((s.take hi.toNat).drop lo.toNat) else none
def lfrom {α:Type} (s:List α) (lo:Int):Option (List α):=if 0<=lo/\lo.toNat<=s.length then some (s.drop lo.toNat) else none
def lto {α:Type} (s:List α) (hi:Int):Option (List α):=if 0<=hi/\hi.toNat<=s.length then some (s.take hi.toNat) else none
def Af4 {α:Type} (s:List α) (lo hi:Int):Option (List α):=if 0<=lo/\lo<=hi/\hi.toNat<=s.length then some ((s.take hi.toNat).drop lo.toNat) else none
def lapp {α:Type} (l m:List α):Option (List α):=if l.length+m.length<=4294967296 then some (l++m) else none
def scat (a b:Str):Option Str:=if a.length+b.length<=1099511627776 then some (a++b) else none
def u8I (b:UInt8):Int:=b.toNat
def sbytes (s:Str):Option (List Int):=if s.length<=1099511627776 then some (s.map u8I) else none
def Bi2 (l:List Int):Str:=l.map λn=>UInt8.ofNat n.toNat
def w64 (x:Int):Int:=IntKind.i64.wrap x
theorem AkF {α:Type} {c:Bool} {a b:Option α} {r:α} (h:(if c=true then a else b)=some r):(c=true/\a=some r)\/(c=false/\b=some r):=by
 cases c with
 |true=>exact .inl ⟨rfl,h⟩
 |false=>exact .inr ⟨rfl,h⟩
theorem Af8 {α β:Type} {x:Option α} {k:α->Option β} {r:β} (h:(x>>=k)=some r):∃y,x=some y/\k y=some r:=by
 cases x with
 |none=>cases h
 |some y=>exact⟨y,rfl,h⟩
def AcS:Call:=λ_ _ _=>none
theorem xX (f:Nat) (args:List C) (s:St):lY AcS f args s=none:=by
 unfold lY
 split
 ·rfl
 split<;>rfl
theorem vE {P:Program} {id:Nat} {o:Oper} {s:St} {r:gA×eM} (h:cP P AcS id o s=some r) (call:Call):cP P call id o s=some r:=by
 unfold cP at h ⊢
 cases ho:o.op with
 |call c=>
  simp only[ho] at h ⊢
  cases hc:c.callee with
  |value f=>
   simp only[hc] at h
   split at h
   ·rw[xX] at h; simp at h
   ·rw[xX] at h; simp at h
   simp at h
  |builtin b=>cases b<;>(simp only[hc] at h ⊢; exact h)
  |invoke a b=>simp[hc] at h
 |makeMap t r=>cases r<;>(simp only[ho] at h ⊢; exact h)
 |_=>simp only[ho] at h ⊢; exact h
def qN {α β:Type}:List α->(List α->β)->β
 | [],k=>k []
 |x::r,k=>qN r λr=>k (x::r)
theorem iI {α β:Type}:∀{l:List α} {k:List α->β},qN l k=k l
 | [],_=>rfl
 |x::r,k=>by simp only[qN,iI]
def ApO {α:Type} (dst:Option Nat) (v:V) (tm:List (Nat×V)) (k:List (Nat×V)->Option α):Option α:=match dst with
 |none=>qN tm k
 |some d=>match v with
  |.c (.own sz xs)=>AkY (.tmp d) tm λr=>k ((d,.c (.own sz xs))::r)
  |v=>qN tm λtm=>k ((d,v)::tm)
theorem AkR {α:Type} {dst:Option Nat} {v:V} {s:St} {k:List (Nat×V)->Option α}:ApO dst v s.tmps k=k (lV dst v s).tmps:=by
 cases dst with
 |none=>simp only[ApO,lV,iI]
 |some d=>
  cases v with
  |c x=>cases x<;>simp only[ApO,lV,nY,Aq5,iI]
  |_=>simp only[ApO,lV,nY,iI]
theorem uZ (dst:Option Nat) (v:V) (s:St):lV dst v s=⟨(lV dst v s).tmps,s.heap,s.nid,s.defers,s.pan⟩:=by
 cases dst<;>rfl
def tH {β:Type}:List (Nat×List C)->(List (Nat×List C)->β)->β
 | [],k=>k []
 |(b,cs)::r,k=>qN cs λcs=>tH r λr=>k ((b,cs)::r)
theorem pC {β:Type}:∀{l:List (Nat×List C)} {k:List (Nat×List C)->β},tH l k=k l
 | [],_=>rfl
 |(b,cs)::r,k=>by simp only[tH,iI,pC]
def xZ (o:Oper):Bool:=match o.op with
 |.defer _|.makeMap _ _|.insert _ _ _ _|.mapUpdate _ _ _ _=>true
 |_=>false
theorem AlC {P:Program} {call:Call} {id:Nat} {o:Oper} {tm:List (Nat×V)} {hp:List (Nat×List C)} {nid:Nat} {df:List (Nat×List Nat)} {pn:Option D} {v:V} {s':St} {ft:eM} (hc:call=AcS) (hid:aP o=true->id=nid)
  (h:cP P call id o ⟨tm,hp,nid,df,pn⟩=some (.val v s',ft)) (hd:xZ o=false) :
  s'=⟨s'.tmps,s'.heap,(match aP o with|true=>nid+1|false=>nid),df,pn⟩:=by
 subst hc
 unfold cP at h
 cases ho:o.op with
 |assign x=>
  simp only[ho] at h
  simp only[aP,ho]
  split at h
  ·split at h
   ·simp only[sJ,pJ,gA.val.injEq] at h
    obtain⟨⟨_,rfl⟩,_⟩:=h; rfl
   ·simp at h
  ·simp only[sJ,pJ,gA.val.injEq] at h
   obtain⟨⟨_,rfl⟩,_⟩:=h; rfl
  ·simp only[sJ,pJ,gA.val.injEq] at h
   obtain⟨⟨_,rfl⟩,_⟩:=h; rfl
  ·simp only[sJ,pJ,gA.val.injEq] at h
   obtain⟨⟨_,rfl⟩,_⟩:=h; rfl
  ·simp only[sJ,pJ,gA.val.injEq] at h
   obtain⟨⟨_,rfl⟩,_⟩:=h; rfl
  simp at h
 |store t x y=>
  simp only[ho] at h
  simp only[aP,ho]
  repeat' (first|(split at h)|(simp at h; done))
  all_goals first
   |(simp at h; done)
   |(simp only[sJ,pJ,gA.val.injEq] at h; obtain⟨⟨_,rfl⟩,_⟩:=h; rfl)
 |defer c=>simp[xZ,ho] at hd
 |makeMap t r=>simp[xZ,ho] at hd
 |insert t m k x=>simp[xZ,ho] at hd
 |mapUpdate t m k x=>simp[xZ,ho] at hd
 |panic x=>
  simp only[ho] at h
  split at h<;>simp at h
 |call c=>
  simp only[ho] at h
  simp only[aP,ho]
  split at h
  ·split at h
   ·split at h
    ·rename_i hap
     simp only[sJ,pJ,gA.val.injEq] at h
     obtain⟨⟨_,rfl⟩,_⟩:=h
     unfold iX at hap
     repeat' (first|(split at hap)|(simp at hap; done))
     all_goals first
      |(simp at hap; done)
      |(simp only[sJ,pJ] at hap; obtain⟨_,rfl⟩:=hap; rfl)
    ·simp at h
   ·simp at h
  ·split at h
   ·split at h
    ·rename_i hap
     simp only[sJ,pJ,gA.val.injEq] at h
     obtain⟨⟨_,rfl⟩,_⟩:=h
     unfold Al7 at hap
     repeat' (first|(split at hap)|(simp at hap; done))
     all_goals first
      |(simp at hap; done)
      |(simp only[sJ,pJ] at hap; obtain⟨_,rfl⟩:=hap; rfl)
    ·simp at h
   ·simp at h
  ·split at h
   ·simp only[sJ,pJ,gA.val.injEq] at h
    obtain⟨⟨_,rfl⟩,_⟩:=h; rfl
   ·simp at h
  ·split at h
   ·rw[xX] at h; simp at h
   ·rw[xX] at h; simp at h
   ·simp at h
  simp at h
 |makeSlice t l c=>
  simp only[ho] at h
  split at h
  ·rename_i hev
   simp only[sJ,pJ,gA.val.injEq] at h
   obtain⟨⟨_,rfl⟩,_⟩:=h
   have hm:aP o=false:=by
    cases hs:qJ l c with
    |false=>simp[aP,ho,hs]
    |true=>
     exfalso
     simp only[evR,ho,hs,if_true] at hev
     repeat' (first|(split at hev)|(simp at hev; done))
   rw[hm]
  ·split at h
   ·rename_i hev _
    simp only[sJ,pJ,gA.val.injEq] at h
    obtain⟨⟨_,rfl⟩,_⟩:=h
    by_cases hm:aP o=true
    ·rw[hm,hid hm]
    haveI:cM:=⟨[]⟩
    exact absurd hev (AfU (by simpa using hm))
   ·simp at h
  simp at h
 |buildSlice t n ps=>
  simp only[ho] at h
  split at h
  ·rename_i hev
   simp only[sJ,pJ,gA.val.injEq] at h
   obtain⟨⟨_,rfl⟩,_⟩:=h
   have hm:aP o=false:=by
    cases hs:AlG ps.toList with
    |none=>simp[aP,ho,hs]
    |some gs=>
     exfalso
     simp only[evR,ho,hs,Bi7] at hev
     repeat' (first|(split at hev)|(simp at hev; done))
   rw[hm]
  ·split at h
   ·rename_i hev _
    simp only[sJ,pJ,gA.val.injEq] at h
    obtain⟨⟨_,rfl⟩,_⟩:=h
    by_cases hm:aP o=true
    ·rw[hm,hid hm]
    haveI:cM:=⟨[]⟩
    exact absurd hev (AfU (by simpa using hm))
   ·simp at h
  simp at h
 |_=>
  simp only[ho] at h
  split at h
  ·rename_i hev
   simp only[sJ,pJ,gA.val.injEq] at h
   obtain⟨⟨_,rfl⟩,_⟩:=h
   first
    |(simp only[aP,ho]; done)
    |(exfalso; simp only[evR,ho] at hev; repeat' (first|(split at hev)|(simp at hev; done)))
    |rfl
  ·split at h
   ·rename_i hev _
    simp only[sJ,pJ,gA.val.injEq] at h
    obtain⟨⟨_,rfl⟩,_⟩:=h
    by_cases hm:aP o=true
    ·rw[hm,hid hm]
    haveI:cM:=⟨[]⟩
    exact absurd hev (AfU (by simpa using hm))
   ·simp at h
  simp at h
def AlS {α:Type} (P:Program) (ops:Array Oper):Nat->List Oper->List (Nat×V)->List (Nat×List C)->Nat->List (Nat×List Nat)->Option D->(List Oper->List (Nat×V)->List (Nat×List C)->Nat->List (Nat×List Nat)->Option D->Option α)->Option α
 |0,l,tm,hp,nid,df,pn,k=>k l tm hp nid df pn
 |_+1,[],_,_,_,_,_,_=>none
 |n+1,o::l,tm,hp,nid,df,pn,k=>match wantedAt ops tm o with
  |none=>none
  |some false=>ApO o.dst (.c .undef) tm λtm=>AlS P ops n l tm hp nid df pn k
  |some true=>match xZ o with
   |true=>none
   |false=>match cP P AcS nid o ⟨tm,hp,nid,df,pn⟩ with
    |some (.val v s',_)=>ApO o.dst v s'.tmps λtm=>tH s'.heap λhp=>match aP o with
     |true=>AlS P ops n l tm hp (nid+1) df pn k
     |false=>AlS P ops n l tm hp nid df pn k
    |_=>none
section
variable {X:Ctx} {f:Nat} {Q:AX->St->Prop} {tm tm':List (Nat×V)} {hp hp':List (Nat×List C)} {nid nid':Nat} {df:List (Nat×List Nat)} {pn:Option D}
theorem Ae7 {α:Type} {ops:Array Oper}:∀{n:Nat} {l:List Oper} {tm:List (Nat×V)} {hp:List (Nat×List C)} {nid:Nat} {df:List (Nat×List Nat)} {pn:Option D} {k:List Oper->List (Nat×V)->List (Nat×List C)->Nat->List (Nat×List Nat)->Option D->Option α} {a:α},
  AlS X.P ops n l tm hp nid df pn k=some a->∃l' tm' hp' nid' df' pn',k l' tm' hp' nid' df' pn'=some a/\(pB X ops l' Q ⟨tm',hp',nid',df',pn'⟩->pB X ops l Q ⟨tm,hp,nid,df,pn⟩)
 |0,l,tm,hp,nid,df,pn,k,a,h=>by
  simp only[AlS] at h
  exact⟨l,tm,hp,nid,df,pn,h,λh=>h⟩
 |n+1,[],tm,hp,nid,df,pn,k,a,h=>by simp[AlS] at h
 |n+1,o::l,tm,hp,nid,df,pn,k,a,h=>by
  simp only[AlS] at h
  split at h
  ·simp at h
  ·rename_i hw
   rw[show tm=(⟨tm,hp,nid,df,pn⟩:St).tmps from rfl,AkR] at h
   obtain⟨l',tm',hp',nid',df',pn',h1,h2⟩:=Ae7 h
   refine⟨l',tm',hp',nid',df',pn',h1,λhh=>Bb4 hw ?_⟩
   have:=h2 hh
   rw[putDst,uZ]
   exact this
  rename_i hw
  split at h
  ·simp at h
  rename_i hd
  split at h
  ·rename_i v s' ft hev
   have hr:=AlC rfl (λ_=>rfl) hev hd
   rw[AkR,pC] at h
   cases hm:aP o with
   |true=>
    simp only[hm] at h hr
    obtain⟨l',tm',hp',nid',df',pn',h1,h2⟩:=Ae7 h
    refine⟨l',tm',hp',nid',df',pn',h1,λhh=>AjK hw (λcall=>vE hev call) ?_⟩
    have:=h2 hh
    rw[putDst,uZ]
    rw[hr] at this ⊢
    exact this
   |false=>
    simp only[hm] at h hr
    obtain⟨l',tm',hp',nid',df',pn',h1,h2⟩:=Ae7 h
    refine⟨l',tm',hp',nid',df',pn',h1,λhh=>AjK hw (λcall=>vE hev call) ?_⟩
    have:=h2 hh
    rw[putDst,uZ]
    rw[hr] at this ⊢
    exact this
  simp at h
def AoZ (l:List Oper) (tm:List (Nat×V)) (hp:List (Nat×List C)) (nid:Nat) (df:List (Nat×List Nat)) (pn:Option D):Option (List Oper×List (Nat×V)×List (Nat×List C)×Nat×List (Nat×List Nat)×Option D):=some (l,tm,hp,nid,df,pn)
variable {df':List (Nat×List Nat)} {pn':Option D}
theorem on (n:Nat) {ops:Array Oper} {l l':List Oper} (h:AlS X.P ops n l tm hp nid df pn AoZ=some (l',tm',hp',nid',df',pn')) (hh:pB X ops l' Q ⟨tm',hp',nid',df',pn'⟩):pB X ops l Q ⟨tm,hp,nid,df,pn⟩:=by
 obtain⟨_,_,_,_,_,_,h1,h2⟩:=Ae7 (Q:=Q) h
 simp only[AoZ,sJ,pJ] at h1
 obtain⟨rfl,rfl,rfl,rfl,rfl,rfl⟩:=h1
 exact h2 hh
theorem rn (n:Nat) {id:Nat} {ops:Array Oper} {l':List Oper} (h:AbT (X.H f id) tm (λtm=>AlS X.P ops n ops.toList tm hp nid df pn AoZ)=some (l',tm',hp',nid',df',pn')) (hh:pB X ops l' Q ⟨tm',hp',nid',df',pn'⟩) (hz:noF (X.H f id)=true:=by rfl) :
  awp X f (.region id ops false) Q ⟨tm,hp,nid,df,pn⟩:=by
 rw[tS] at h
 exact Ao5 hz (on n h hh)
theorem rnF (n:Nat) {id:Nat} {ops:Array Oper} {l':List Oper} {tm0:List (Nat×V)} {hp0:List (Nat×List C)} {nid0:Nat} (hz:frz (X.H f id) ⟨tm,hp,nid,df,pn⟩=some ⟨tm0,hp0,nid0,df,pn⟩) (h:AbT (X.H f id) tm0 (λtm=>AlS X.P ops n ops.toList tm hp0 nid0 df pn AoZ)=some (l',tm',hp',nid',df',pn')) (hh:pB X ops l' Q ⟨tm',hp',nid',df',pn'⟩) (hM:isM (X.H f id)=false:=by rfl) :
  awp X f (.region id ops false) Q ⟨tm,hp,nid,df,pn⟩:=by
 rw[tS] at h
 exact Am5 hM hz (on n h hh)
theorem ra {id:Nat} {ops:Array Oper} {b:Code} (h:AbT (X.H f id) tm (λtm=>AlS X.P ops ops.size ops.toList tm hp nid df pn AoZ)=some ([],tm',hp',nid',df',pn')) (hh:awp X f b Q ⟨tm',hp',nid',df',pn'⟩) (hz:noF (X.H f id)=true:=by rfl) :
  awp X f (.seq (.region id ops false) b) Q ⟨tm,hp,nid,df,pn⟩:=
 At7 (rn _ h (AjJ (.normal hh)) hz)
theorem rz {ops:Array Oper} {b:Code} (hh:awp X f b Q ⟨tm,hp,nid,df,pn⟩):pB X ops [] (kT X f b Q) ⟨tm,hp,nid,df,pn⟩:=AjJ (.normal hh)
theorem ct {o:Operand} {a b:Code} {c:Bool} (hc:ev tm o=some (.c (.d (.bool c)))) (e:c=true) (h:awp X f a (fN (X.H f (uI a b)) nid Q) ⟨tm,hp,nid,df,pn⟩):awp X f (.cond o a b) Q ⟨tm,hp,nid,df,pn⟩:=
 Av8 hc (λ_=>h) (λe'=>by rw[e] at e'; cases e')
theorem cf {o:Operand} {a b:Code} {c:Bool} (hc:ev tm o=some (.c (.d (.bool c)))) (e:c=false) (h:awp X f b (fN (X.H f (uI a b)) nid Q) ⟨tm,hp,nid,df,pn⟩):awp X f (.cond o a b) Q ⟨tm,hp,nid,df,pn⟩:=
 Av8 hc (λe'=>by rw[e] at e'; cases e') (λ_=>h)
theorem gt {ops:Array Oper} {o q:Oper} {l:List Oper} {j d:Nat} {want b:Bool} (hg:o.guard=some (j,want)) (hq:ops[j]?=some q) (hd:q.dst=some d) (hl:look d tm=some (.c (.d (.bool b)))) (e:b=true)
  (e1:ApV d true tm some=some tm') (h:pB X ops (o::l) Q ⟨tm',hp,nid,df,pn⟩):pB X ops (o::l) Q ⟨tm,hp,nid,df,pn⟩:=by
 have _:=hg; have _:=hq; have _:=hd
 subst e
 rw[AgQ hl,sJ] at e1
 rw[e1]; exact h
theorem gf {ops:Array Oper} {o q:Oper} {l:List Oper} {j d:Nat} {want b:Bool} (hg:o.guard=some (j,want)) (hq:ops[j]?=some q) (hd:q.dst=some d) (hl:look d tm=some (.c (.d (.bool b)))) (e:b=false)
  (e1:ApV d false tm some=some tm') (h:pB X ops (o::l) Q ⟨tm',hp,nid,df,pn⟩):pB X ops (o::l) Q ⟨tm,hp,nid,df,pn⟩:=by
 have _:=hg; have _:=hq; have _:=hd
 subst e
 rw[AgQ hl,sJ] at e1
 rw[e1]; exact h
theorem fV {α:Type} {l:List α} {i:Int} {x:α} (h:lget l i=some x):0<=i/\l[i.toNat]?=some x:=by
 unfold lget at h
 split at h
 ·exact⟨by assumption,h⟩
 cases h
def EvO (X:Ctx) (o:Oper) (s:St) (v:V) (s1:St) (ft:eM):Prop:=Evt λk=>cP X.P (X.call k) s.nid o s=some (.val v s1,ft)
theorem po {ops:Array Oper} {o:Oper} {l:List Oper} {v:V} {tm1:List (Nat×V)} {hp1:List (Nat×List C)} {ft:eM} {nid1:Nat} (hop:EvO X o ⟨tm,hp,nid,df,pn⟩ v ⟨tm1,hp1,nid1,df,pn⟩ ft) (hw:wantedAt ops tm o=some true)
  (hk:ApO o.dst v tm1 (λtm=>tH hp1 λhp=>some (tm,hp))=some (tm',hp')) (h:pB X ops l Q ⟨tm',hp',nid1,df,pn⟩):pB X ops (o::l) Q ⟨tm,hp,nid,df,pn⟩:=by
 refine At6 (s:=⟨tm,hp,nid,df,pn⟩) hw hop ?_
 rw[show tm1=(⟨tm1,hp1,nid1,df,pn⟩:St).tmps from rfl,AkR,pC] at hk
 simp only[sJ,pJ] at hk
 obtain⟨rfl,rfl⟩:=hk
 rw[putDst,uZ]
 exact h
def AcH {β:Type}:List Lc->(List Lc->β)->β
 | [],k=>k []
 |x::r,k=>match x with
  |.tmp a=>AcH r λr=>k (.tmp a::r)
  |.blk a=>AcH r λr=>k (.blk a::r)
  |.nid=>AcH r λr=>k (.nid::r)
  |.defs=>AcH r λr=>k (.defs::r)
  |.vb a=>AcH r λr=>k (.vb a::r)
  |.vt a=>AcH r λr=>k (.vt a::r)
theorem ArB {β:Type}:∀{l:List Lc} {k:List Lc->β},AcH l k=k l
 | [],_=>rfl
 |x::r,k=>by cases x<;>simp only[AcH,ArB]
def fpK {β:Type} (f:Fp) (k:Fp->β):β:=match f with
 |⟨rd,wr,refs,all⟩=>AcH rd λrd=>AcH wr λwr=>qN refs λrefs=>match all with
  |true=>k ⟨rd,wr,refs,true⟩
  |false=>k ⟨rd,wr,refs,false⟩
theorem Ap5 {β:Type} {f:Fp} {k:Fp->β}:fpK f k=k f:=by
 obtain⟨rd,wr,refs,all⟩:=f
 simp only[fpK,ArB,iI]
 cases all<;>rfl
theorem Aa9 {dst:Option Nat} {v:V} {tm1:List (Nat×V)} {hp1:List (Nat×List C)} {s2:St} (h:uY dst v ⟨tm1,hp1,nid,df,pn⟩=some s2):s2=⟨s2.tmps,s2.heap,nid,df,pn⟩:=by
 cases dst with
 |none=>simp only[uY,sJ] at h; subst h; rfl
 |some d=>
  simp only[uY] at h
  split at h
  ·simp only[sJ] at h; subst h; rfl
  simp at h
theorem pd {ops:Array Oper} {vs:List Nat} {base i i':Nat} {pre pre':List Fp} {o:Oper} {l:List Oper} {v:V} {tm1:List (Nat×V)} {hp1:List (Nat×List C)} {ft:eM} {nid1:Nat} (hop:EvO X o ⟨tm,hp,nid,df,pn⟩ v ⟨tm1,hp1,nid1,df,pn⟩ ft) (hw:wantedAt ops tm o=some true) (hm:aP o=false)
  (hk:(uY o.dst (gO vs o.dst v) (afterApp o ⟨tm1,hp1,nid1,df,pn⟩)).bind (λs2=>qN s2.tmps λtm=>tH s2.heap λhp=>some (tm,hp))=some (tm',hp'))
  (hf:fpK ((qS ops o ⟨tm,hp,nid,df,pn⟩ (gO vs o.dst v) ⟨tm1,hp1,nid1,df,pn⟩ ft).fill ⟨tm',hp',nid1,df,pn⟩) (λfp=>qN (pre++[fp]) some)=some pre') (hi:i+1=i')
  (h:nK X ops vs base pre' l i' Q ⟨tm',hp',nid1,df,pn⟩):nK X ops vs base pre (o::l) i Q ⟨tm,hp,nid,df,pn⟩:=by
 rw[Ap5,iI,sJ] at hf
 subst hi hf
 rw[Option.bind_eq_some_iff] at hk
 obtain⟨s2,h2,hk⟩:=hk
 rw[iI,pC] at hk
 simp only[sJ,pJ] at hk
 have hs2:=Aa9 h2
 obtain⟨rfl,rfl⟩:=hk
 rw[←hs2] at h
 exact BfP (s:=⟨tm,hp,nid,df,pn⟩) hw hm hop h2 h
def AfA {α:Type} (P:Program) (ops:Array Oper) (vs:List Nat) (base:Nat) (nid:Nat) (df:List (Nat×List Nat)) (pn:Option D):Nat->List Oper->Nat->List Fp->List (Nat×V)->List (Nat×List C)->(List Oper->Nat->List Fp->List (Nat×V)->List (Nat×List C)->Option α)->Option α
 |0,l,i,pre,tm,hp,k=>qN pre λpre=>k l i pre tm hp
 |_+1,[],_,_,_,_,_=>none
 |n+1,o::l,i,pre,tm,hp,k=>match wantedAt ops tm o with
  |none=>none
  |some false=>match uY o.dst (.c .undef) ⟨tm,hp,nid,df,pn⟩ with
   |some s1=>qN s1.tmps λtm=>tH s1.heap λhp=>fpK (Fp.fill ⟨(eO ops o).map .tmp,kC o.dst (.c .undef),[],false⟩ ⟨tm,hp,nid,df,pn⟩) λfp=>AfA P ops vs base nid df pn n l (i+1) (pre++[fp]) tm hp k
   |none=>none
  |some true=>match xZ o with
   |true=>none
   |false=>match eD P AcS ops vs (base+i) o ⟨tm,hp,nid,df,pn⟩ with
    |some (.val v s1,ft)=>match uY o.dst v s1 with
     |some s2=>qN s2.tmps λtm=>tH s2.heap λhp=>fpK (ft.fill ⟨tm,hp,nid,df,pn⟩) λfp=>AfA P ops vs base nid df pn n l (i+1) (pre++[fp]) tm hp k
     |none=>none
    |_=>none
theorem AmC {P:Program} {ops:Array Oper} {vs:List Nat} {id:Nat} {o:Oper} {tm:List (Nat×V)} {hp:List (Nat×List C)} {nid:Nat} {df:List (Nat×List Nat)} {pn:Option D} {v:V} {s1:St} {ft:Fp}
  (h:eD P AcS ops vs id o ⟨tm,hp,nid,df,pn⟩=some (.val v s1,ft)) (hd:xZ o=false):s1=⟨s1.tmps,s1.heap,nid,df,pn⟩:=by
 unfold eD at h
 split at h
 ·unfold zO at h
  split at h
  ·split at h
   ·split at h
    ·simp at h
    ·simp only[sJ,pJ,gA.val.injEq] at h
     obtain⟨⟨_,rfl⟩,_⟩:=h; rfl
   ·simp at h
  simp at h
 rename_i hm
 unfold dY at h
 split at h
 ·rename_i hev
  simp only[sJ,pJ,gA.val.injEq] at h
  obtain⟨⟨_,rfl⟩,_⟩:=h
  have:=AlC rfl (λe=>absurd e hm) hev hd
  simp only[Bool.not_eq_true] at hm
  simp only[hm] at this
  rw[this]; rfl
 ·simp at h
 simp at h
theorem AhS {P:Program} {ops:Array Oper} {vs:List Nat} {id:Nat} {o:Oper} {s s1:St} {v:V} {ft:Fp} (h:eD P AcS ops vs id o s=some (.val v s1,ft)) (call:Call):eD P call ops vs id o s=some (.val v s1,ft):=by
 unfold eD at h ⊢
 split at h
 ·rename_i hm
  rw[if_pos hm]; exact h
 rename_i hm
 rw[if_neg hm]
 unfold dY at h ⊢
 split at h
 ·rename_i hev
  rw[vE hev call]; exact h
 ·simp at h
 simp at h
theorem AfB {α:Type} {ops:Array Oper} {vs:List Nat} {base:Nat}:∀{n:Nat} {l:List Oper} {i:Nat} {pre:List Fp} {tm:List (Nat×V)} {hp:List (Nat×List C)} {k:List Oper->Nat->List Fp->List (Nat×V)->List (Nat×List C)->Option α} {a:α},
  AfA X.P ops vs base nid df pn n l i pre tm hp k=some a->∃l' i' pre' tm' hp',k l' i' pre' tm' hp'=some a/\(nK X ops vs base pre' l' i' Q ⟨tm',hp',nid,df,pn⟩->nK X ops vs base pre l i Q ⟨tm,hp,nid,df,pn⟩)
 |0,l,i,pre,tm,hp,k,a,h=>by
  simp only[AfA,iI] at h
  exact⟨l,i,pre,_,_,h,λh=>h⟩
 |n+1,[],i,pre,tm,hp,k,a,h=>by simp[AfA] at h
 |n+1,o::l,i,pre,tm,hp,k,a,h=>by
  simp only[AfA,iI,pC,Ap5] at h
  split at h
  ·simp at h
  ·rename_i hw
   split at h
   ·rename_i s1 hp
    have hr:=Aa9 hp
    obtain⟨l',i',pre',tm',hp',h1,h2⟩:=AfB h
    refine⟨l',i',pre',tm',hp',h1,λhh=>Bb3 hw hp ?_⟩
    have:=h2 hh
    rw[←hr] at this
    exact this
   simp at h
  rename_i hw
  split at h
  ·simp at h
  rename_i hd
  split at h
  ·rename_i v s1 ft hop
   have hr1:=AmC hop hd
   split at h
   ·rename_i s2 hp
    have hr:s2=⟨s2.tmps,s2.heap,nid,df,pn⟩:=by
     rw[hr1] at hp
     exact Aa9 hp
    obtain⟨l',i',pre',tm',hp',h1,h2⟩:=AfB h
    refine⟨l',i',pre',tm',hp',h1,λhh=>Av6 hw (λcall=>AhS hop call) hp ?_⟩
    have:=h2 hh
    rw[←hr] at this
    exact this
   simp at h
  simp at h
def AhR (l:List Oper) (i:Nat) (pre:List Fp) (tm:List (Nat×V)) (hp:List (Nat×List C)):Option (List Oper×Nat×List Fp×List (Nat×V)×List (Nat×List C)):=some (l,i,pre,tm,hp)
theorem don (n:Nat) {ops:Array Oper} {vs:List Nat} {base i i':Nat} {pre pre':List Fp} {l l':List Oper} (h:AfA X.P ops vs base nid df pn n l i pre tm hp AhR=some (l',i',pre',tm',hp'))
  (hh:nK X ops vs base pre' l' i' Q ⟨tm',hp',nid,df,pn⟩):nK X ops vs base pre l i Q ⟨tm,hp,nid,df,pn⟩:=by
 obtain⟨_,_,_,_,_,h1,h2⟩:=AfB (Q:=Q) h
 simp only[AhR,sJ,pJ] at h1
 obtain⟨rfl,rfl,rfl,rfl,rfl⟩:=h1
 exact h2 hh
theorem drn (n:Nat) {id i' m:Nat} {ops:Array Oper} {pre':List Fp} {l':List Oper} (hn:nid+ops.size=m)
  (h:AbT (X.H f id) tm (λtm=>AfA X.P ops (qY ops) nid m df pn n ops.toList 0 [] tm hp AhR)=some (l',i',pre',tm',hp')) (hh:nK X ops (qY ops) nid pre' l' i' Q ⟨tm',hp',m,df,pn⟩) (hz:(noF (X.H f id)&&!(X.H f id).contains 4999999)=true:=by rfl) :
  awp X f (.region id ops true) Q ⟨tm,hp,nid,df,pn⟩:=by
 rw[tS] at h
 subst hn
 exact Av9 hz (don n h hh)
theorem BjU (n:Nat) {id i' m:Nat} {ops:Array Oper} {pre':List Fp} {l':List Oper} {tm0:List (Nat×V)} {hp0:List (Nat×List C)} {nid0:Nat} (hz:frz (X.H f id) ⟨tm,hp,nid,df,pn⟩=some ⟨tm0,hp0,nid0,df,pn⟩) (hn:nid0+ops.size=m)
  (h:AbT (X.H f id) tm0 (λtm=>AfA X.P ops (qY ops) nid0 m df pn n ops.toList 0 [] tm hp0 AhR)=some (l',i',pre',tm',hp')) (hh:nK X ops (qY ops) nid0 pre' l' i' Q ⟨tm',hp',m,df,pn⟩) (hns:(X.H f id).contains 4999999=false:=by rfl) (hM:isM (X.H f id)=false:=by rfl) :
  awp X f (.region id ops true) Q ⟨tm,hp,nid,df,pn⟩:=by
 rw[tS] at h
 subst hn
 exact Ar4 hM hns hz (don n h hh)
def Lc.code:Lc->Nat
 |.tmp x=>6*x
 |.blk b=>6*b+1
 |.nid=>2
 |.defs=>3
 |.vb b=>6*b+4
 |.vt u=>6*u+5
def wL:List Lc->Nat
 | []=>0
 |x::r=>Nat.lor (Nat.shiftLeft 1 x.code) (wL r)
theorem AlP {x:Lc}:∀{l:List Lc},x∈l->(wL l).testBit x.code=true
 | [],h=>by simp at h
 |y::r,h=>by
  show ((1 <<< y.code) ||| wL r).testBit x.code=true
  rw[Nat.testBit_or]
  rcases List.mem_cons.1 h with rfl|h
  ·simp
  rw[AlP h]; simp
theorem Av2 {l m:List Lc} (h:Nat.beq (Nat.land (wL l) (wL m)) 0=true):apart l m=true:=by
 have h:=Nat.eq_of_beq_eq_true h
 simp only[apart,List.all_eq_true,Bool.not_eq_true']
 intro x hx
 cases hc:m.contains x with
 |false=>rfl
 |true=>
  rw[List.contains_iff_mem] at hc
  have h1:(wL l &&& wL m).testBit x.code=true:=by rw[Nat.testBit_and,AlP hx,AlP hc]; rfl
  rw[show wL l &&& wL m=0 from h] at h1
  simp at h1
structure FpM where
 r:Nat
 w:Nat
 all:Bool
def Fp.toM (f:Fp):FpM:=⟨wL f.reads,wL f.writes,f.all⟩
def FpM.apart (f g:FpM):Bool:=match f.all,g.all with
 |false,false=>Nat.beq (Nat.land f.w (Nat.lor g.r g.w)) 0&&Nat.beq (Nat.land g.w f.r) 0
 |_,_=>false
theorem AkN:∀l m:List Lc,wL (l++m)=Nat.lor (wL l) (wL m)
 | [],m=>by show wL m=0 |||wL m; simp
 |x::l,m=>by
  show (1 <<< x.code) ||| wL (l++m)=((1 <<< x.code) ||| wL l) ||| wL m
  rw[AkN l m]
  exact (Nat.or_assoc ..).symm
theorem FpM.apart_ok {f g:Fp} (h:f.toM.apart g.toM=true):f.apart g=true:=by
 unfold FpM.apart Fp.toM at h
 simp only at h
 split at h
 ·rename_i hf hg
  simp only[Bool.and_eq_true] at h
  simp only[Fp.apart,hf,hg,Bool.not_false,Bool.true_and,Bool.and_eq_true]
  exact⟨Av2 (by rw[AkN]; exact h.1),Av2 h.2⟩
 simp at h
def AtF (acc:List Nat):List Edge->Nat->Nat
 | [],m=>m
 |e::r,m=>AtF acc r (match Region.binds .any e with
  |true=>Nat.lor (Nat.lor (Nat.shiftLeft 1 e.on) (acc.getD e.on 0)) m
  |false=>m)
def Af7:List Oper->List Nat->List Nat
 | [],acc=>acc
 |o::r,acc=>Af7 r (acc++[AtF acc o.after.toList 0])
def AnQ (m:Nat) (l:List Nat):Prop:=∀i,m.testBit i=true->i∈l
theorem ArP {accM:List Nat} {acc:List (List Nat)} (ha:∀j,AnQ (accM.getD j 0) (acc.getD j [])):∀(es:List Edge) (m:Nat) (l:List Nat),AnQ m l ->
  AnQ (AtF accM es m) (es.foldl (λl e=>if Region.binds .any e then e.on::(acc.getD e.on []++l) else l) l)
 | [],m,l,h=>h
 |e::es,m,l,h=>by
  simp only[AtF,List.foldl_cons]
  refine ArP ha es _ _ ?_
  cases hb:Region.binds .any e with
  |false=>simpa using h
  |true=>
   simp only[if_true]
   intro i hi
   rw[show Nat.lor (Nat.lor (Nat.shiftLeft 1 e.on) (accM.getD e.on 0)) m=((1 <<< e.on) ||| accM.getD e.on 0) ||| m from rfl,Nat.testBit_or,Nat.testBit_or] at hi
   simp only[Bool.or_eq_true] at hi
   rcases hi with (hi|hi)|hi
   ·have:i=e.on:=by
     rw[Nat.testBit_shiftLeft] at hi
     simp only[Bool.and_eq_true,decide_eq_true_eq] at hi
     have h2:=hi.2
     by_cases hz:i-e.on=0
     ·omega
     rw[Nat.testBit_one_eq_true_iff_self_eq_zero] at h2
     exact absurd h2 hz
    rw[this]; simp
   ·exact List.mem_cons_of_mem _ (List.mem_append_left _ (ha _ _ hi))
   exact List.mem_cons_of_mem _ (List.mem_append_right _ (h _ hi))
theorem Am6:∀(ops:List Oper) (accM:List Nat) (acc:List (List Nat)),accM.length=acc.length->(∀j,AnQ (accM.getD j 0) (acc.getD j [])) ->
  ∀j,AnQ ((Af7 ops accM).getD j 0) ((iQ ops acc).getD j [])
 | [],accM,acc,_,h=>by simpa[Af7,iQ] using h
 |o::r,accM,acc,hl,h=>by
  simp only[Af7,iQ]
  refine Am6 r _ _ (by simp[hl]) ?_
  intro j
  have he:=ArP h o.after.toList 0 [] (by intro i hi; simp at hi)
  by_cases hj:j<accM.length
  ·simp only[List.getD_eq_getElem?_getD]
   rw[List.getElem?_append_left hj,List.getElem?_append_left (hl▸hj),←List.getD_eq_getElem?_getD,←List.getD_eq_getElem?_getD]
   exact h j
  by_cases hj':j=accM.length
  ·subst hj'
   simp only[List.getD_eq_getElem?_getD,List.getElem?_append_right (Nat.le_refl _),Nat.sub_self]
   rw[List.getElem?_append_right (by omega)]
   simpa[hl] using he
  intro i hi
  simp only[List.getD_eq_getElem?_getD] at hi
  rw[List.getElem?_eq_none (by simp; omega)] at hi
  simp at hi
def AyW (o:Oper) (f:Fp):Bool:=
 !f.all&&f.writes.all λl=>match l,o.dst with
  |.tmp y,some x=>Nat.beq y x
  |_,_=>false
theorem BbY {o:Oper} {f:Fp} (h:AyW o f=true):loose o f=true:=by
 simp only[AyW,loose,Bool.and_eq_true,List.all_eq_true] at h ⊢
 refine⟨h.1,λl hl=>?_⟩
 have:=h.2 l hl
 split at this
 ·rename_i y x hx
  rw[hx]
  simp only[beq_iff_eq,Lc.tmp.injEq]
  exact Nat.eq_of_beq_eq_true this
 simp at this
def AjS (pn:Bool) (ops:Array Oper) (base:Nat) (fs:List Fp):Bool:=
 let bs:=Af7 ops.toList []
 let ms:=fs.map Fp.toM
 let k:=fs.length
 ((List.range ops.size).all λj=>
  ((ops.getD j default).after.toList.all λe=>!Region.binds .any e||Nat.blt e.on j) &&
  (List.range j).all λi=>
   (bs.getD j 0).testBit i ||
   (match Nat.blt j k with
    |true=>match ms[i]?,ms[j]? with
     |some a,some b=>a.apart b||pn&&Nat.beq (j+1) k&&AyW (ops.getD i default) (fs.getD i default)
     |_,_=>false
    |false=>!(Nat.beq (i+1) k))) &&
 (List.range k).all λi=>!aP (ops.getD i default) ||
  (List.range k).all λj=>i==j||(bs.getD j 0).testBit i||!(fs.getD j default).refs.contains (base+i)
theorem AiO {pn:Bool} {ops:Array Oper} {base:Nat} {fs:List Fp} (h:AjS pn ops base fs=true):AfD pn ops base fs=true:=by
 have hb:=Am6 ops.toList [] [] rfl (by intro j i hi; simp at hi)
 have blt:∀{a b:Nat},Nat.blt a b=true->a<b:=λh=>Nat.le_of_ble_eq_true h
 unfold AjS at h
 unfold AfD
 simp only[Bool.and_eq_true,List.all_eq_true,List.mem_range,Bool.or_eq_true,Bool.not_eq_true'] at h ⊢
 refine⟨λj hj=>⟨λe he=>?_,λi hi=>?_⟩,λi hi=>?_⟩
 ·rcases (h.1 j hj).1 e he with h1|h1
  ·exact .inl h1
  ·exact .inr (by simpa using blt h1)
 ·rcases (h.1 j hj).2 i hi with h1|h1
  ·exact .inl (by rw[List.contains_iff_mem]; exact hb j i h1)
  ·right
   split at h1
   ·rename_i hjk
    rw[if_pos (blt hjk)]
    split at h1
    ·rename_i a b ha hb'
     rw[List.getElem?_map,Option.map_eq_some_iff] at ha hb'
     obtain⟨fa,hfa,rfl⟩:=ha
     obtain⟨fb,hfb,rfl⟩:=hb'
     rcases Bool.or_eq_true _ _ |>.mp h1 with h1|h1
     ·have:=FpM.apart_ok h1
      rw[Bool.or_eq_true]; left
      simpa[List.getD_eq_getElem?_getD,hfa,hfb] using this
     simp only[Bool.and_eq_true] at h1
     rw[Bool.or_eq_true]; right
     simp only[Bool.and_eq_true,decide_eq_true_eq]
     exact⟨⟨h1.1.1,Nat.eq_of_beq_eq_true h1.1.2⟩,BbY h1.2⟩
    simp at h1
   rename_i hjk
   have hk:¬j<fs.length:=by
    intro hlt
    have:Nat.blt j fs.length=true:=Nat.ble_eq_true_of_le hlt
    rw[hjk] at this; simp at this
   rw[if_neg hk]
   simp only[decide_eq_true_eq]
   intro e
   rw[e] at h1
   simp at h1
 rcases h.2 i hi with h1|h1
 ·exact .inl h1
 refine .inr λj hj=>?_
 rcases h1 j hj with (h2|h2)|h2
 ·exact .inl (.inl h2)
 ·exact .inl (.inr (by rw[List.contains_iff_mem]; exact hb j i h2))
 exact .inr h2
theorem dz {ops:Array Oper} {vs:List Nat} {base i:Nat} {pre:List Fp} {b:Code} (hok:(AjS false ops base pre&&Nat.ble base nid)=true) (hh:awp X f b Q ⟨tm,hp,nid,df,pn⟩):nK X ops vs base pre [] i (kT X f b Q) ⟨tm,hp,nid,df,pn⟩:=by
 simp only[Bool.and_eq_true] at hok
 exact Av5 (by simp only[Bool.and_eq_true,decide_eq_true_eq]; exact⟨AiO hok.1,Nat.le_of_ble_eq_true hok.2⟩) (.normal hh)
theorem dz' {ops:Array Oper} {vs:List Nat} {base i:Nat} {pre:List Fp} (hok:(AjS false ops base pre&&Nat.ble base nid)=true) (hh:Q .normal ⟨tm,hp,nid,df,pn⟩):nK X ops vs base pre [] i Q ⟨tm,hp,nid,df,pn⟩:=by
 simp only[Bool.and_eq_true] at hok
 exact Av5 (by simp only[Bool.and_eq_true,decide_eq_true_eq]; exact⟨AiO hok.1,Nat.le_of_ble_eq_true hok.2⟩) hh
theorem dgt {ops:Array Oper} {vs:List Nat} {base i:Nat} {pre:List Fp} {o q:Oper} {l:List Oper} {j d:Nat} {want b:Bool} (hg:o.guard=some (j,want)) (hq:ops[j]?=some q) (hd:q.dst=some d) (hl:look d tm=some (.c (.d (.bool b)))) (e:b=true)
  (e1:ApV d true tm some=some tm') (h:nK X ops vs base pre (o::l) i Q ⟨tm',hp,nid,df,pn⟩):nK X ops vs base pre (o::l) i Q ⟨tm,hp,nid,df,pn⟩:=by
 have _:=hg; have _:=hq; have _:=hd
 subst e
 rw[AgQ hl,sJ] at e1
 rw[e1]; exact h
theorem dgf {ops:Array Oper} {vs:List Nat} {base i:Nat} {pre:List Fp} {o q:Oper} {l:List Oper} {j d:Nat} {want b:Bool} (hg:o.guard=some (j,want)) (hq:ops[j]?=some q) (hd:q.dst=some d) (hl:look d tm=some (.c (.d (.bool b)))) (e:b=false)
  (e1:ApV d false tm some=some tm') (h:nK X ops vs base pre (o::l) i Q ⟨tm',hp,nid,df,pn⟩):nK X ops vs base pre (o::l) i Q ⟨tm,hp,nid,df,pn⟩:=by
 have _:=hg; have _:=hq; have _:=hd
 subst e
 rw[AgQ hl,sJ] at e1
 rw[e1]; exact h
theorem Bh7 {o:Oper} {t:TypeId} {x i:Operand} {u:Str} {k:IntKind} {n y:Int} (hy:sget u n=some y) (ho:o.op=.index t x i) (ht:X.P.underlying t=some .string) (hx:ev tm x=some (.c (.d (.str u)))) (hi:ev tm i=some (.c (.d (.int k n)))) :
  EvO X o ⟨tm,hp,nid,df,pn⟩ (.d (.int .u8 y)) ⟨tm,hp,nid,df,pn⟩ ⟨cL o tm,[],[]⟩:=by
 unfold sget at hy
 split at hy
 ·rename_i h0
  rw[Option.map_eq_some_iff] at hy
  obtain⟨b,hb,rfl⟩:=hy
  exact .of λ_=>AtP (s:=⟨tm,hp,nid,df,pn⟩) ho ht hx hi h0 hb
 cases hy
theorem mS {α:Type} {g:α->D} (g':α->D) (hg:∀a,g a=g' a) {u:List α} {y:α} {n:Int} {o:Oper} {t e:TypeId} {x i:Operand} {k:IntKind} {sz:Nat} (hy:lget u n=some y)
  (ho:o.op=.indexAddr t x i) (ht:mN X.P t=some e) (hz:some sz=tsz X.P e) (hx:(ev tm x).bind V.toD=some (.list sz (u.map g))) (hi:ev tm i=some (.c (.d (.int k n)))) :
  EvO X o ⟨tm,hp,nid,df,pn⟩ (.rptr (g' y).cells) ⟨tm,hp,nid,df,pn⟩ ⟨cL o tm,[],[]⟩:=by
 obtain⟨h0,hy⟩:=fV hy
 rw[←hg]
 exact .of λ_=>AtO (s:=⟨tm,hp,nid,df,pn⟩) (d:=g y) ho ht hz hx hi h0 (by simp[hy])
theorem BdQ {o:Oper} {t:TypeId} {x lo:Operand} {u y:Str} {k:IntKind} {n:Int} (hy:sfrom u n=some y)
  (ho:o.op=.slice t x (some lo) none none) (ht:X.P.underlying t=some .string) (hx:evT X.P t tm x=some (.c (.d (.str u)))) (hi:ev tm lo=some (.c (.d (.int k n)))) :
  EvO X o ⟨tm,hp,nid,df,pn⟩ (.d (.str y)) ⟨tm,hp,nid,df,pn⟩ ⟨cL o tm,[],[]⟩:=by
 unfold sfrom at hy
 split at hy
 ·rename_i hb
  simp only[sJ] at hy; subst hy
  have:=λcall=>AdX (P:=X.P) (call:=call) (id:=nid) (s:=⟨tm,hp,nid,df,pn⟩) (a:=n.toNat) (b:=u.length) ho ht hx (pR hi hb.1) rfl hb.2 (Nat.le_refl _)
  rw[List.take_length] at this
  exact .of λ_=>this _
 cases hy
theorem BjG {o:Oper} {t:TypeId} {x hh:Operand} {u y:Str} {k:IntKind} {n:Int} (hy:sto u n=some y)
  (ho:o.op=.slice t x none (some hh) none) (ht:X.P.underlying t=some .string) (hx:evT X.P t tm x=some (.c (.d (.str u)))) (hi:ev tm hh=some (.c (.d (.int k n)))) :
  EvO X o ⟨tm,hp,nid,df,pn⟩ (.d (.str y)) ⟨tm,hp,nid,df,pn⟩ ⟨cL o tm,[],[]⟩:=by
 unfold sto at hy
 split at hy
 ·rename_i hb
  simp only[sJ] at hy; subst hy
  exact .of λ_=>AdX (s:=⟨tm,hp,nid,df,pn⟩) (a:=0) (b:=n.toNat) ho ht hx rfl (pR hi hb.1) (Nat.zero_le _) hb.2
 cases hy
theorem Bh8 {o:Oper} {t:TypeId} {x lo hh:Operand} {u y:Str} {k k':IntKind} {n m:Int} (hy:smid u n m=some y)
  (ho:o.op=.slice t x (some lo) (some hh) none) (ht:X.P.underlying t=some .string) (hx:evT X.P t tm x=some (.c (.d (.str u)))) (hi:ev tm lo=some (.c (.d (.int k n)))) (hi':ev tm hh=some (.c (.d (.int k' m)))) :
  EvO X o ⟨tm,hp,nid,df,pn⟩ (.d (.str y)) ⟨tm,hp,nid,df,pn⟩ ⟨cL o tm,[],[]⟩:=by
 unfold smid at hy
 split at hy
 ·rename_i hb
  simp only[sJ] at hy; subst hy
  exact .of λ_=>AdX (s:=⟨tm,hp,nid,df,pn⟩) (a:=n.toNat) (b:=m.toNat) ho ht hx (pR hi hb.1) (pR hi' (by omega)) (by omega) hb.2.2
 cases hy
theorem Bh6 {o:Oper} {t t':TypeId} {x y:Operand} {a b r:Str} (hy:scat a b=some r)
  (ho:o.op=.binOp .add t x y t') (hx:evT X.P t tm x=some (.c (.d (.str a)))) (hy':evT X.P t tm y=some (.c (.d (.str b)))) :
  EvO X o ⟨tm,hp,nid,df,pn⟩ (.d (.str r)) ⟨tm,hp,nid,df,pn⟩ ⟨cL o tm,[],[]⟩:=by
 unfold scat at hy
 split at hy
 ·simp only[sJ] at hy; subst hy
  exact .of λ_=>BbK (s:=⟨tm,hp,nid,df,pn⟩) ho hx hy' (by assumption)
 cases hy
theorem Al9 {α:Type} {g:α->D} {u y:List α} {o:Oper} {t e:TypeId} {x lo:Operand} {v:V} {k:IntKind} {n:Int} {sz:Nat} (hy:lfrom u n=some y)
  (ho:o.op=.slice t x (some lo) none none) (ht:X.P.underlying t=some (.slice e)) (hz:tsz X.P e=some sz) (hx:evT X.P t tm x=some v) (hv:v.toD=some (.list sz (u.map g))) (hi:ev tm lo=some (.c (.d (.int k n)))) :
  EvO X o ⟨tm,hp,nid,df,pn⟩ (.d (.list sz (y.map g))) ⟨tm,hp,nid,df,pn⟩ ⟨cL o tm,[],[]⟩:=by
 unfold lfrom at hy
 split at hy
 ·rename_i hb
  simp only[sJ] at hy; subst hy
  have:=λcall=>AcM (P:=X.P) (call:=call) (id:=nid) (s:=⟨tm,hp,nid,df,pn⟩) (a:=n.toNat) (b:=u.length) (lo:=some lo) (hi:=none) ho ht hz hx hv (pR hi hb.1) (by simp[fX]) hb.2 (by simp)
  rw[show u.length=(u.map g).length from (List.length_map ..).symm,List.take_length,←List.map_drop] at this
  exact .of λ_=>this _
 cases hy
theorem BfR {α:Type} {g:α->D} {u y:List α} {o:Oper} {t e:TypeId} {x hh:Operand} {v:V} {k:IntKind} {n:Int} {sz:Nat} (hy:lto u n=some y)
  (ho:o.op=.slice t x none (some hh) none) (ht:X.P.underlying t=some (.slice e)) (hz:tsz X.P e=some sz) (hx:evT X.P t tm x=some v) (hv:v.toD=some (.list sz (u.map g))) (hi:ev tm hh=some (.c (.d (.int k n)))) :
  EvO X o ⟨tm,hp,nid,df,pn⟩ (.d (.list sz (y.map g))) ⟨tm,hp,nid,df,pn⟩ ⟨cL o tm,[],[]⟩:=by
 unfold lto at hy
 split at hy
 ·rename_i hb
  simp only[sJ] at hy; subst hy
  have:=λcall=>AcM (P:=X.P) (call:=call) (id:=nid) (s:=⟨tm,hp,nid,df,pn⟩) (a:=0) (b:=n.toNat) (lo:=none) (hi:=some hh) ho ht hz hx hv rfl (pR hi hb.1) (Nat.zero_le _) (by simpa using hb.2)
  rw[List.drop_zero,←List.map_take] at this
  exact .of λ_=>this _
 cases hy
theorem ArR {α:Type} {g:α->D} {u y:List α} {o:Oper} {t e:TypeId} {x lo hh:Operand} {v:V} {k k':IntKind} {n m:Int} {sz:Nat} (hy:Af4 u n m=some y)
  (ho:o.op=.slice t x (some lo) (some hh) none) (ht:X.P.underlying t=some (.slice e)) (hz:tsz X.P e=some sz) (hx:evT X.P t tm x=some v) (hv:v.toD=some (.list sz (u.map g))) (hi:ev tm lo=some (.c (.d (.int k n)))) (hi':ev tm hh=some (.c (.d (.int k' m)))) :
  EvO X o ⟨tm,hp,nid,df,pn⟩ (.d (.list sz (y.map g))) ⟨tm,hp,nid,df,pn⟩ ⟨cL o tm,[],[]⟩:=by
 unfold Af4 at hy
 split at hy
 ·rename_i hb
  simp only[sJ] at hy; subst hy
  have:=λcall=>AcM (P:=X.P) (call:=call) (id:=nid) (s:=⟨tm,hp,nid,df,pn⟩) (a:=n.toNat) (b:=m.toNat) ho ht hz hx hv (pR hi hb.1) (pR hi' (by omega)) (by omega) (by simpa using hb.2.2)
  rw[←List.map_take,←List.map_drop] at this
  exact .of λ_=>this _
 cases hy
theorem mT {α:Type} {g:α->D} {u:List α} {o:Oper} {c:Go.Call} {t e:TypeId} {x:Operand} {v:V} {sz:Nat}
  (ho:o.op=.call c) (hc:c.callee=.builtin .len) (ha:c.args.toList=[x]) (hat:c.argTypes.toList=[t]) (ht:X.P.underlying t=some (.slice e)) (hx:ev tm x=some v) (hv:v.toD=some (.list sz (u.map g))) :
  EvO X o ⟨tm,hp,nid,df,pn⟩ (.d (.int .i64 u.length)) ⟨tm,hp,nid,df,pn⟩ eM.none:=
 .of λ_=>by simp only[cP,evR,ho,hc,ha,hat,hx,bJ,Ad6 hv,ht,List.length_map]
theorem BfW {o:Oper} {src dst e:TypeId} {x:Operand} {a:Str} {y:List Int} (hy:sbytes a=some y)
  (ho:o.op=.convert src dst x) (hs:X.P.underlying src=some .string) (hdd:X.P.underlying dst=some (.slice e)) (he:X.P.underlying e=some (.int .u8)) (hz:tsz X.P e=some 1) (hx:evT X.P src tm x=some (.c (.d (.str a)))) :
  EvO X o ⟨tm,hp,nid,df,pn⟩ (.c (.own 1 (y.map (D.int .u8)))) ⟨tm,hp,nid,df,pn⟩ ⟨cL o tm,[],[]⟩:=by
 unfold sbytes at hy
 split at hy
 ·rename_i hb
  simp only[sJ] at hy; subst hy
  have:=λcall=>BdR (P:=X.P) (call:=call) (id:=nid) (s:=⟨tm,hp,nid,df,pn⟩) ho hs hdd he hz hx hb
  rw[show a.map AbE=(a.map u8I).map (D.int .u8) from by rw[List.map_map]; rfl] at this
  exact .of λ_=>this _
 cases hy
theorem wX:∀a:List Int,wW (a.map (D.int .u8))=some (Bi2 a)
 | []=>rfl
 |n::a=>by
  show (wW (a.map (D.int .u8))).map (UInt8.ofNat n.toNat::·)=_
  rw[wX a]; rfl
theorem Bh2 {o:Oper} {src dst e:TypeId} {x:Operand} {v:V} {a:List Int}
  (ho:o.op=.convert src dst x) (hs:X.P.underlying src=some (.slice e)) (hdd:X.P.underlying dst=some .string) (he:X.P.underlying e=some (.int .u8)) (hx:evT X.P src tm x=some v) (hv:v.toD=some (.list 1 (a.map (D.int .u8)))) :
  EvO X o ⟨tm,hp,nid,df,pn⟩ (.d (.str (Bi2 a))) ⟨tm,hp,nid,df,pn⟩ ⟨cL o tm,[],[]⟩:=by
 have hcv:AvJ X.P src dst v=some (.d (.str (Bi2 a))):=by
  unfold AvJ
  rw[hs,hdd]
  cases v with
  |c y=>
   cases y with
   |d z=>simp only[V.toD,C.toD,sJ] at hv; subst hv; simp only[he,V.toD,C.toD,wX,Option.map_some]
   |own z ys=>simp only[V.toD,C.toD,sJ,D.list.injEq] at hv; obtain⟨rfl,rfl⟩:=hv; simp only[he,V.toD,C.toD,wX,Option.map_some]
   |full z ys=>simp only[V.toD,C.toD,sJ,D.list.injEq] at hv; obtain⟨rfl,rfl⟩:=hv; simp only[he,V.toD,C.toD,wX,Option.map_some]
   |nilsl z=>
    simp only[V.toD,C.toD,sJ,D.list.injEq] at hv
    obtain⟨rfl,h⟩:=hv
    have:a=[]:=by cases a<;>simp_all
    subst this
    simp only[he,V.toD,C.toD,wW,Option.map_some]
    rfl
   |_=>simp[V.toD,C.toD] at hv
  |view l z ys=>simp only[V.toD,sJ,D.list.injEq] at hv; obtain⟨rfl,rfl⟩:=hv; simp only[he,V.toD,wX,Option.map_some]
  |vagg cs=>simp[V.toD] at hv
  |_=>simp[V.toD] at hv
 exact .of λ_=>by simp only[cP,ho,evR,hx,hcv]
theorem AzY {α:Type} {g:α->D} {u m y:List α} {o:Oper} {c:Go.Call} {t s e:TypeId} {x z:Operand} {n w:Nat} {zs:List D} {zv:V} {ms:List D} (hy:lapp u m=some y) (hm:ms=m.map g)
  (ho:o.op=.call c) (hc:c.callee=.builtin .append) (ha:c.args.toList=[x,z]) (hat:c.argTypes.toList=[t,s]) (ht:mN X.P t=some e) (hn:tsz X.P e=some n) (hu:gQ X.P s=true)
  (hb:(Nat.ble (X.P.bytesOf e) 1024&&kU X.P e n)=true) (hx:evT X.P t tm x=some (.view (.tmp w) n (u.map g))) (hw:look w tm=some (.c (.own n zs))) (hz:evT X.P s tm z=some zv) (hzz:appended zv=some (n,ms)) :
  EvO X o ⟨tm,hp,nid,df,pn⟩ (.c (.own n (y.map g))) ⟨plainAt w tm,hp,nid,df,pn⟩ (bR x tm):=by
 subst hm
 unfold lapp at hy
 split at hy
 ·rename_i hl
  simp only[sJ] at hy; subst hy
  simp only[Bool.and_eq_true] at hb
  have:=λcall=>AoV (P:=X.P) (call:=call) (id:=nid) (s:=⟨tm,hp,nid,df,pn⟩) ho hc ha hat ht hn hu ⟨Nat.le_of_ble_eq_true hb.1,hb.2⟩ hx hw hz hzz (by simpa using hl)
  rw[←List.map_append] at this
  exact .of λ_=>this _
 cases hy
theorem AfP {α:Type} {g:α->D} {u m y:List α} {o:Oper} {c:Go.Call} {t s e:TypeId} {x z:Operand} {n b off:Nat} {zs:List D} {cells:List C} {zv:V} {ms:List D} (hy:lapp u m=some y) (hm:ms=m.map g)
  (ho:o.op=.call c) (hc:c.callee=.builtin .append) (ha:c.args.toList=[x,z]) (hat:c.argTypes.toList=[t,s]) (ht:mN X.P t=some e) (hn:tsz X.P e=some n) (hu:gQ X.P s=true)
  (hb:(Nat.ble (X.P.bytesOf e) 1024&&kU X.P e n)=true) (hx:evT X.P t tm x=some (.view (.cell b off) n (u.map g))) (hw:xC b hp=some cells) (hw':cells[off]?=some (.own n zs)) (hz:evT X.P s tm z=some zv) (hzz:appended zv=some (n,ms)) :
  EvO X o ⟨tm,hp,nid,df,pn⟩ (.c (.own n (y.map g))) ⟨tm,upd b (cells.set off (.d (.list n (u.map g)))) hp,nid,df,pn⟩ (bR x tm):=by
 subst hm
 unfold lapp at hy
 split at hy
 ·rename_i hl
  simp only[sJ] at hy; subst hy
  simp only[Bool.and_eq_true] at hb
  have:=λcall=>AoU (P:=X.P) (call:=call) (id:=nid) (s:=⟨tm,hp,nid,df,pn⟩) ho hc ha hat ht hn hu ⟨Nat.le_of_ble_eq_true hb.1,hb.2⟩ hx hw hw' hz hzz (by simpa using hl)
  rw[←List.map_append] at this
  exact .of λ_=>this _
 cases hy
theorem Bh1 {α:Type} {g:α->D} {m y:List α} {o:Oper} {c:Go.Call} {t s e:TypeId} {x z:Operand} {n k:Nat} {zv:V} {ms:List D} (hy:lapp [] m=some y) (hm:ms=m.map g)
  (ho:o.op=.call c) (hc:c.callee=.builtin .append) (ha:c.args.toList=[x,z]) (hat:c.argTypes.toList=[t,s]) (ht:mN X.P t=some e) (hn:tsz X.P e=some n) (hu:gQ X.P s=true)
  (hb:(Nat.ble (X.P.bytesOf e) 1024&&kU X.P e n)=true) (hx:evT X.P t tm x=some (.c (.nilsl k))) (hz:evT X.P s tm z=some zv) (hzz:appended zv=some (n,ms)) :
  EvO X o ⟨tm,hp,nid,df,pn⟩ (.c (.own n (y.map g))) ⟨tm,hp,nid,df,pn⟩ (bR x tm):=by
 subst hm
 unfold lapp at hy
 split at hy
 ·rename_i hl
  simp only[List.nil_append,sJ] at hy; subst hy
  simp only[Bool.and_eq_true] at hb
  exact .of λ_=>AqN (s:=⟨tm,hp,nid,df,pn⟩) ho hc ha hat ht hn hu ⟨Nat.le_of_ble_eq_true hb.1,hb.2⟩ hx hz hzz (by simpa using hl)
 cases hy
theorem nR {o:Oper} {c:Go.Call} {fo:Operand} {g:Nat} {args args':List C} {v v':V} (hv:aval X g args' [] (.ret v []))
  (ho:o.op=.call c) (hc:c.callee=.value fo) (hf:ev tm fo=some (.c (.fn g [])))
  (ha:oA X.P tm c.args.toList c.argTypes.toList=some args) (hi:args.flatMap C.ids=[]) (hj:aY (C.into []) args=some args) (hst:args.map C.still=args') (hH:(X.H g 999999).isEmpty=true) (hb:V.back [] v=some v') :
  EvO X o ⟨tm,hp,nid,df,pn⟩ v' ⟨tm,hp,nid,df,pn⟩ ⟨[],[],[]⟩:=by
 have:=Ak5 (X:=X) (s:=⟨tm,hp,nid,df,pn⟩) (ids:=[]) (lh:=[]) (lh':=[]) (lh'':=[]) ho hc hf (by simpa using ha) (by simp[hi,qX]) (by simpa using hj) rfl (AdO (hst▸hv) hH) rfl (by simpa[bC] using hb)
 refine this.imp λk p=>?_
 rw[p]
 simp[bC,oE,dI]
theorem BdL {o:Oper} {c:Go.Call} {fo:Operand} {g:Nat} {x:D} {args args':List C} {v v':V} (hv:aval X g args' [] (.ret v []))
  (ho:o.op=.call c) (hc:c.callee=.value fo) (hf:ev tm fo=some (.c (.bfn g x)))
  (ha:oA X.P tm c.args.toList c.argTypes.toList=some args) (hi:args.flatMap C.ids=[]) (hj:aY (C.into []) (.d x::args)=some (.d x::args)) (hst:(C.d x::args).map C.still=args') (hH:(X.H g 999999).isEmpty=true) (hb:V.back [] v=some v') :
  EvO X o ⟨tm,hp,nid,df,pn⟩ v' ⟨tm,hp,nid,df,pn⟩ ⟨[],[],[]⟩:=by
 have:=BbL (X:=X) (s:=⟨tm,hp,nid,df,pn⟩) (ids:=[]) (lh:=[]) (lh':=[]) (lh'':=[]) ho hc hf ha (by simp[hi,qX,C.ids]) hj rfl (AdO (hst▸hv) hH) rfl (by simpa[bC] using hb)
 refine this.imp λk p=>?_
 rw[p]
 simp[bC,oE,dI]
theorem BdK {o:Oper} {c:Go.Call} {fo:Operand} {g:Nat} {args:List C} {v v':V} (hv:aval X g args [] (.ret v []))
  (ho:o.op=.call c) (hc:c.callee=.value fo) (hf:ev tm fo=some (.c (.fn g [])))
  (ha:oA X.P tm c.args.toList c.argTypes.toList=some args) (hi:args.flatMap C.ids=[]) (hj:aY (C.into []) args=some args) (hb:V.back [] v=some v') :
  EvO X o ⟨tm,hp,nid,df,pn⟩ v' ⟨tm,hp,nid,df,pn⟩ ⟨[],[],[]⟩:=by
 have:=Ak5 (X:=X) (s:=⟨tm,hp,nid,df,pn⟩) (ids:=[]) (lh:=[]) (lh':=[]) (lh'':=[]) ho hc hf (by simpa using ha) (by simp[hi,qX]) (by simpa using hj) rfl hv rfl (by simpa[bC] using hb)
 refine this.imp λk p=>?_
 rw[p]
 simp[bC,oE,dI]
def AX.isOut:AX->Bool
 |.ret=>true
 |.pan _=>true
 |_=>false
theorem kT.out {b:Code} {x:AX} {s:St} (hx:x.isOut=true) (h:Q x s):kT X f b Q x s:=by
 cases x<;>first|exact .ret h|exact .pan h|simp[AX.isOut] at hx
theorem fN.out {hk:List Nat} {n:Nat} {x:AX} {s:St} (hx:x.isOut=true) (h:Q x s):fN hk n Q x s:=by
 cases x<;>first|exact .ret h|exact .pan h|simp[AX.isOut] at hx
theorem aJ.out {id:Nat} {hk:List Nat} {n:Nat} {x:AX} {s:St} (hx:x.isOut=true) (h:Q x s):aJ id hk n Q x s:=by
 cases x<;>first|exact .ret h|exact .pan h|simp[AX.isOut] at hx
theorem cH.out {A:St->Prop} {x:AX} {s:St} (hx:x.isOut=true) (h:Q x s):cH A Q x s:=by
 cases x<;>first|exact .ret h|exact .pan h|simp[AX.isOut] at hx
inductive kD (X:Ctx) (fn:Func) (n:Nat) {ρ σ:Type} (E:ρ->aE) (st:σ->St):Except ρ σ->AX->St->Prop where
 |ok {a:σ} {s:St}:s=st a->kD X fn n E st (.ok a) .normal s
 |err {r:ρ} {x:AX} {s:St}:x.isOut=true->wZ X fn n (E r) x s->kD X fn n E st (.error r) x s
theorem uG (fn:Func) (n:Nat) {ρ σ:Type} (E:ρ->aE) (st:σ->St) {res:Except ρ σ} {a:Code} {s:St} (h1:awp X f a (kD X fn n E st res) s) (h2:∀y,res=.ok y->Q .normal (st y))
  (h3:∀r x s',res=.error r->x.isOut=true->wZ X fn n (E r) x s'->Q x s'):awp X f a Q s:=by
 refine AjL h1 ?_
 intro x s' hq
 cases hq with
 |ok e=>subst e; exact h2 _ rfl
 |err hx e=>exact h3 _ _ _ rfl hx e
inductive iR {σ:Type} (st:σ->St) (y:σ):AX->St->Prop where
 |ok {s:St}:s=st y->iR st y .normal s
theorem gZ {σ:Type} (st:σ->St) {y:σ} {a:Code} {s:St} (h1:awp X f a (iR st y) s) (h2:Q .normal (st y)):awp X f a Q s:=by
 refine AjL h1 ?_
 intro x s' hq
 cases hq with
 |ok e=>subst e; exact h2
theorem bV {c:Code} {clean:St->Option St} {s s1:St} (hc:clean s=some s1) (hc1:clean s1=some s1) (h:cD X f c clean Q s1):cD X f c clean Q s:=by
 obtain⟨x,s',⟨m₀,h1⟩,h2⟩:=h
 refine⟨x,s',⟨m₀+1,h1.imp λk p m hm=>?_⟩,h2⟩
 obtain⟨j,rfl⟩:∃j,m=j+1:=⟨m-1,by omega⟩
 have:=p (j+1) (by omega)
 simp only[iter,hc1] at this
 simp only[iter,hc]
 exact this
theorem AzO {c:Code} {clean:St->Option St} {s s1:St} (hc:clean s=some s1) (h:awp X f c (cH (cD X f c clean Q) Q) s1):cD X f c clean Q s:=by
 refine Ay9 hc (AjL h ?_)
 intro x s' hq
 cases hq with
 |normal h=>exact h
 |exit h=>exact h
 |ret h=>exact h
 |pan h=>exact h
def Aw2 {β:Type} (n:Nat):List (Nat×List C)->(List (Nat×List C)->β)->β
 | [],k=>k []
 |(b,cs)::r,k=>match decide (b<n) with
  |true=>qN cs λcs=>Aw2 n r λr=>k ((b,cs)::r)
  |false=>Aw2 n r k
theorem AoY {β:Type} {n:Nat}:∀{l:List (Nat×List C)} {k:List (Nat×List C)->β},Aw2 n l k=k (l.filter (·.1<n))
 | [],_=>rfl
 |(b,cs)::r,k=>by
  simp only[Aw2,List.filter_cons,iI]
  cases h:decide (b<n) with
  |true=>simp only[AoY,if_true]
  |false=>simp only[AoY,fJ,if_false]
def Au8:List Nat->Bool
 | []=>true
 |k::r=>!Nat.ble 15000000 k&&Au8 r
theorem AzS:∀{ks:List Nat} {s:St},Au8 ks=true->Bd8 ks s=some []
 | [],_,_=>rfl
 |k::r,s,h=>by
  simp only[Au8,Bool.and_eq_true,Bool.not_eq_true'] at h
  simp only[Bd8,h.1]
  exact AzS h.2
def AtB {α:Type} (ks:List Nat) (n:Nat) (tm:List (Nat×V)) (hp:List (Nat×List C)) (df:List (Nat×List Nat)) (k:List (Nat×V)->List (Nat×List C)->Option α):Option α:=
 match Au8 ks with
 |false=>none
 |true=>AbT ks (demT ks tm) λtm=>Aw2 n (demH ks hp) λhp=>match tm.all (λx=>x.2.below n)&&hp.all (λx=>x.2.all (C.below n))&&df.all (λx=>x.2.all (· < n)) with
  |true=>k tm hp
  |false=>none
def BhQ (tm:List (Nat×V)) (hp:List (Nat×List C)):Option (List (Nat×V)×List (Nat×List C)):=some (tm,hp)
theorem ArA {α:Type} {ks:List Nat} {n:Nat} {k:List (Nat×V)->List (Nat×List C)->Option α} {a:α} (h:AtB ks n tm hp df k=some a) :
  ∃tm' hp',k tm' hp'=some a/\aH ks n ⟨tm,hp,nid,df,pn⟩=some ⟨tm',hp',n,df,pn⟩:=by
 unfold AtB at h
 split at h
 ·simp at h
 rename_i hnc
 rw[tS,AoY] at h
 split at h
 ·rename_i hc
  refine⟨_,_,h,?_⟩
  unfold aH cleanO
  rw[AzS hnc]
  simp only
  rw[if_pos hc]
 simp at h
theorem lg {ks:List Nat} {n:Nat} {c:Code} (hc:AtB ks n tm hp df BhQ=some (tm',hp')) (h:awp X f c (cH (cD X f c (aH ks n) Q) Q) ⟨tm',hp',n,df,pn⟩):cD X f c (aH ks n) Q ⟨tm,hp,nid,df,pn⟩:=by
 obtain⟨_,_,h1,h2⟩:=ArA (nid:=nid) (pn:=pn) hc
 simp only[BhQ,sJ,pJ] at h1
 obtain⟨rfl,rfl⟩:=h1
 exact AzO h2 h
theorem lgX {ks:List Nat} {n:Nat} {c:Code} (hc:aH ks n ⟨tm,hp,nid,df,pn⟩=some ⟨tm',hp',nid',df,pn⟩) (h:awp X f c (cH (cD X f c (aH ks n) Q) Q) ⟨tm',hp',nid',df,pn⟩):cD X f c (aH ks n) Q ⟨tm,hp,nid,df,pn⟩:=
 AzO hc h
def AhJ {α:Type} (hk:List Nat) (n:Nat) (tm:List (Nat×V)) (hp:List (Nat×List C)) (nid:Nat) (df:List (Nat×List Nat)) (k:List (Nat×V)->List (Nat×List C)->Nat->Option α):Option α:=match hk with
 | []=>k tm hp nid
 |_::ks=>AtB ks n tm hp df λtm hp=>k tm hp n
def AzE (tm:List (Nat×V)) (hp:List (Nat×List C)) (nid:Nat):Option (List (Nat×V)×List (Nat×List C)×Nat):=some (tm,hp,nid)
theorem AeE {hk:List Nat} {n:Nat} (h:AhJ hk n tm hp nid df AzE=some (tm',hp',nid')):yB hk n ⟨tm,hp,nid,df,pn⟩=some ⟨tm',hp',nid',df,pn⟩:=by
 unfold AhJ at h
 split at h
 ·simp only[AzE,sJ,pJ] at h
  obtain⟨rfl,rfl,rfl⟩:=h; rfl
 obtain⟨_,_,h1,h2⟩:=ArA (nid:=nid) (pn:=pn) h
 simp only[AzE,sJ,pJ] at h1
 obtain⟨rfl,rfl,rfl⟩:=h1
 exact h2
theorem eh {id:Nat} {hk:List Nat} {n:Nat} (hs:AhJ hk n tm hp nid df AzE=some (tm',hp',nid')) (h:Q .normal ⟨tm',hp',nid',df,pn⟩):aJ id hk n Q (.exit id) ⟨tm,hp,nid,df,pn⟩:=.here (AeE hs) h
theorem en {id:Nat} {hk:List Nat} {n:Nat} (hs:AhJ hk n tm hp nid df AzE=some (tm',hp',nid')) (h:Q .normal ⟨tm',hp',nid',df,pn⟩):aJ id hk n Q .normal ⟨tm,hp,nid,df,pn⟩:=.normal (AeE hs) h
theorem cn {hk:List Nat} {n:Nat} (hs:AhJ hk n tm hp nid df AzE=some (tm',hp',nid')) (h:Q .normal ⟨tm',hp',nid',df,pn⟩):fN hk n Q .normal ⟨tm,hp,nid,df,pn⟩:=.normal (AeE hs) h
theorem ehX {id:Nat} {k:Nat} {ks:List Nat} {n:Nat} (hs:aH ks n ⟨tm,hp,nid,df,pn⟩=some ⟨tm',hp',nid',df,pn⟩) (h:Q .normal ⟨tm',hp',nid',df,pn⟩):aJ id (k::ks) n Q (.exit id) ⟨tm,hp,nid,df,pn⟩:=.here hs h
inductive BaX (i:Nat) (hk:List Nat) (n:Nat) {α σ:Type} (st1:α->St) (st2:σ->St):Except α σ->AX->St->Prop where
 |ok {y:σ} {s:St}:s=st2 y->BaX i hk n st1 st2 (.ok y) .normal s
 |ext {a:α} {s:St}:yB hk n s=some (st1 a)->BaX i hk n st1 st2 (.error a) (.exit i) s
theorem AzP (i:Nat) (hk:List Nat) (n:Nat) {α σ:Type} (st1:α->St) (st2:σ->St) {res:Except α σ} {a:Code} {s:St} (h1:awp X f a (BaX i hk n st1 st2 res) s) (h2:∀y,res=.ok y->Q .normal (st2 y))
  (h3:∀y s',res=.error y->yB hk n s'=some (st1 y)->Q (.exit i) s'):awp X f a Q s:=by
 refine AjL h1 ?_
 intro x s' hq
 cases hq with
 |ok e=>subst e; exact h2 _ rfl
 |ext e=>exact h3 _ _ rfl e
theorem ex1 {i:Nat} {hk:List Nat} {n:Nat} {α σ:Type} {st1:α->St} {st2:σ->St} {a:α} (hs:AhJ hk n tm hp nid df AzE=some (tm',hp',nid')) (h:(⟨tm',hp',nid',df,pn⟩:St)=st1 a):BaX i hk n st1 st2 (.error a) (.exit i) ⟨tm,hp,nid,df,pn⟩:=.ext (h▸AeE hs)
def aN:List Nat->Code->Code
 | [],c=>c
 |i::r,.seq a b=>aN r (if i=0 then a else b)
 |i::r,.cond _ a b=>aN r (if i=0 then a else b)
 |_::r,.block _ c=>aN r c
 |_::r,.loop c=>aN r c
 |_::r,.scope c=>aN r c
 |_,c=>c
def aO (fn:Func):Code:=fn.body.getD .skip
end
end Go.AM
namespace Go.AM
open Go
section
variable {X:Ctx} {f:Nat} {Q:AX->St->Prop} {tm tm':List (Nat×V)} {hp hp':List (Nat×List C)} {nid nid':Nat} {df df':List (Nat×List Nat)} {pn:Option D}
def EvP (X:Ctx) (o:Oper) (s:St) (d:D) (s1:St) (ft:eM):Prop:=Evt λk=>cP X.P (X.call k) s.nid o s=some (.pan d s1,ft)
theorem AfQ {o:Oper} {c:Go.Call} {fo:Operand} {g:Nat} {caps ids:List Nat} {args args' args'':List C} {lh lh' lh'':List (List C)} {v v':V} (hv:aval X g args'' lh (.ret v lh'))
  (ho:o.op=.call c) (hc:c.callee=.value fo) (hf:ev tm fo=some (.c (.fn g caps)))
  (ha:oA X.P tm c.args.toList c.argTypes.toList=some args) (hr:qX hp 64 ((args++caps.map λb=>C.ptr b 0).flatMap C.ids) []=some ids) (hi:aY (C.into ids) (args++caps.map λb=>.ptr b 0)=some args')
  (hst:args'.map C.still=args'') (hH:(X.H g 999999).isEmpty=true)
  (hb:oB hp ids=some lh) (hk:aY (aY (C.back (ids++bC nid (lh'.length-ids.length)))) lh'=some lh'') (hv':V.back (ids++bC nid (lh'.length-ids.length)) v=some v') (hn:nid+(lh'.length-ids.length)=nid') :
  EvO X o ⟨tm,hp,nid,df,pn⟩ v' ⟨unviewIn (ids++bC nid (lh'.length-ids.length)) tm,dI (ids++bC nid (lh'.length-ids.length)) lh'' hp,nid',df,pn⟩ ⟨ids,ids,[]⟩:=by
 subst hn hst
 exact Ak5 (X:=X) (s:=⟨tm,hp,nid,df,pn⟩) ho hc hf ha hr hi hb (AdO hv hH) hk hv'
theorem BfQ {o:Oper} {c:Go.Call} {fo:Operand} {g:Nat} {caps ids:List Nat} {args args':List C} {lh lh' lh'':List (List C)} {v v':V} (hv:aval X g args' lh (.ret v lh'))
  (ho:o.op=.call c) (hc:c.callee=.value fo) (hf:ev tm fo=some (.c (.fn g caps)))
  (ha:oA X.P tm c.args.toList c.argTypes.toList=some args) (hr:qX hp 64 ((args++caps.map λb=>C.ptr b 0).flatMap C.ids) []=some ids) (hi:aY (C.into ids) (args++caps.map λb=>.ptr b 0)=some args')
  (hb:oB hp ids=some lh) (hk:aY (aY (C.back (ids++bC nid (lh'.length-ids.length)))) lh'=some lh'') (hv':V.back (ids++bC nid (lh'.length-ids.length)) v=some v') (hn:nid+(lh'.length-ids.length)=nid') :
  EvO X o ⟨tm,hp,nid,df,pn⟩ v' ⟨unviewIn (ids++bC nid (lh'.length-ids.length)) tm,dI (ids++bC nid (lh'.length-ids.length)) lh'' hp,nid',df,pn⟩ ⟨ids,ids,[]⟩:=by
 subst hn
 exact Ak5 (X:=X) (s:=⟨tm,hp,nid,df,pn⟩) ho hc hf ha hr hi hb hv hk hv'
theorem AyL {o:Oper} {c:Go.Call} {fo:Operand} {g:Nat} {caps ids:List Nat} {args args' args'':List C} {lh lh' lh'':List (List C)} {d:D} (hv:aval X g args'' lh (.pan d lh'))
  (ho:o.op=.call c) (hc:c.callee=.value fo) (hf:ev tm fo=some (.c (.fn g caps)))
  (ha:oA X.P tm c.args.toList c.argTypes.toList=some args) (hr:qX hp 64 ((args++caps.map λb=>C.ptr b 0).flatMap C.ids) []=some ids) (hi:aY (C.into ids) (args++caps.map λb=>.ptr b 0)=some args')
  (hst:args'.map C.still=args'') (hH:(X.H g 999999).isEmpty=true)
  (hb:oB hp ids=some lh) (hk:aY (aY (C.back ids)) lh'=some lh'') :
  EvP X o ⟨tm,hp,nid,df,pn⟩ d ⟨unviewIn ids tm,dI ids lh'' hp,nid,df,pn⟩ ⟨ids,ids,[]⟩:=by
 subst hst
 refine (AdO hv hH).imp λk p=>?_
 simp only[cP,ho,hc,hf,ha,lY,hr,hi,hb,p,hk]
theorem pp {ops:Array Oper} {o:Oper} {l:List Oper} {d:D} {tm1:List (Nat×V)} {hp1:List (Nat×List C)} {ft:eM} (hop:EvP X o ⟨tm,hp,nid,df,pn⟩ d ⟨tm1,hp1,nid,df,pn⟩ ft) (hw:wantedAt ops tm o=some true)
  (hk:(qN tm1 λtm=>tH hp1 λhp=>some (tm,hp))=some (tm',hp')) (h:Q (.pan d) ⟨tm',hp',nid,df,pn⟩):pB X ops (o::l) Q ⟨tm,hp,nid,df,pn⟩:=by
 rw[iI,pC] at hk
 simp only[sJ,pJ] at hk
 obtain⟨rfl,rfl⟩:=hk
 exact Bd0 (s:=⟨tm,hp,nid,df,pn⟩) hw hop h
theorem dp {ops:Array Oper} {vs:List Nat} {base i:Nat} {pre:List Fp} {o:Oper} {l:List Oper} {d d0:D} {tm0 tm1 tmd:List (Nat×V)} {hp0 hp1:List (Nat×List C)} {nid0:Nat} {ft ft0:eM} (hd:qN (tm.filter λp=>!(iK ops i).contains p.1) some=some tmd)
  (hop0:EvP X o ⟨tm,hp,nid,df,pn⟩ d0 ⟨tm0,hp0,nid0,df,pn⟩ ft0) (hop:EvP X o ⟨tmd,hp,nid,df,pn⟩ d ⟨tm1,hp1,nid,df,pn⟩ ft) (hw:wantedAt ops tm o=some true) (hw':wantedAt ops tmd o=some true) (hm:aP o=false)
  (hk:(qN tm1 λtm=>tH hp1 λhp=>some (tm,hp))=some (tm',hp')) (hok:(AjS true ops base (pre++[⟨[],[],[],true⟩])&&Nat.ble base nid)=true) (h:Q (.pan d) ⟨tm',hp',nid,df,pn⟩):nK X ops vs base pre (o::l) i Q ⟨tm,hp,nid,df,pn⟩:=by
 rw[iI,sJ] at hd
 rw[iI,pC] at hk
 simp only[sJ,pJ] at hk
 obtain⟨rfl,rfl⟩:=hk
 simp only[Bool.and_eq_true] at hok
 have hdr:oW (iK ops i) ⟨tm,hp,nid,df,pn⟩=⟨tmd,hp,nid,df,pn⟩:=by simp only[oW,hd]
 refine BcZ (s:=⟨tm,hp,nid,df,pn⟩) (ft:=⟨[],[],[],true⟩) (ft0:=⟨[],[],[],true⟩) (d0:=d0) (s0:=⟨tm0,hp0,nid0,df,pn⟩) hw (hop0.imp λk p=>?_) (by rw[hdr]; exact hw') (hop.imp λk p=>?_) ?_ h
 ·simp only[eD,hm,fJ,if_false,dY,p]
 ·rw[hdr]; simp only[eD,hm,fJ,if_false,dY,p]
 simp only[Bool.and_eq_true,decide_eq_true_eq]
 exact⟨AiO hok.1,Nat.le_of_ble_eq_true hok.2⟩
def Au6 {κ α:Type} [BEq κ] (l:List (κ×α)) (k:κ) (v:α):List (κ×α):=match l with
 | []=>[(k,v)]
 |(k',v')::r=>if k==k' then (k,v)::r else (k',v')::Au6 r k v
def yM {κ α:Type} [BEq κ] (l:List (κ×α)) (k:κ) (z:α):α:=match l with
 | []=>z
 |(k',v)::r=>if k==k' then v else yM r k z
def AlR {κ α:Type} [BEq κ] (l:List (κ×α)) (k:κ):Bool:=match l with
 | []=>false
 |(k',_)::r=>if k==k' then true else AlR r k
def AtH {α:Type} (g:α->D) (x:Str×α):D×D:=(.str x.1,g x.2)
def yX {α:Type} (j:IntKind) (g:α->D) (x:Int×α):D×D:=(.int j x.1,g x.2)
theorem ApX {α:Type} {g:α->D} {k:Str} {v:α}:∀l:List (Str×α),AlU (.str k) (g v) (l.map (AtH g))=some ((Au6 l k v).map (AtH g))
 | []=>rfl
 |(k',v')::r=>by
  simp only[List.map_cons,AtH,AlU,Ak4,Au6]
  cases h:k==k' with
  |true=>simp[AtH]
  |false=>
   have:=ApX (g:=g) (k:=k) (v:=v) r
   simp[this,AtH]
theorem ApW {α:Type} {j:IntKind} {g:α->D} {k:Int} {v:α}:∀l:List (Int×α),AlU (.int j k) (g v) (l.map (yX j g))=some ((Au6 l k v).map (yX j g))
 | []=>rfl
 |(k',v')::r=>by
  simp only[List.map_cons,yX,AlU,Ak4,Au6,if_true]
  cases h:k==k' with
  |true=>simp[yX]
  |false=>
   have:=ApW (j:=j) (g:=g) (k:=k) (v:=v) r
   simp[this,yX]
theorem Ba2 {α:Type} {g:α->D} {k:Str} {z:α}:∀l:List (Str×α),∃r,Ad0 (.str k) ((l.map (AtH g)).map dmv)=some r/\(AlR l k=true->r=some (.d (g (yM l k z))))/\(AlR l k=false->r=none/\yM l k z=z)
 | []=>⟨none,rfl,by simp[AlR],λ_=>⟨rfl,rfl⟩⟩
 |(k',v')::r=>by
  simp only[List.map_cons,AtH,dmv,Ad0,Ak4,yM,AlR]
  cases h:k==k' with
  |true=>exact⟨_,rfl,by simp,by simp⟩
  |false=>
   obtain⟨q,h1,h2,h3⟩:=Ba2 (g:=g) (k:=k) (z:=z) r
   exact⟨q,h1,by simpa using h2,by simpa using h3⟩
theorem Ba1 {α:Type} {j:IntKind} {g:α->D} {k:Int} {z:α}:∀l:List (Int×α),∃r,Ad0 (.int j k) ((l.map (yX j g)).map dmv)=some r/\(AlR l k=true->r=some (.d (g (yM l k z))))/\(AlR l k=false->r=none/\yM l k z=z)
 | []=>⟨none,rfl,by simp[AlR],λ_=>⟨rfl,rfl⟩⟩
 |(k',v')::r=>by
  simp only[List.map_cons,yX,dmv,Ad0,Ak4,yM,AlR,if_true]
  cases h:k==k' with
  |true=>exact⟨_,rfl,by simp,by simp⟩
  |false=>
   obtain⟨q,h1,h2,h3⟩:=Ba1 (j:=j) (g:=g) (k:=k) (z:=z) r
   exact⟨q,h1,by simpa using h2,by simpa using h3⟩
theorem BgA {α:Type} {g:α->D} {k:Str} {z:α} {e:TypeId} {ok:Bool} (hz:Aq7 X.P e=some (.d (g z))) (l:List (Str×α)):AmS X.P e ok (.str k) ((l.map (AtH g)).map dmv)=some (AiF ok (.d (g (yM l k z))) (AlR l k)):=by
 obtain⟨r,h1,h2,h3⟩:=Ba2 (g:=g) (k:=k) (z:=z) l
 unfold AmS
 rw[h1]
 cases h:AlR l k with
 |true=>rw[h2 h]; rfl
 |false=>obtain⟨rfl,e'⟩:=h3 h; rw[e']; simp only[hz,Option.map_some]
theorem Bg9 {α:Type} {j:IntKind} {g:α->D} {k:Int} {z:α} {e:TypeId} {ok:Bool} (hz:Aq7 X.P e=some (.d (g z))) (l:List (Int×α)):AmS X.P e ok (.int j k) ((l.map (yX j g)).map dmv)=some (AiF ok (.d (g (yM l k z))) (AlR l k)):=by
 obtain⟨r,h1,h2,h3⟩:=Ba1 (j:=j) (g:=g) (k:=k) (z:=z) l
 unfold AmS
 rw[h1]
 cases h:AlR l k with
 |true=>rw[h2 h]; rfl
 |false=>obtain⟨rfl,e'⟩:=h3 h; rw[e']; simp only[hz,Option.map_some]
theorem BdP {α:Type} {g:α->D} {o:Oper} {t kt e:TypeId} {m k:Operand} {b:Nat} {l:List (Str×α)} {s:Str} (z:α) (ho:o.op=.lookup t m k false) (hm:AyY X.P t=some (kt,e)) (hx:ev tm m=some (.c (.mp b))) (hy:(ev tm k).bind V.toD=some (.str s)) (hk:AwM X.P kt (.str s)=true)
  (hb:look b hp=some [.mdat (l.map (AtH g))]) (hz:Aq7 X.P e=some (.d (g z))):EvO X o ⟨tm,hp,nid,df,pn⟩ (.d (g (yM l s z))) ⟨tm,hp,nid,df,pn⟩ ⟨cL o tm,[],[]⟩:=
 .of λcall=>by simp only[cP,ho,evR,hm,hx,hy,hk,if_true,hb,mapOf,BgA (g:=g) (z:=z) hz,Option.map_some,AiF,fJ,if_false]
theorem BdO {α:Type} {j:IntKind} {g:α->D} {o:Oper} {t kt e:TypeId} {m k:Operand} {b:Nat} {l:List (Int×α)} {s:Int} (z:α) (ho:o.op=.lookup t m k false) (hm:AyY X.P t=some (kt,e)) (hx:ev tm m=some (.c (.mp b))) (hy:(ev tm k).bind V.toD=some (.int j s)) (hk:AwM X.P kt (.int j s)=true)
  (hb:look b hp=some [.mdat (l.map (yX j g))]) (hz:Aq7 X.P e=some (.d (g z))):EvO X o ⟨tm,hp,nid,df,pn⟩ (.d (g (yM l s z))) ⟨tm,hp,nid,df,pn⟩ ⟨cL o tm,[],[]⟩:=
 .of λcall=>by simp only[cP,ho,evR,hm,hx,hy,hk,if_true,hb,mapOf,Bg9 (j:=j) (g:=g) (z:=z) hz,Option.map_some,AiF,fJ,if_false]
theorem pmk {ops:Array Oper} {o:Oper} {l:List Oper} {t:TypeId} (ho:o.op=.makeMap t none) (hw:wantedAt ops tm o=some true) (hv:noView nid tm=true)
  (hk:ApO o.dst (.c (.mp nid)) tm (λtm=>some tm)=some tm') (hn:nid+1=nid') (h:pB X ops l Q ⟨tm',(nid,[.mdat []])::hp,nid',df,pn⟩):pB X ops (o::l) Q ⟨tm,hp,nid,df,pn⟩:=by
 refine At6 (s:=⟨tm,hp,nid,df,pn⟩) (v:=.c (.mp nid)) (s1:=⟨tm,(nid,[.mdat []])::hp,nid+1,df,pn⟩) (ft:=eM.none) hw (.of λk=>by simp only[cP,ho,hv,if_true]) ?_
 subst hn
 rw[show tm=(⟨tm,(nid,[.mdat []])::hp,nid+1,df,pn⟩:St).tmps from rfl,AkR] at hk
 simp only[sJ] at hk
 subst hk
 rw[putDst,uZ]
 exact h
theorem BeQ {k v:D}:∀{l l':List (D×D)},AlU k v l=some l'->AkU k (.d v) (l.map dmv)=some (l'.map dmv)
 | [],l',h=>by simp only[AlU,sJ] at h; subst h; rfl
 |(k',v')::r,l',h=>by
  simp only[AlU] at h
  simp only[List.map_cons,dmv,AkU]
  split at h
  ·rename_i he
   simp only[sJ] at h; subst h
   rfl
  ·rename_i he
   simp only[Option.map_eq_some_iff] at h
   obtain⟨l0,h1,rfl⟩:=h
   simp only[BeQ h1,Option.map_some]; rfl
  simp at h
theorem AvT {o:Oper} {t kt e:TypeId} {m k v:Operand} {b:Nat} {kd vd:D} {l l':List (D×D)} (hs:AlU kd vd l=some l') (ho:o.op=.insert t m k v\/o.op=.mapUpdate t m k v) (hm:AyY X.P t=some (kt,e)) (hx:ev tm m=some (.c (.mp b))) (hy:(ev tm k).bind V.toD=some kd) (hk:AwM X.P kt kd=true)
  (hv:(evT X.P e tm v).bind MV.of=some (.d vd)) (hb:look b hp=some [.mdat l]):EvO X o ⟨tm,hp,nid,df,pn⟩ (.c .undef) ⟨tm,upd b [.mdat l'] hp,nid,df,pn⟩ ⟨[],[b],[]⟩:=
 .of λcall=>by rcases ho with ho|ho<;>simp only[cP,ho,AzX,hm,hx,hy,hk,hv,hb,mapOf,BeQ hs,BaE,hs]
theorem AvQ {α:Type} {g:α->D} {u m y:List α} {o:Oper} {c:Go.Call} {t s e:TypeId} {x z:Operand} {n:Nat} {zv:V} {ms:List D} (hy:lapp u m=some y) (hm:ms=m.map g)
  (ho:o.op=.call c) (hc:c.callee=.builtin .append) (ha:c.args.toList=[x,z]) (hat:c.argTypes.toList=[t,s]) (ht:mN X.P t=some e) (hn:tsz X.P e=some n) (hu:gQ X.P s=true)
  (hb:(Nat.ble (X.P.bytesOf e) 1024&&kU X.P e n)=true) (hx:evT X.P t tm x=some (.c (.full n (u.map g)))) (hz:evT X.P s tm z=some zv) (hzz:appended zv=some (n,ms)) :
  EvO X o ⟨tm,hp,nid,df,pn⟩ (.c (.own n (y.map g))) ⟨tm,hp,nid,df,pn⟩ (bR x tm):=by
 subst hm
 unfold lapp at hy
 split at hy
 ·rename_i hl
  simp only[sJ] at hy; subst hy
  simp only[Bool.and_eq_true] at hb
  refine .of λcall=>?_
  have h2:X.P.bytesOf e<=1024/\kU X.P e n=true:=⟨Nat.le_of_ble_eq_true hb.1,hb.2⟩
  simp only[cP,ho,hc,ha,hat,iX,ht,hn,hu,hx,hz,hzz,bJ,h2,and_self,if_true,List.length_map,hl,List.map_append]
 cases hy
theorem AvR {α:Type} {g:α->D} {u m y:List α} {o:Oper} {c:Go.Call} {t s e:TypeId} {z:Operand} {n w:Nat} {zv:V} {ms:List D} (hy:lapp u m=some y) (hm:ms=m.map g)
  (ho:o.op=.call c) (hc:c.callee=.builtin .append) (ha:c.args.toList=[.tmp w,z]) (hat:c.argTypes.toList=[t,s]) (ht:mN X.P t=some e) (hn:tsz X.P e=some n) (hu:gQ X.P s=true)
  (hb:(Nat.ble (X.P.bytesOf e) 1024&&kU X.P e n)=true) (hx:evT X.P t tm (.tmp w)=some (.c (.own n (u.map g)))) (hz:evT X.P s tm z=some zv) (hzz:appended zv=some (n,ms)) :
  EvO X o ⟨tm,hp,nid,df,pn⟩ (.c (.own n (y.map g))) ⟨plainAt w tm,hp,nid,df,pn⟩ (bR (.tmp w) tm):=by
 subst hm
 unfold lapp at hy
 split at hy
 ·rename_i hl
  simp only[sJ] at hy; subst hy
  simp only[Bool.and_eq_true] at hb
  refine .of λcall=>?_
  have h2:X.P.bytesOf e<=1024/\kU X.P e n=true:=⟨Nat.le_of_ble_eq_true hb.1,hb.2⟩
  simp only[cP,ho,hc,ha,hat,iX,ht,hn,hu,hx,hz,hzz,bJ,h2,and_self,if_true,List.length_map,hl,List.map_append]
 cases hy
theorem BdM {α:Type} {g:α->D} {u y:List α} {o:Oper} {t e:TypeId} {x hh mm:Operand} {v:V} {k k':IntKind} {n:Int} {sz:Nat} (hy:lto u n=some y)
  (ho:o.op=.slice t x none (some hh) (some mm)) (ht:X.P.underlying t=some (.slice e)) (hz:tsz X.P e=some sz) (hx:evT X.P t tm x=some v) (hv:v.toD=some (.list sz (u.map g))) (hi:ev tm hh=some (.c (.d (.int k n)))) (hi':ev tm mm=some (.c (.d (.int k' n)))) :
  EvO X o ⟨tm,hp,nid,df,pn⟩ (.c (.full sz (y.map g))) ⟨tm,hp,nid,df,pn⟩ ⟨cL o tm,[],[]⟩:=by
 unfold lto at hy
 split at hy
 ·rename_i hb
  simp only[sJ] at hy; subst hy
  refine .of λcall=>?_
  have h1:n.toNat<=(u.map g).length:=by simpa using hb.2
  simp[cP,ho,evR,hx,Ad6 hv,ht,hv,fX,hi,hi',hb.1,AgT,hz,List.map_take,hb.2]
 cases hy
def idiv (k:IntKind) (a b:Int):Option Int:=if b=0 then none else some (k.wrap (a.tdiv b))
def irem (a b:Int):Option Int:=if b=0 then none else some (a.tmod b)
theorem Bh4 {o:Oper} {t u:TypeId} {x z:Operand} {k:IntKind} {a b y:Int} (hy:idiv k a b=some y) (ho:o.op=.binOp .quo t x z u) (hx:evT X.P t tm x=some (.c (.d (.int k a)))) (hz:evT X.P t tm z=some (.c (.d (.int k b)))) :
  EvO X o ⟨tm,hp,nid,df,pn⟩ (.d (.int k y)) ⟨tm,hp,nid,df,pn⟩ ⟨cL o tm,[],[]⟩:=by
 unfold idiv at hy
 split at hy
 ·cases hy
 rename_i hb
 simp only[sJ] at hy; subst hy
 exact .of λ_=>by simp only[cP,ho,evR,hx,hz,AvC,if_true,AwI,hb,if_false]
theorem Bh5 {o:Oper} {t u:TypeId} {x z:Operand} {k:IntKind} {a b y:Int} (hy:irem a b=some y) (ho:o.op=.binOp .rem t x z u) (hx:evT X.P t tm x=some (.c (.d (.int k a)))) (hz:evT X.P t tm z=some (.c (.d (.int k b)))) :
  EvO X o ⟨tm,hp,nid,df,pn⟩ (.d (.int k y)) ⟨tm,hp,nid,df,pn⟩ ⟨cL o tm,[],[]⟩:=by
 unfold irem at hy
 split at hy
 ·cases hy
 rename_i hb
 simp only[sJ] at hy; subst hy
 exact .of λ_=>by simp only[cP,ho,evR,hx,hz,AvC,if_true,AwI,hb,if_false]
theorem BhA {o:Oper} {t u:TypeId} {x z:Operand} {fs:Array Field} {xs ys:List D} {b:Bool} (hS:(X.P.stoodInHeld t||X.P.eqGuardType X.P.depth t)=false) (ho:o.op=.binOp .neq t x z u) (hf:X.P.underlying t=some (.struct fs))
  (hx:evT X.P t tm x=some (.c (.d (.agg xs)))) (hz:evT X.P t tm z=some (.c (.d (.agg ys)))) (hq:AyM X.P fs.toList xs ys=some b) :
  EvO X o ⟨tm,hp,nid,df,pn⟩ (.d (.bool !b)) ⟨tm,hp,nid,df,pn⟩ ⟨cL o tm,[],[]⟩:=
 .of λ_=>by simp only[cP,ho,evR,hx,hz,AvC,BbG,hf,hS,fJ,if_false,hq]; rfl
theorem Bh9 {o:Oper} {t u:TypeId} {x z:Operand} {fs:Array Field} {xs ys:List D} {b:Bool} (hS:(X.P.stoodInHeld t||X.P.eqGuardType X.P.depth t)=false) (ho:o.op=.binOp .eql t x z u) (hf:X.P.underlying t=some (.struct fs))
  (hx:evT X.P t tm x=some (.c (.d (.agg xs)))) (hz:evT X.P t tm z=some (.c (.d (.agg ys)))) (hq:AyM X.P fs.toList xs ys=some b) :
  EvO X o ⟨tm,hp,nid,df,pn⟩ (.d (.bool b)) ⟨tm,hp,nid,df,pn⟩ ⟨cL o tm,[],[]⟩:=
 .of λ_=>by simp only[cP,ho,evR,hx,hz,AvC,BbG,hf,hS,fJ,if_false,hq]; rfl
theorem yY {o:Oper} {s s1:St} {v:V} {ft:eM} (h:cP X.P AcS s.nid o s=some (.val v s1,ft)):EvO X o s v s1 ft:=
 ⟨0,λ_ _=>vE h _⟩
theorem Bi6 {o:Oper} {s s1:St} {v v':V} {ft:eM} (hv:v=v') (h:EvO X o s v s1 ft):EvO X o s v' s1 ft:=hv▸h
end
end Go.AM
namespace Go.AM
open Go
variable [cM]
end Go.AM
namespace Go.AM
open Go
mutual
inductive Arr where
 |mk (shape:List Int) (cells:List aA)
inductive aA where
 |mk (kind:Int) (n:Int) (box:List Arr)
end
instance:Inhabited Arr:=⟨.mk [] []⟩
instance:Inhabited aA:=⟨.mk 0 0 []⟩
def Arr.shape:Arr->List Int|.mk s _=>s
def Arr.cells:Arr->List aA|.mk _ c=>c
def aA.kind:aA->Int|.mk k _ _=>k
def aA.n:aA->Int|.mk _ n _=>n
def aA.box:aA->List Arr|.mk _ _ b=>b
mutual
def aW:Arr->D
 |.mk sh cs=>.agg [.list 1 (sh.map (D.int .i64)),.list 3 (Ah1 cs)]
def Ah1:List aA->List D
 | []=>[]
 |c::cs=>AoO c::Ah1 cs
def AoO:aA->D
 |.mk k n b=>.agg [.int .i64 k,.int .i64 n,.list 2 (Ak1 b)]
def Ak1:List Arr->List D
 | []=>[]
 |a::l=>aW a::Ak1 l
end
def aD (c:aA):D:=.agg [.int .i64 c.kind,.int .i64 c.n,.list 2 (c.box.map aW)]
def encArr (a:Arr):D:=.agg [.list 1 (a.shape.map (D.int .i64)),.list 3 (a.cells.map aD)]
theorem Ak2:∀l:List Arr,Ak1 l=l.map aW
 | []=>rfl
 |a::l=>by simp only[Ak1,Ak2 l,List.map_cons]
theorem AvU:∀c:aA,AoO c=aD c
 |.mk k n b=>by simp only[AoO,aD,Ak2,aA.kind,aA.n,aA.box]
theorem Ai0:∀l:List aA,Ah1 l=l.map aD
 | []=>rfl
 |c::l=>by simp only[Ah1,Ai0 l,AvU,List.map_cons]
theorem pX:∀a:Arr,aW a=encArr a
 |.mk sh cs=>by simp only[aW,encArr,Ai0,Arr.shape,Arr.cells]
structure BmI where
 kind:Int
 text:Str
 lit:Arr
 at_:Int
 deriving Inhabited
structure BmH where
 err:Int
 at_:Int
 why:Int
 deriving Inhabited
inductive Node where
 |mk (kind op:Int) (name:Str) (lit:Arr) (kids:List Node) (at_:Int)
instance:Inhabited Node:=⟨.mk 0 0 [] (.mk [] []) [] 0⟩
def Node.kind:Node->Int|.mk k _ _ _ _ _=>k
def Node.op_:Node->Int|.mk _ o _ _ _ _=>o
def Node.name:Node->Str|.mk _ _ n _ _ _=>n
def Node.lit:Node->Arr|.mk _ _ _ l _ _=>l
def Node.kids:Node->List Node|.mk _ _ _ _ k _=>k
def Node.at_:Node->Int|.mk _ _ _ _ _ a=>a
mutual
def qR:Node->D
 |.mk k o n l ks a=>.agg [.int .i64 k,.int .i64 o,.str n,.list 1 (l.shape.map (D.int .i64)),.list 3 (l.cells.map aD),.list 7 (Ah2 ks),.int .i64 a]
def Ah2:List Node->List D
 | []=>[]
 |n::l=>qR n::Ah2 l
end
def encNode (n:Node):D:=.agg [.int .i64 n.kind,.int .i64 n.op_,.str n.name,.list 1 (n.lit.shape.map (D.int .i64)),.list 3 (n.lit.cells.map aD),.list 7 (n.kids.map qR),.int .i64 n.at_]
theorem Ai1:∀l:List Node,Ah2 l=l.map qR
 | []=>rfl
 |n::l=>by simp only[Ah2,Ai1 l,List.map_cons]
theorem vD:∀n:Node,qR n=encNode n
 |.mk k o n l ks a=>by simp only[qR,encNode,Ai1,Node.kind,Node.op_,Node.name,Node.lit,Node.kids,Node.at_]
structure BmJ where
 set_:Str
 origin:Int
 expr:Node
 deriving Inhabited
structure BjP where
 verbs:List Str
 adverbs:List Str
 behind:List Str
 outer:Str
 power:Str
 open_:Str
 close:Str
 left:Str
 right:Str
 minus:Str
 quote:Str
 trains:Bool
 lone:Bool
 square:Bool
 deriving Inhabited
def jV {α:Type} (sz:Nat) (g:α->D) (l:List α):D:=.list sz (l.map g)
end Go.AM
namespace Go.AM
open Go
variable [cM]
theorem ApY {K:Col} {w w':World} (h:Go.RowKit.Below w.heap.size w w'):Step iL K w K w':=
 ⟨h.os,h.tape,h.output,h.size,λb hb _=>h.block b hb,λb off hb _=>
  ⟨by simp[World.cell?,h.block b hb],by simp[World.frozen?,h.block b hb],rfl⟩,λb off hx=>by
   obtain⟨u,hu⟩:=Option.isSome_iff_exists.1 hx.1
   have h1:w'.cell? (ad b off)=w.cell? (ad b off):=by simp[World.cell?,h.block b (block_lt hu)]
   have h2:w'.frozen? (ad b off)=w.frozen? (ad b off):=by simp[World.frozen?,h.block b (block_lt hu)]
   exact⟨by rw[h1]; exact hx.1,by rw[h2]; exact hx.2⟩⟩
theorem At9 {P:Program} {f:Nat} {args:List C} {lh:List (List C)} {d:D}
  (h:∀K μ w vs,bA K μ w args vs->rO K w->AjB K w->Calls P f vs.toArray w λe w'=>(∃u,e=.returned u/\Rep K w' d u)/\Go.RowKit.Below w.heap.size w w') :
  CallOK P f args lh (.ret (.d d) lh):=by
 intro K μ w vs hr hi hh hb hgl
 refine (h K μ w vs hr hb hgl).mono ?_
 rintro e w' ⟨⟨u,rfl,hu⟩,hbw⟩
 have hst:=ApY (K:=K) hbw
 refine⟨K,μ,hst,λblk off hl=>hb _ _ (Nat.le_trans hbw.size hl),λ_ _=>rfl,Nat.le_refl _,?_,by simp[mR],by simp[V.ids,C.ids],_,rfl,hu⟩
 intro i cells hic
 refine⟨(hh i cells hic).1,(hh i cells hic).2.step (W:=λ_=>False) ⟨hst.os,hst.tape,hst.output,hst.size,λb hb _=>hbw.block b hb,λb off hb _=>⟨by simp[World.cell?,hbw.block b hb],by simp[World.frozen?,hbw.block b hb],rfl⟩,hst.ex⟩ (by simp) (by simp) (by simp)⟩
end Go.AM
namespace Go.AM
open Go
variable [cM]
def Ae0:List D->Option (List Int)
 | []=>some []
 |.int .i64 n::r=>(Ae0 r).map (n::·)
 |_::_=>none
omit [cM] in
theorem AhA:∀{ds:List D} {l:List Int},Ae0 ds=some l->ds=l.map (D.int .i64)
 | [],l,h=>by simp only[Ae0,sJ] at h; subst h; rfl
 |d::ds,l,h=>by
  unfold Ae0 at h
  split at h
  ·simp_all
  ·rename_i n r e
   simp only[List.cons.injEq] at e
   obtain⟨rfl,rfl⟩:=e
   obtain⟨q,hq,rfl⟩:=Option.map_eq_some_iff.1 h
   rw[AhA hq]; rfl
  simp at h
omit [cM] in
theorem Ae1:∀l:List Int,Ae0 (l.map (D.int .i64))=some l
 | []=>rfl
 |s::l=>by simp only[List.map_cons,Ae0,Ae1 l]; rfl
theorem AsH {K:Col} {w:World}:∀{l:List Int} {blk off:Nat},hC K w 1 blk off (l.map (D.int .i64))->∀(j:Nat) s,l[j]?=some s->w.cell? ⟨blk,off+j,none⟩=some (.int .i64 s)
 |s::l,blk,off,h,j,t,ht=>by
  simp only[List.map_cons,hC] at h
  obtain⟨⟨v,hv,hz,hc⟩,hr⟩:=h
  cases j with
  |zero=>
   simp only[List.getElem?_cons_zero,sJ] at ht; subst ht
   simp only[Rep] at hv; subst hv
   exact (hc 0 _ rfl).2
  |succ j=>
   have:=AsH hr j t (by simpa using ht)
   rw[show off+(j+1)=off+1+j from by omega]
   exact this
omit [cM] in
theorem AiT (l:List Int):fB (l.map (D.int .i64))=l.map λn=>C.d (.int .i64 n):=by
 induction l with
 |nil=>rfl
 |cons n l ih=>simp only[fB,List.map_cons,List.flatMap_cons] at ih ⊢; rw[ih]; rfl
theorem AqC {P:Program} {f:Nat} {args:List C} {lh:List (List C)} (ns:List Int)
  (h:∀K μ w vs,bA K μ w args vs->rO K w->AjB K w->Calls P f vs.toArray w λe w'=>Go.RowKit.Below w.heap.size w w'/\∃v,e=.returned v /\
   ((ns=[]/\Bi3 v)\/(ns≠[]/\∃T,w'.ownsRow w.heap.size T 1 v ns.length (ns.map (Value.int .i64))))) :
  CallOK P f args lh (.ret (.c (.arr lh.length ns.length 1)) (lh++[[.seq 1 (ns.map (D.int .i64))]])):=by
 intro K μ w vs hr hi hh hb hgl
 refine (h K μ w vs hr hb hgl).mono ?_
 rintro e w' ⟨hbw,v,rfl,hv⟩
 have hst:=ApY (K:=K) hbw
 have hstF:Step (λ_=>False) K w K w':=⟨hst.os,hst.tape,hst.output,hst.size,λb hb _=>hbw.block b hb,λb off hb _=>⟨by simp[World.cell?,hbw.block b hb],by simp[World.frozen?,hbw.block b hb],rfl⟩,hst.ex⟩
 have hold:∀{i:Nat} {cells:List C},lh[i]?=some cells->kJ K μ w' i cells:=λhic=>(hh _ _ hic).2.step (W:=λ_=>False) hstF (by simp) (by simp) (by simp)
 rcases hv with ⟨rfl,hv⟩|⟨hne,T,hl,hv⟩
 ·refine⟨K,μ,hst,λblk off hl=>hb _ _ (Nat.le_trans hbw.size hl),λ_ _=>rfl,by simp,?_,by simp[mR],by simp[V.ids,C.ids],_,rfl,.inl ⟨rfl,hv⟩⟩
  intro i cells hic
  rcases Nat.lt_or_ge i lh.length with hlt|hge
  ·rw[List.getElem?_append_left hlt] at hic
   exact⟨λc hc j hj=>by have:=(hh i cells hic).1 c hc j hj; simp; omega,hold hic⟩
  rw[List.getElem?_append_right hge] at hic
  have:i-lh.length=0:=by
   rcases Nat.eq_zero_or_pos (i-lh.length) with h0|h0
   ·exact h0
   rw[List.getElem?_eq_none (by simp; omega)] at hic; simp at hic
  rw[this] at hic
  simp only[List.getElem?_cons_zero,sJ] at hic
  subst hic
  exact⟨by simp[C.ids],.inl (.mk 1 (by omega))⟩
 rcases hv with ⟨_,h0⟩|⟨g,cap,cur,rfl,hg,hblk,hnc,hcm,hsz,hcur⟩
 ·exact absurd (List.length_eq_zero_iff.1 h0) hne
 have hgs:g<w'.heap.size:=by
  rcases Nat.lt_or_ge g w'.heap.size with h|h
  ·exact h
  rw[Array.getElem?_eq_none h] at hblk; simp at hblk
 have hcell:∀i,w'.cell? (ad g i)=cur[i]?:=λi=>by simp[World.cell?,hblk]
 have hfz:∀i,w'.frozen? (ad g i)=false:=λi=>by simp[World.frozen?,hblk]
 have hst':Step (λ_=>False) K w (gB K g λ_=>.blk lh.length) w':=⟨hst.os,hst.tape,hst.output,hst.size,λb hb _=>hbw.block b hb,λb off hb _=>⟨by simp[World.cell?,hbw.block b hb],by simp[World.frozen?,hbw.block b hb],by simp only[gB]; rw[if_neg (by omega)]⟩,hst.ex⟩
 refine⟨gB K g λ_=>.blk lh.length,λi=>if i=lh.length then g else μ i,⟨hst'.os,hst'.tape,hst'.output,hst'.size,λb hb _=>hst'.block b hb (by simp),λb off hb _=>hst'.cell b off hb (by simp),hst'.ex⟩,?_,λi hi=>by simp only; rw[if_neg (by omega)],by simp,?_,by simp[mR],by simp[V.ids,C.ids],_,rfl,?_⟩
 ·intro blk off hl
  simp only[gB]
  rw[if_neg (by omega)]
  exact hb _ _ (Nat.le_trans hbw.size hl)
 ·intro i cells hic
  rcases Nat.lt_or_ge i lh.length with hlt|hge
  ·rw[List.getElem?_append_left hlt] at hic
   refine⟨λc hc j hj=>by have:=(hh i cells hic).1 c hc j hj; simp; omega,?_⟩
   have h1:=(hh _ _ hic).2.step (W:=λ_=>False) hst' (by simp) (by simp) (by simp)
   exact kJ.mu (if_neg (by omega)) (λc hc j hj=>by
    have:=(hh i cells hic).1 c hc j hj
    exact if_neg (by omega)) h1
  rw[List.getElem?_append_right hge] at hic
  have h0:i=lh.length:=by
   rcases Nat.eq_zero_or_pos (i-lh.length) with h0|h0
   ·omega
   rw[List.getElem?_eq_none (by simp; omega)] at hic; simp at hic
  subst h0
  simp only[Nat.sub_self,List.getElem?_cons_zero,sJ] at hic
  subst hic
  refine⟨by simp[C.ids],.inr ⟨λoff _=>by simp[gB],by simpa using hgs,.inl ⟨rfl,?_,?_⟩⟩⟩
  ·intro k c hk _
   simp only[eZ] at hk
   rw[AiT,List.getElem?_map] at hk
   obtain⟨n,hn,rfl⟩:=Option.map_eq_some_iff.1 hk
   refine⟨.int .i64 n,?_,rfl,by simp only[if_true]; exact hfz k,rfl,by simp⟩
   simp only[if_true]
   rw[hcell k]
   have hkl:k<ns.length:=by
    rcases Nat.lt_or_ge k ns.length with h|h
    ·exact h
    rw[List.getElem?_eq_none h] at hn; simp at hn
   have:(cur.toList.take (ns.length*1))[k]?=some (Value.int .i64 n):=by rw[hcur,List.getElem?_map,hn]; rfl
   rw[List.getElem?_take_of_lt (by omega)] at this
   simpa using this
  intro sz ds e
  simp only[List.cons.injEq,C.seq.injEq,and_true] at e
  obtain⟨rfl,rfl⟩:=e
  refine⟨by omega,λd hd=>?_⟩
  obtain⟨n,_,rfl⟩:=List.mem_map.1 hd
  rfl
 refine .inr ⟨?_,cap,by simp,⟨hnc,by simp only[maxLen] at hcm; omega⟩,λj hj=>?_⟩
 ·exact List.length_pos_iff.2 hne
 simp only[if_true]
 exact⟨by rw[hcell j,Array.getElem?_eq_getElem (by omega)]; rfl,hfz j⟩
end Go.AM
namespace Go.AM
open Go Go.Proofs Go.Shelf Go.RowKit Go.Lib
theorem AhO {P:Program} {w:World} {ops:Array Oper} {rest:List Oper} {o:Oper} {a:Act} {Q:Exit->Act->World->Prop} (hgd:o.guard=none) (s x:Operand) (t:TypeId)
  (ho:o.op=.call { callee:=.builtin .append,args:=#[s,x],argTypes:=#[t,t] })
  (e:TypeId) (i:TypeInfo) (ht:P.underlying t=some (.slice e)) (hi:P.info? e=some i) (b:Addr) (hs:a.eval s=.slice (some b) 0 0) (d:Addr) (c:Nat) (hx:a.eval x=.slice (some d) 0 c)
  (h:wpList P ops Q rest (a.put o.dst (.slice (some b) 0 0)) w):wpList P ops Q (o::rest) a w:=by
 refine wpList_plain hgd λK hK=>?_
 have hf:=run_firstCells_some (P:=P) w i.size 0 d 0 c [] (by simp) (by simp)
 have hrun:(Builtin.append_ #[t,t] o.type #[.slice (some b) 0 0,.slice (some d) 0 c]).run P w=.ok (.slice (some b) 0 0) w:=by
  simp[Builtin.append_,run_underlying ht,sizeOf,typeInfo,hi,Builtin.lenOf,hf,Go.storeCells,Result.andThen]
 unfold Oper.wp
 simp[execOp,ho,resolve,invoke,builtin,hs,hx,hrun,Result.andThen]
 exact hK _ _ h
variable {P:Program} {ρ:Ren}
set_option maxHeartbeats 2000000 in
set_option maxRecDepth 100000 in
theorem AmB (L:SlLaysE0.n41 P ρ) (i0:TypeInfo) (hi:P.info? (ρ.t 23)=some i0) (a:Addr) (c:Nat) (w:World) :
  Calls P (ρ.f 41) #[.slice (some a) 0 c] w λe w'=>(∃a',e=.returned (.slice (some a') 0 0))/\Below w.heap.size w w':=by
 have mixed:=L.mixed; have t4:=L.t4; have a4:=L.a4; have z4:=L.z4; have v4:=L.v4; have t22:=L.t22; have a22:=L.a22; have z22:=L.z22; have v22:=L.v22
 have q22:∀(w:World) (a:Option Addr) (n c n' c':Nat),(binOp .eql (ρ.t 22) (.slice a n c) (.slice none n' c')).run P w=.ok (.bool a.isNone) w:=λw a n c n' c'=>Lib.run_eql_slice_nil w _ _ a n c n' c' L.t22
 have u22:∀w,Sem.run P (underlying (ρ.t 22)) w=.ok (TypeDesc.slice (ρ.t 23)) w:=run_underlying t22
 have z23:∀w,(Go.sizeOf (ρ.t 23)).run P w=.ok i0.size w:=λw=>by simp[sizeOf,typeInfo,hi]
 obtain⟨_,_,FG⟩:=L.f41
 go_enter FG,SlBodyN.n41_ntmps ρ
 go_wp2_with (at_builtin; refine AhO rfl _ _ (ρ.t 22) rfl (ρ.t 23) i0 t22 hi ⟨w.heap.size,0,none⟩ rfl a c rfl ?_)
 go_wp2
 go_ret
 exact⟨⟨_,rfl⟩,(Below.refl _ w).alloc (Nat.le_refl _) _⟩
end Go.AM
namespace Go.AM
open Go
variable [cM]
def AgZ:Call:=λ_ args lh=>match args with
 | [.d (.list 1 ds)]=>(Ae0 ds).bind λl=>if l.length<=4294967296 then some (.ret (.c (.arr lh.length l.length 1)) (lh++[[.seq 1 (l.map (D.int .i64))]])) else none
 |_=>none
theorem BdE {P:Program} {ρ:Shelf.Ren} (L:Go.Proofs.SlLaysE0.n41 P ρ) (i0:TypeInfo) (z:Value) (hi:P.info? (ρ.t 23)=some i0) (hz0:i0.zero=some z) (hz1:i0.size=1) (hz2:i0.bytes=8) (hzs:z.cells.size=1)
  {args:List C} {lh:List (List C)} {r:aE} (h:AgZ (ρ.f 41) args lh=some r):CallOK P (ρ.f 41) args lh r:=by
 unfold AgZ at h
 split at h
 ·rename_i ds
  obtain⟨l,hl,h2⟩:=Option.bind_eq_some_iff.1 h
  clear h
  have h:=h2; clear h2
  have hds:=AhA hl; subst hds
  split at h
  ·rename_i hn
   simp only[sJ] at h; subst h
   refine AqC l λK μ w vs hr hbd hgl=>?_
   cases hr with
   |cons hc hn'=>
    cases hn'
    rename_i v
    have z23:∀w,(Go.sizeOf (ρ.t 23)).run P w=.ok 1 w:=λw=>by simp[sizeOf,typeInfo,hi,hz1]
    simp only[RepC,Rep] at hc
    rcases hc with ⟨he,rfl|⟨ea,ecap,rfl⟩⟩|⟨blk,off,cap,rfl,hcap,he⟩
    ·have:l=[]:=by simpa using he
     subst this
     refine (Go.Proofs.AnyE.slices_Clone_nil L 0 0 w).mono ?_
     rintro e w' ⟨rfl,rfl⟩
     exact⟨Go.RowKit.Below.refl _ _,_,rfl,.inl ⟨rfl,.inl rfl⟩⟩
    ·have:l=[]:=by simpa using he
     subst this
     refine (AmB L i0 hi ea ecap w).mono ?_
     rintro e w' ⟨⟨a',rfl⟩,hb⟩
     exact⟨hb,_,rfl,.inl ⟨rfl,.inr ⟨_,rfl⟩⟩⟩
    rcases List.eq_nil_or_concat l with rfl|⟨l',x,hlx⟩
    ·refine (AmB L i0 hi (ad blk off) cap w).mono ?_
     rintro e w' ⟨⟨a',rfl⟩,hb⟩
     exact⟨hb,_,rfl,.inl ⟨rfl,.inr ⟨_,rfl⟩⟩⟩
    have hne:l≠[]:=by rw[hlx]; simp
    have hcell:=AsH he
    have:=Go.Proofs.AnyE.slices_Clone L i0 z 1 8 hi hz0 hz1 hz2 hzs (by omega) z23 blk off l.length cap (l.map (Value.int .i64)) w (by simp) (by simp[maxLen]; omega) (by omega)
     (λj u hu=>by
      rw[List.getElem?_map] at hu
      obtain⟨n,hn,rfl⟩:=Option.map_eq_some_iff.1 hu
      exact hcell j n hn) (λu hu=>by
      obtain⟨n,_,rfl⟩:=List.mem_map.1 hu
      rfl)
    simp only[List.length_map] at this ⊢
    refine this.mono ?_
    rintro e w' ⟨v',rfl,ho,_,hb⟩
    exact⟨hb,_,rfl,.inr ⟨hne,_,ho⟩⟩
  simp at h
 simp at h
omit [cM] in
theorem yT {w:World} {q g:Nat} {d:Array Int} {c:Array Value} {e:TypeId} {fr:Nat×Nat} (h:w.heap[g]?=some (.cells c e fr)) (b:Nat) :
  (Sort.putRow (Value.int .i64) (Sort.ahead w q) g 0 d).heap[b]?=if g=b then some (.cells (Sort.putCells (Value.int .i64) 0 d c) e fr) else w.heap[b]?:=by
 simp only[Sort.putRow,Sort.mapBlock,Sort.ahead,Array.getElem?_modify]
 by_cases hb:g=b
 ·subst hb; simp[h,Sort.onCells]
 simp[hb]
omit [cM] in
theorem AgM {w:World} {q g:Nat} {d:Array Int} {c:Array Value} {e:TypeId} {fr:Nat×Nat} (h:w.heap[g]?=some (.cells c e fr)) (i:Nat) :
  (Sort.putRow (Value.int .i64) (Sort.ahead w q) g 0 d).cell? (ad g i)=(w.cell? (ad g i)).map λx=>if i<d.size then Value.int .i64 d[i]! else x:=by
 simp only[World.cell?,yT h,if_true,h]
 simp[Sort.putCells,Array.getElem?_mapIdx]
omit [cM] in
theorem AcT {w:World} {q g:Nat} {d:Array Int} {c:Array Value} {e:TypeId} {fr:Nat×Nat} (h:w.heap[g]?=some (.cells c e fr)) (b i:Nat) :
  (Sort.putRow (Value.int .i64) (Sort.ahead w q) g 0 d).frozen? (ad b i)=w.frozen? (ad b i):=by
 simp only[World.frozen?,yT h]
 by_cases hb:g=b
 ·subst hb; simp[h]
 simp[hb]
theorem Ac8 {K K':Col} {w:World} {q g:Nat} {d:Array Int} {c:Array Value} {e:TypeId} {fr:Nat×Nat} (h:w.heap[g]?=some (.cells c e fr)) {W:Tag->Prop} (hW:∀off,W (K g off)) (hK:∀b off,b≠g->K' b off=K b off) :
  Step W K w K' (Sort.putRow (Value.int .i64) (Sort.ahead w q) g 0 d):=by
 refine⟨rfl,rfl,rfl,by simp[Sort.putRow,Sort.mapBlock,Sort.ahead],λb hb hn=>?_,λb off hb hn=>?_,λb off ha=>?_⟩
 ·have:g≠b:=λe=>hn 0 (e▸hW 0)
  rw[yT h,if_neg this]
 ·have:g≠b:=λe=>hn (e▸hW off)
  refine⟨?_,AcT h _ _,hK _ _ (Ne.symm this)⟩
  simp only[World.cell?,yT h,if_neg this]
 refine⟨?_,by rw[AcT h]; exact ha.2⟩
 by_cases hb:g=b
 ·subst hb
  rw[AgM h]
  obtain⟨u,hu⟩:=Option.isSome_iff_exists.1 ha.1
  rw[hu]; rfl
 have:(Sort.putRow (Value.int .i64) (Sort.ahead w q) g 0 d).cell? (ad b off)=w.cell? (ad b off):=by simp only[World.cell?,yT h,if_neg hb]
 rw[this]; exact ha.1
theorem AsK {K:Col} {μ:Nat->Nat} {w:World} {b:Nat} {l:List Int} (hne:l≠[]) (h:kJ K μ w b [.seq 1 (l.map (D.int .i64))]) :
  (∀off,K (μ b) off=.blk b)/\(∃c e fr,w.heap[μ b]?=some (.cells c e fr))/\Sort.Holds (Value.int .i64) w (μ b) 0 l.toArray:=by
 have hnr:¬Ab7 [.seq 1 (l.map (D.int .i64))]:=by
  intro hr
  obtain⟨sz,e,_⟩:=lR hr
  simp only[List.cons.injEq,C.seq.injEq,and_true] at e
  exact hne (by simpa using e.2)
 have hcells:=(h.seq).1
 rw[AiT] at hcells
 have hold:∀j (n:Int),l[j]?=some n->w.cell? (ad (μ b) j)=some (.int .i64 n)/\w.frozen? (ad (μ b) j)=false:=by
  intro j n hj
  obtain⟨v,h1,_,h2,h3,_⟩:=hcells j (.d (.int .i64 n)) (by rw[List.getElem?_map,hj]; rfl) (by simp)
  simp only[RepC,Rep] at h3
  subst h3
  exact⟨h1,h2⟩
 refine⟨λoff=>(h.old hnr).1 off (by cases off<;>simp),?_,λj hj=>?_⟩
 ·cases l with
  |nil=>exact absurd rfl hne
  |cons x l=>
   obtain⟨c,e,fr,hc,_⟩:=Sort.cells_of_cell? (hold 0 x rfl).1
   exact⟨c,e,fr,hc⟩
 have hj':j<l.length:=by simpa using hj
 have:=hold j l[j] (by simp[hj'])
 simpa[hj',getElem!_pos] using this
def AcA:Call:=λ_ args lh=>match args with
 | [.arr b n 1]=>match lh[b]? with
  |some [.seq 1 ds]=>(Ae0 ds).bind λl=>if l.length=n/\n<=4294967296 then some (.ret (.tuple []) (lh.set b [.seq 1 (l.reverse.map (D.int .i64))])) else none
  |_=>none
 |_=>none
theorem Az5 {P:Program} {ρ:Shelf.Ren} (L:Go.Proofs.SlLaysE.n35 P ρ) {args:List C} {lh:List (List C)} {r:aE} (h:AcA (ρ.f 35) args lh=some r):CallOK P (ρ.f 35) args lh r:=by
 unfold AcA at h
 split at h
 ·rename_i b n
  split at h
  ·rename_i ds hlb
   obtain⟨l,hl,h2⟩:=Option.bind_eq_some_iff.1 h
   clear h
   have h:=h2; clear h2
   have hds:=AhA hl; subst hds
   split at h
   ·rename_i hn
    obtain⟨hln,hn⟩:=hn
    subst hln
    simp only[sJ] at h; subst h
    intro K μ w vs hr hi hh hb hgl
    have hblt:b<lh.length:=(List.getElem?_eq_some_iff.1 hlb).1
    cases hr with
    |cons hc hn'=>
     cases hn'
     rename_i v
     simp only[RepC] at hc
     rcases List.eq_nil_or_concat l with rfl|⟨l',x,hlx⟩
     ·obtain⟨a,cap,rfl⟩:=hc.one
      refine (Go.Proofs.AnyE.slices_Reverse_empty L a cap w).mono ?_
      rintro e w' ⟨rfl,rfl⟩
      refine⟨K,μ,Step.refl _ _ _,hb,λ_ _=>rfl,by simp,?_,by simp[mR],by simp[V.ids],_,rfl,⟨[],rfl,.nil⟩⟩
      intro i cells hic
      rw[List.getElem?_set] at hic
      split at hic
      ·rename_i hib
       subst hib
       simp only[hblt,if_true,sJ] at hic
       subst hic
       have:=hh _ _ hlb
       exact⟨by simp[C.ids],this.2⟩
      have:=hh _ _ hic
      exact⟨by simpa using this.1,this.2⟩
     have hne:l≠[]:=by rw[hlx]; simp
     obtain⟨htag,⟨c,e,fr,hcs⟩,hH⟩:=AsK hne (hh _ _ hlb).2
     obtain⟨cap,rfl,hcap,hal⟩:=hc.based (List.length_pos_iff.2 hne)
     refine (Go.Proofs.AnyE.slices_Reverse L (Value.int .i64) (λ_=>rfl) (μ b) 0 cap l w hH (by omega)).mono ?_
     rintro e w' ⟨rfl,q,rfl⟩
     have hst:Step iL K w K (Sort.putRow (Value.int .i64) (Sort.ahead w q) (μ b) 0 l.reverse.toArray):=Ac8 hcs (λoff=>by rw[htag]; simp[iL]) λ_ _ _=>rfl
     have hst2:Step (λt=>t=.blk b) K w K (Sort.putRow (Value.int .i64) (Sort.ahead w q) (μ b) 0 l.reverse.toArray):=Ac8 hcs htag λ_ _ _=>rfl
     refine⟨K,μ,hst,λblk off hl=>hb _ _ (Nat.le_trans hst.size hl),λ_ _=>rfl,by simp,?_,by simp[mR],by simp[V.ids],_,rfl,⟨[],rfl,.nil⟩⟩
     intro i cells hic
     rw[List.getElem?_set] at hic
     split at hic
     ·rename_i hib
      subst hib
      simp only[hblt,if_true,sJ] at hic
      subst hic
      refine⟨by simp[C.ids],.inr ⟨λoff _=>htag off,?_,.inl ⟨rfl,?_,?_⟩⟩⟩
      ·have:μ b<w.heap.size:=by
        rcases Nat.lt_or_ge (μ b) w.heap.size with h|h
        ·exact h
        rw[Array.getElem?_eq_none h] at hcs; simp at hcs
       exact Nat.lt_of_lt_of_le this hst.size
      ·intro k c' hk _
       simp only[eZ] at hk
       rw[AiT,List.getElem?_map] at hk
       obtain⟨m,hm,rfl⟩:=Option.map_eq_some_iff.1 hk
       have hkl:k<l.length:=by
        rcases Nat.lt_or_ge k l.reverse.length with h|h
        ·simpa using h
        rw[List.getElem?_eq_none h] at hm; simp at hm
       obtain⟨h1,h2⟩:=hH k (by simpa using hkl)
       simp only[Nat.zero_add] at h1 h2
       refine⟨.int .i64 m,?_,rfl,by rw[AcT hcs]; exact h2,rfl,by simp⟩
       rw[AgM hcs,h1]
       have hm':l.reverse.toArray[k]?=some m:=by simpa using hm
       simp only[Option.map_some,sJ]
       rw[if_pos (by simpa using hkl),getElem!_def,hm']
      intro sz ds e
      simp only[List.cons.injEq,C.seq.injEq,and_true] at e
      obtain⟨rfl,rfl⟩:=e
      refine⟨by omega,λd hd=>?_⟩
      obtain⟨n,_,rfl⟩:=List.mem_map.1 hd
      rfl
     rename_i hib
     have:=hh _ _ hic
     exact⟨by simpa using this.1,this.2.step (W:=λt=>t=.blk b) hst2 (by simp) (by simp; omega) (by simp)⟩
   simp at h
  simp at h
 simp at h
omit [cM] in
theorem Ax8 {K:Col} {w:World} {blk:Nat}:∀(l:List Int) (off:Nat),(∀j n,l[j]?=some n->K blk (off+j)=.ro/\w.cell? (ad blk (off+j))=some (.int .i64 n))->hC K w 1 blk off (l.map (D.int .i64))
 | [],_,_=>trivial
 |x::l,off,h=>by
  simp only[List.map_cons,hC]
  refine⟨⟨.int .i64 x,rfl,rfl,λi v hv=>?_⟩,Ax8 l (off+1) λj n hj=>?_⟩
  ·cases i with
   |zero=>
    simp only[Value.cells,List.getElem?_cons_zero,sJ] at hv
    subst hv
    exact h 0 x rfl
   |succ i=>simp[Value.cells] at hv
  have:=h (j+1) n (by simpa using hj)
  rwa [show off+1+j=off+(j+1) from by omega]
def AdR:Call:=λ_ args lh=>match args with
 | [.arr b n 1,.d (.int .i64 i),.d (.int .i64 j)]=>match lh[b]? with
  |some [.seq 1 ds]=>(Ae0 ds).bind λl=>if l.length=n/\0<n/\n<=4294967296/\0<=i/\i<=j/\j<=n then some (.ret (.c (.d (.list 1 ((l.take i.toNat++l.drop j.toNat).map (D.int .i64))))) (lh.set b [.seq 1 []])) else none
  |_=>none
 |_=>none
theorem BbB {P:Program} {ρ:Shelf.Ren} (L:Go.Proofs.SlLaysE.n45 P ρ) (v23:∀w,(zeroValue (ρ.t 23)).run P w=.ok (.int .i64 0) w) (i0:TypeInfo) (hi:P.info? (ρ.t 23)=some i0) (hz1:i0.size=1)
  {args:List C} {lh:List (List C)} {r:aE} (h:AdR (ρ.f 45) args lh=some r):CallOK P (ρ.f 45) args lh r:=by
 unfold AdR at h
 split at h
 ·rename_i b n i j
  split at h
  ·rename_i ds hlb
   obtain⟨l,hl,h2⟩:=Option.bind_eq_some_iff.1 h
   clear h
   have h:=h2; clear h2
   have hds:=AhA hl; subst hds
   split at h
   ·rename_i hn
    obtain⟨hln,hn0,hn,hi0,hij,hjn⟩:=hn
    subst hln
    simp only[sJ] at h; subst h
    intro K μ w vs hr hi' hh hb hgl
    have hblt:b<lh.length:=(List.getElem?_eq_some_iff.1 hlb).1
    obtain⟨i,rfl⟩:=Int.eq_ofNat_of_zero_le hi0
    obtain⟨j,rfl⟩:=Int.eq_ofNat_of_zero_le (Int.le_trans hi0 hij)
    simp only[Int.toNat_natCast] at *
    cases hr with
    |cons hc hn'=>
    cases hn' with
    |cons h1 hn'=>
    cases hn' with
    |cons h2 hn'=>
     cases hn'
     rename_i v v1 v2
     simp only[RepC,Rep] at hc h1 h2
     subst h1 h2
     have hne:l≠[]:=List.length_pos_iff.1 hn0
     obtain⟨htag,⟨c,e,fr,hcs⟩,hH⟩:=AsK hne (hh _ _ hlb).2
     obtain⟨cap,rfl,hcap,hal⟩:=hc.based hn0
     refine (Go.Proofs.AnyE.slices_Delete L (Value.int .i64) (λ_=>rfl) 0 v23 i0 hi hz1 (μ b) 0 cap i j l.toArray w hH (by simpa using hcap.1) hcap.2 (by omega) (by simp; omega)).mono ?_
     rintro e w' ⟨rfl,q,rfl⟩
     have hst:Step iL K w (gB K (μ b) λ_=>.ro) (Sort.putRow (Value.int .i64) (Sort.ahead w q) (μ b) 0 (l.take i++l.drop j++List.replicate (j-i) 0).toArray):=
      Ac8 hcs (λoff=>by rw[htag]; simp[iL]) λb' off hb'=>by simp[gB,hb']
     have hst2:Step (λt=>t=.blk b) K w (gB K (μ b) λ_=>.ro) (Sort.putRow (Value.int .i64) (Sort.ahead w q) (μ b) 0 (l.take i++l.drop j++List.replicate (j-i) 0).toArray):=
      Ac8 hcs htag λb' off hb'=>by simp[gB,hb']
     have hμ:μ b<w.heap.size:=by
      rcases Nat.lt_or_ge (μ b) w.heap.size with h|h
      ·exact h
      rw[Array.getElem?_eq_none h] at hcs; simp at hcs
     refine⟨_,μ,hst,λblk off hl=>?_,λ_ _=>rfl,by simp,?_,by simp[mR],by simp[V.ids,C.ids],_,rfl,?_⟩
     ·have h2:=Nat.le_trans hst.size hl
      simp only[gB]
      rw[if_neg (by omega)]
      exact hb _ _ h2
     ·intro i' cells hic
      rw[List.getElem?_set] at hic
      split at hic
      ·rename_i hib
       subst hib
       simp only[hblt,if_true,sJ] at hic
       subst hic
       exact⟨by simp[C.ids],.inl (.mk 1 (by omega))⟩
      rename_i hib
      have:=hh _ _ hic
      exact⟨by simpa using this.1,this.2.step (W:=λt=>t=.blk b) hst2 (by simp) (by simp; omega) (by simp)⟩
     have hll:(l.take i++l.drop j).length=l.toArray.size-(j-i):=by simp; omega
     refine .inr ⟨μ b,0,cap,?_,?_,Ax8 _ 0 λk m hk=>⟨by simp[gB],?_⟩⟩
     ·rw[List.length_map,hll]
     ·rw[List.length_map]
      have:=hcap.1
      simp; omega
     have hkl:k<(l.take i++l.drop j).length:=(List.getElem?_eq_some_iff.1 hk).1
     have hkl2:k<l.length:=by simp at hkl; omega
     obtain⟨h1,h2⟩:=hH k (by simpa using hkl2)
     simp only[Nat.zero_add] at h1 h2 ⊢
     rw[AgM hcs,h1]
     have hm':(l.take i++l.drop j++List.replicate (j-i) 0).toArray[k]?=some m:=by
      simp only[List.getElem?_toArray]
      rw[List.getElem?_append_left hkl]; exact hk
     simp only[Option.map_some,sJ]
     rw[if_pos (by simp at hkl ⊢; omega),getElem!_def,hm']
   simp at h
  simp at h
 simp at h
end Go.AM
namespace Go.AM.Run
open Go Go.Proofs Go.RowKit
def AlY (b:Bool):Int:=if b then 1 else 0
def heldI (op a b:Int):Option Int:=
 if op=29 then some (AlY (decide (a<b))) else if op=30 then some (AlY (decide (b<a))) else if op=31 then some (AlY (decide (a<=b))) else if op=32 then some (AlY (decide (b<=a)))
 else if op=27 then some (AlY (a==b)) else if op=28 then some (AlY (!(a==b))) else none
theorem AaB (b:Bool) (w:World):Calls Tryz.prog 173 #[.bool b] w λe w'=>e=.returned (.int .i64 (AlY b))/\w'=w:=by
 cases b
 all_goals
  go_enter Tryz.func173,Tryz.ntmps173
  go_wp2
  all_goals (go_ret; exact⟨rfl,rfl⟩)
theorem BiA (a b:Int) (w:World):Calls Tryz.prog 174 #[.int .i64 29,.int .i64 a,.int .i64 b] w λe w'=>e=.returned (.int .i64 (AlY (decide (a<b))))/\Below w.heap.size w w':=by
 go_enter Tryz.func174,Tryz.ntmps174
 go_wp2_with (go_at_call 173; refine (AaB _ _).mono ?_; rintro e w' ⟨rfl,rfl⟩)
 all_goals first|go_wall|(go_ret; refine⟨by first|rfl|simp,?_⟩; go_grown)
theorem BiB (a b:Int) (w:World):Calls Tryz.prog 174 #[.int .i64 30,.int .i64 a,.int .i64 b] w λe w'=>e=.returned (.int .i64 (AlY (decide (b<a))))/\Below w.heap.size w w':=by
 go_enter Tryz.func174,Tryz.ntmps174
 go_wp2_with (go_at_call 173; refine (AaB _ _).mono ?_; rintro e w' ⟨rfl,rfl⟩)
 all_goals first|go_wall|(go_ret; refine⟨by first|rfl|simp,?_⟩; go_grown)
theorem BiC (a b:Int) (w:World):Calls Tryz.prog 174 #[.int .i64 31,.int .i64 a,.int .i64 b] w λe w'=>e=.returned (.int .i64 (AlY (decide (a<=b))))/\Below w.heap.size w w':=by
 go_enter Tryz.func174,Tryz.ntmps174
 go_wp2_with (go_at_call 173; refine (AaB _ _).mono ?_; rintro e w' ⟨rfl,rfl⟩)
 all_goals first|go_wall|(go_ret; refine⟨by first|rfl|simp,?_⟩; go_grown)
theorem BiD (a b:Int) (w:World):Calls Tryz.prog 174 #[.int .i64 32,.int .i64 a,.int .i64 b] w λe w'=>e=.returned (.int .i64 (AlY (decide (b<=a))))/\Below w.heap.size w w':=by
 go_enter Tryz.func174,Tryz.ntmps174
 go_wp2_with (go_at_call 173; refine (AaB _ _).mono ?_; rintro e w' ⟨rfl,rfl⟩)
 all_goals first|go_wall|(go_ret; refine⟨by first|rfl|simp,?_⟩; go_grown)
theorem Bi8 (a b:Int) (w:World):Calls Tryz.prog 174 #[.int .i64 27,.int .i64 a,.int .i64 b] w λe w'=>e=.returned (.int .i64 (AlY (a==b)))/\Below w.heap.size w w':=by
 cases hab:(a==b)
 all_goals
  go_enter Tryz.func174,Tryz.ntmps174
  go_wp2_with (go_at_call 173; refine (AaB _ _).mono ?_; rintro e w' ⟨rfl,rfl⟩)
  all_goals first|go_wall|(go_ret; refine⟨by first|rfl|simp,?_⟩; go_grown)
theorem Bi9 (a b:Int) (w:World):Calls Tryz.prog 174 #[.int .i64 28,.int .i64 a,.int .i64 b] w λe w'=>e=.returned (.int .i64 (AlY (!(a==b))))/\Below w.heap.size w w':=by
 cases hab:(a==b)
 all_goals
  go_enter Tryz.func174,Tryz.ntmps174
  go_wp2_with (go_at_call 173; refine (AaB _ _).mono ?_; rintro e w' ⟨rfl,rfl⟩)
  all_goals first|go_wall|(go_ret; refine⟨by first|rfl|simp,?_⟩; go_grown)
theorem Be1 {op a b r:Int} (h:heldI op a b=some r) (w:World):Calls Tryz.prog 174 #[.int .i64 op,.int .i64 a,.int .i64 b] w λe w'=>e=.returned (.int .i64 r)/\Below w.heap.size w w':=by
 unfold heldI at h
 split at h
 ·rename_i e; subst e; cases h; exact BiA a b w
 split at h
 ·rename_i e; subst e; cases h; exact BiB a b w
 split at h
 ·rename_i e; subst e; cases h; exact BiC a b w
 split at h
 ·rename_i e; subst e; cases h; exact BiD a b w
 split at h
 ·rename_i e; subst e; cases h; exact Bi8 a b w
 split at h
 ·rename_i e; subst e; cases h; exact Bi9 a b w
 cases h
def heldCall:Call:=λ_ args lh=>match args with
 | [.d (.int .i64 op),.d (.int .i64 a),.d (.int .i64 b)]=>(heldI op a b).map λr=>.ret (.d (.int .i64 r)) lh
 |_=>none
theorem held_ok [cM] {args:List C} {lh:List (List C)} {r:aE} (h:heldCall 174 args lh=some r):CallOK Tryz.prog 174 args lh r:=by
 unfold heldCall at h
 split at h
 ·rename_i op a b
  obtain⟨q,hq,rfl⟩:=Option.map_eq_some_iff.1 h
  refine At9 λK μ w vs hr hbd hgl=>?_
  cases hr with
  |cons h1 hn=>cases hn with
   |cons h2 hn=>cases hn with
    |cons h3 hn=>
     cases hn
     simp only[RepC,Rep] at h1 h2 h3; subst h1 h2 h3
     refine (Be1 hq w).mono ?_
     rintro e w' ⟨rfl,hb⟩
     exact⟨⟨_,rfl,rfl⟩,hb⟩
 simp at h
end Go.AM.Run
namespace Go.AM
open Go
section
variable {X:Ctx} {f:Nat} {Q:AX->St->Prop} {tm tm':List (Nat×V)} {hp hp':List (Nat×List C)} {nid nid':Nat} {df:List (Nat×List Nat)} {pn:Option D}
def mkarr {α:Type} (n:Int) (z:α):Option (List α):=if 0<=n/\n<=4294967296 then some (List.replicate n.toNat z) else none
def aidx (m:Int) (n:Nat):Option Nat:=if 0<=m/\m.toNat<n then some m.toNat else none
def pV {α:Type} (xs:List α) (j:Nat):Option α:=xs[j]?
def aset {α:Type} (xs:List α) (j:Nat) (v:α):Option (List α):=if j<xs.length then some (xs.set j v) else none
def afrz {α:Type} (n:Nat) (xs:List α):Option (List α):=if xs.length=n then some xs else none
def BaV {α:Type} (g:α->D) (sz:Nat):Prop:=∀x,(g x).cells.length=sz/\mkE (g x).cells=g x/\(g x).cells.all AtX=true
theorem AlA {α:Type} (g:α->D) (z:α) {xs:List α} {n:Int} {o:Oper} {t e:TypeId} {l c:Operand} {k k':IntKind} {sz:Nat} (hy:mkarr n z=some xs) (ho:o.op=.makeSlice t l c) (hs:qJ l c=true) (ht:mN X.P t=some e)
  (hl:ev tm l=some (.c (.d (.int k n)))) (hc:ev tm c=some (.c (.d (.int k' n)))) (hz:((AcD X.P e).map (An7 X.P e)).bind V.toD=some (g z)) (hk:tsz X.P e=some sz) (hb:Nat.ble (X.P.bytesOf e) 1024=true) (hzl:(g z).cells.length=sz) (h0:Nat.ble 1 sz=true) (hnv:noView nid tm=true) (hn:nid+1=nid') :
  EvO X o ⟨tm,hp,nid,df,pn⟩ (.c (.arr nid n.toNat sz)) ⟨tm,(nid,[.seq sz (xs.map g)])::hp,nid',df,pn⟩ eM.none:=by
 unfold mkarr at hy
 split at hy
 ·rename_i hc0
  simp only[sJ] at hy; subst hy; subst hn
  have hb':=Nat.le_of_ble_eq_true hb
  have h0':0<sz:=Nat.le_of_ble_eq_true h0
  exact .of λcall=>by simp[cP,ho,evR,ht,hl,hc,hz,hk,hc0,hb',hzl,h0',hs,hnv]
 simp at hy
def mkcap (m:Int):Option Unit:=if 0<=m/\m<=4294967296 then some () else none
theorem Bi5 {α:Type} (g:α->D) {zd:D} {y:Unit} {m:Int} {o:Oper} {t e:TypeId} {l c:Operand} {k k':IntKind} {sz:Nat} (hy:mkcap m=some y) (ho:o.op=.makeSlice t l c) (hs:qJ l c=false) (ht:mN X.P t=some e)
  (hl:ev tm l=some (.c (.d (.int k 0)))) (hc:ev tm c=some (.c (.d (.int k' m)))) (hz:((AcD X.P e).map (An7 X.P e)).bind V.toD=some zd) (hk:tsz X.P e=some sz) (hb:Nat.ble (X.P.bytesOf e) 1024=true) (hzl:zd.cells.length=sz) (h0:Nat.ble 1 sz=true) :
  EvO X o ⟨tm,hp,nid,df,pn⟩ (.c (.own sz (([]:List α).map g))) ⟨tm,hp,nid,df,pn⟩ eM.none:=by
 unfold mkcap at hy
 split at hy
 ·rename_i hc0
  have hb':=Nat.le_of_ble_eq_true hb
  have h0':0<sz:=Nat.le_of_ble_eq_true h0
  exact .of λcall=>by simp[cP,ho,evR,ht,hl,hc,hz,hk,hc0,hb',hzl,h0',hs,cL,eM.none]
 simp at hy
theorem pdm {α:Type} (g:α->D) (z:α) {xs:List α} {n:Int} {ops:Array Oper} {vs:List Nat} {base i i':Nat} {pre pre':List Fp} {o:Oper} {t e:TypeId} {l c:Operand} {r:List Oper} {k k':IntKind} {sz:Nat} (hy:mkarr n z=some xs)
  (ho:o.op=.makeSlice t l c) (hs:qJ l c=true) (ht:mN X.P t=some e) (hl:ev tm l=some (.c (.d (.int k n)))) (hc:ev tm c=some (.c (.d (.int k' n)))) (hz:((AcD X.P e).map (An7 X.P e)).bind V.toD=some (g z)) (hk:tsz X.P e=some sz)
  (hb:Nat.ble (X.P.bytesOf e) 1024=true) (hzl:(g z).cells.length=sz) (h0:Nat.ble 1 sz=true) (hw:wantedAt ops tm o=some true) (hno:look (base+i) hp=none)
  (hput:(uY o.dst (.c (.arr (base+i) n.toNat sz)) ⟨tm,(base+i,[.seq sz (xs.map g)])::hp,nid,df,pn⟩).bind (λs2=>qN s2.tmps λtm=>tH s2.heap λhp=>some (tm,hp))=some (tm',hp'))
  (hf:fpK (Fp.fill ⟨(eO ops o).map .tmp,kC o.dst (.c (.arr (base+i) n.toNat sz))++[.blk (base+i)],[],false⟩ ⟨tm',hp',nid,df,pn⟩) (λfp=>qN (pre++[fp]) some)=some pre') (hi:i+1=i')
  (h:nK X ops vs base pre' r i' Q ⟨tm',hp',nid,df,pn⟩):nK X ops vs base pre (o::r) i Q ⟨tm,hp,nid,df,pn⟩:=by
 rw[Ap5,iI,sJ] at hf
 subst hi hf
 rw[Option.bind_eq_some_iff] at hput
 obtain⟨s2,h2,hput⟩:=hput
 rw[iI,pC] at hput
 simp only[sJ,pJ] at hput
 have hs2:=Aa9 h2
 obtain⟨rfl,rfl⟩:=hput
 rw[←hs2] at h
 unfold mkarr at hy
 split at hy
 ·rename_i hc0
  simp only[sJ] at hy; subst hy
  have hb':=Nat.le_of_ble_eq_true hb
  have h0':0<sz:=Nat.le_of_ble_eq_true h0
  have hev:evR X.P (base+i) o tm hp=some (.c (.arr (base+i) n.toNat sz),some [.seq sz (List.replicate n.toNat (g z))]):=by
   simp[evR,ho,ht,hl,hc,hz,hk,hc0,hb',hzl,h0',hs]
  have hmk:aP o=true:=by simp[aP,ho,hs]
  refine At5 (s:=⟨tm,hp,nid,df,pn⟩) (v:=.c (.arr (base+i) n.toNat sz)) (s1:=⟨tm,(base+i,[.seq sz ((List.replicate n.toNat z).map g)])::hp,nid,df,pn⟩) (s2:=s2) hw (.of λkk=>?_) (by simpa[List.map_replicate] using h2) (by simpa[List.map_replicate,←hs2] using h)
  simp only[eD,hmk,if_true,zO,hev,hno]
  simp[C.plain,C.ids,List.map_replicate]
 simp at hy
def Ba9 {α:Type} (n:Nat) (ds ys:List α):Option (List α):=if ds.length=n/\ys.length<=n then some (ys++ds.drop ys.length) else none
theorem AxX {α:Type} {k:Nat} {v:α}:∀{l:List (Nat×α)},look k l=some v->upd k v l=l
 | [],h=>by simp[look] at h
 |(j,u)::r,h=>by
  unfold look at h
  unfold upd
  split at h
  ·rename_i hj
   simp only[sJ] at h
   subst h
   rw[if_pos hj,hj]
  rename_i hj
  rw[if_neg hj,AxX h]
theorem Bh3 {α:Type} (g:α->D) {ds ys zs:List α} {o:Oper} {c:Go.Call} {t u e:TypeId} {x y:Operand} {b n sz:Nat} {zv:V} (hy:Ba9 n ds ys=some zs) (ho:o.op=.call c) (hc:c.callee=.builtin .copy) (ha:c.args.toList=[x,y])
  (hat:c.argTypes.toList=[t,u]) (ht:mN X.P t=some e) (hn:tsz X.P e=some sz) (hx:ev tm x=some (.c (.arr b n sz))) (hz:evT X.P u tm y=some zv) (hzz:appended zv=some (sz,ys.map g)) (hb:look b hp=some [.seq sz (ds.map g)]) :
  EvO X o ⟨tm,hp,nid,df,pn⟩ (.c (.d (.int .i64 (ys.length:Nat)))) ⟨tm,upd b [.seq sz (zs.map g)] hp,nid,df,pn⟩ eM.none:=by
 unfold Ba9 at hy
 split at hy
 ·rename_i hc0
  obtain⟨rfl,hle⟩:=hc0
  simp only[sJ] at hy; subst hy
  refine .of λcall=>?_
  cases ys with
  |nil=>
   simp only[List.nil_append,List.length_nil,List.drop_zero,AxX hb]
   simp[cP,ho,hc,ha,hat,Al7,ht,hx,hz,hzz,hn]
  |cons y0 ys=>
   simp only[List.length_cons] at hle
   simp[cP,ho,hc,ha,hat,Al7,ht,hx,hz,hzz,hn,hb,hle,List.map_drop]
 simp at hy
theorem AcK {o:Oper} {t e:TypeId} {x i:Operand} {b n sz j:Nat} {k:IntKind} {m:Int} (hy:aidx m n=some j) (ho:o.op=.indexAddr t x i) (ht:mN X.P t=some e) (hz:some sz=tsz X.P e) (hx:ev tm x=some (.c (.arr b n sz))) (hi:ev tm i=some (.c (.d (.int k m)))) :
  EvO X o ⟨tm,hp,nid,df,pn⟩ (.c (.ptr b (j*sz))) ⟨tm,hp,nid,df,pn⟩ ⟨cL o tm,[],[]⟩:=by
 unfold aidx at hy
 split at hy
 ·rename_i hc
  simp only[sJ] at hy; subst hy
  exact .of λcall=>by simp only[cP,ho,evR,ht,hx,hi,hz,hc,and_self,if_true]
 simp at hy
theorem Aw7 {α:Type} {g:α->D} {sz:Nat} (hg:BaV g sz) {xs:List α} {j:Nat} {y:α} (hy:xs[j]?=some y):((fB (xs.map g)).drop (j*sz)).take sz=(g y).cells.map C.d:=by
 induction xs generalizing j with
 |nil=>simp at hy
 |cons x xs ih=>
  rw[List.map_cons,AaS]
  cases j with
  |zero=>
   simp only[List.getElem?_cons_zero,sJ] at hy; subst hy
   rw[Nat.zero_mul,List.drop_zero,List.take_append_of_le_length (by simp[(hg x).1]),List.take_of_length_le (by simp[(hg x).1])]
  |succ j=>
   rw[List.drop_append,List.drop_eq_nil_of_le (by simp[(hg x).1,Nat.succ_mul]),List.nil_append]
   have e:(j+1)*sz-((g x).cells.map C.d).length=j*sz:=by simp[(hg x).1,Nat.succ_mul]
   rw[e]
   exact ih (by simpa using hy)
theorem BdV {α:Type} {g:α->D} {sz:Nat} (hg:BaV g sz) (xs:List α):(fB (xs.map g)).length=xs.length*sz:=by
 rw[Ah8 (sz:=sz),List.length_map]
 intro d hd
 simp only[List.mem_map] at hd
 obtain⟨x,_,rfl⟩:=hd
 exact (hg x).1
theorem As8 {b sz:Nat} {ds:List D} (hb:look b hp=some [.seq sz ds]):xC b hp=some (fB ds):=by simp only[xC,hb,mapOf]
theorem AqJ {α:Type} (g:α->D) {xs:List α} {y:α} {o:Oper} {t:TypeId} {a:Operand} {b j:Nat} (hy:pV xs j=some y) (ho:o.op=.load t a) (ht:AhN X.P t=some false) (hg:BaV g 1) (hx:ev tm a=some (.c (.ptr b (j*1)))) (hb:look b hp=some [.seq 1 (xs.map g)]) :
  EvO X o ⟨tm,hp,nid,df,pn⟩ (.d (g y)) ⟨tm,hp,nid,df,pn⟩ ⟨cL o tm,[],[]⟩:=by
 have h1:=Aw7 hg hy
 have hc:∃d,(g y).cells=[d]:=by
  have:=(hg y).1
  match h:(g y).cells with
  | [d]=>exact⟨d,rfl⟩
  | []=>simp[h] at this
  |_::_::_=>simp[h] at this
 obtain⟨d,hd⟩:=hc
 have hgd:g y=d:=by have:=(hg y).2.1; rw[hd] at this; exact this.symm
 rw[hd] at h1
 have h2:(fB (xs.map g))[j*1]?=some (.d d):=by
  have:=congrArg (λl=>l[0]?) h1
  simpa using this
 rw[hgd]
 exact .of λcall=>by simp only[cP,ho,evR,hx,As8 hb,ht,h2]
theorem Ao1:∀(n:Nat) {l:List C},(∀c∈l,∃d,c=.d d)->AaE n l=false
 |0,_,_=>rfl
 |n+1,[],_=>rfl
 |n+1,c::r,h=>by
  obtain⟨d,rfl⟩:=h c (by simp)
  simp only[AaE]
  exact Ao1 n λc hc=>h c (by simp[hc])
theorem AjH (n k:Nat) (ds:List D):AaE n ((fB ds).drop k)=false:=Ao1 n λc hc=>by
 have hc:=List.mem_of_mem_drop hc
 simp only[fB,List.mem_flatMap,List.mem_map] at hc
 obtain⟨_,_,x,_,rfl⟩:=hc
 exact⟨x,rfl⟩
theorem BjF {α:Type} (g:α->D) {xs:List α} {y:α} {o:Oper} {t:TypeId} {a:Operand} {b j sz:Nat} (hy:pV xs j=some y) (ho:o.op=.load t a) (ht:AhN X.P t=some true) (hn:tsz X.P t=some sz) (hg:BaV g sz) (ha:∀x,g x=.agg (g x).cells) (hx:ev tm a=some (.c (.ptr b (j*sz)))) (hb:look b hp=some [.seq sz (xs.map g)]) :
  EvO X o ⟨tm,hp,nid,df,pn⟩ (.d (g y)) ⟨tm,hp,nid,df,pn⟩ ⟨cL o tm,[],[]⟩:=by
 have h1:=Aw7 hg hy
 have hj:j<xs.length:=(List.getElem?_eq_some_iff.1 hy).1
 have hle:j*sz+sz<=(fB (xs.map g)).length:=by
  rw[BdV hg,←Nat.succ_mul]
  exact Nat.mul_le_mul_right _ hj
 have hm:((g y).cells.map C.d).map C.plain=(g y).cells.map C.d:=by simp[List.map_map,Function.comp_def,C.plain]
 have hal:∀ds:List D,AiK (ds.map C.d)=some ds:=by
  intro ds
  induction ds with
  |nil=>rfl
  |cons d ds ih=>simp only[List.map_cons,AiK,C.toD,ih]
 rw[ha y]
 exact .of λcall=>by simp only[cP,ho,evR,hx,As8 hb,ht,hn,hle,if_true,AjH,h1,hm,AnZ,hal]
theorem Bb9 (d:D):V.cells (.c (.d d))=some (d.cells.map C.d):=by cases d<;>rfl
theorem AvL:∀ds:List D,AyE (ds.map C.d)=some ds
 | []=>rfl
 |d::ds=>by simp only[List.map_cons,AyE,AvL ds,Option.map_some]
theorem Az7 {α:Type} {g:α->D} {sz:Nat} (hg:BaV g sz) (h0:0<sz) {xs ys:List α} {j:Nat} {v:α} (hy:aset xs j v=some ys):AlV sz (j*sz) (xs.map g) ((g v).cells.map C.d)=some (ys.map g):=by
 unfold aset at hy
 split at hy
 ·rename_i hj
  simp only[sJ] at hy; subst hy
  unfold AlV
  rw[AvL,Nat.mul_div_cancel _ h0,List.getElem?_map,List.getElem?_eq_getElem hj]
  simp only[Option.map_some,Nat.mul_mod_left,Nat.zero_add,(hg v).1,Nat.le_refl,(hg v).2.2,h0,and_self,if_true,(hg v).2.1,List.map_set]
 simp at hy
theorem est {α:Type} (g:α->D) {xs ys:List α} {v:α} {o:Oper} {t:TypeId} {a x:Operand} {b j sz:Nat} (hy:aset xs j v=some ys) (ho:o.op=.store t a x) (hn:tsz X.P t=some sz) (hg:BaV g sz) (h0:Nat.ble 1 sz=true) (ha:ev tm a=some (.c (.ptr b (j*sz)))) (hx:evT X.P t tm x=some (.c (.d (g v)))) (hb:look b hp=some [.seq sz (xs.map g)]) :
  EvO X o ⟨tm,hp,nid,df,pn⟩ (.c .undef) ⟨tm,upd b [.seq sz (ys.map g)] hp,nid,df,pn⟩ ⟨[],[b],[]⟩:=by
 have h0':0<sz:=Nat.le_of_ble_eq_true h0
 have hcn:=Bb9 (g v)
 have hany:((g v).cells.map C.d).any C.isNilsl=false:=by
  rw[List.any_eq_false]
  intro c hc
  simp only[List.mem_map] at hc
  obtain⟨d,_,rfl⟩:=hc
  simp[C.isNilsl]
 have hpl:((g v).cells.map C.d).map C.plain=(g v).cells.map C.d:=by simp[List.map_map,Function.comp_def,C.plain]
 have hst:storeCells hp b (j*sz) ((g v).cells.map C.d)=some (upd b [.seq sz (ys.map g)] hp):=by
  simp only[storeCells,hb,Az7 hg h0' hy,Option.map_some]
 have hlen:tsz X.P t=some ((g v).cells.map C.d).length:=by rw[List.length_map,(hg v).1]; exact hn
 exact .of λcall=>by simp only[cP,ho,ha,hx,hcn,hlen,if_true,hany,fJ,if_false,hpl,hst]
theorem Ai4 {k:Nat} {ks:List Nat} {s s1 s2:St} (hk:Nat.ble 7000000 k=true) (h:AkA k s=some s1) (h2:frz ks s1=some s2):frz (k::ks) s=some s2:=by
 simp only[frz,hk,h,h2]
theorem AfV {α:Type} (g:α->D) {xs ys:List α} {b n sz:Nat} (hy:afrz n xs=some ys) (hb:look b hp=some [.seq sz (xs.map g)]):Ak9 hp (.arr b n sz)=some (.d (.list sz (ys.map g))):=by
 unfold afrz at hy
 split at hy
 ·rename_i hc
  simp only[sJ] at hy; subst hy
  simp only[Ak9,hb,List.length_map,hc,and_self,if_true]
 simp at hy
theorem AuY {α:Type} (xs:List α):afrz xs.length xs=some xs:=by simp[afrz]
theorem AtS {c c':C} (h:Ak9 hp c=some c'):AhM hp (.c c)=some (.c c'):=by simp only[AhM,h,Option.map_some]
theorem gT {k t b:Nat} {bs:List Nat} {V0 V':V} (hk:AkA k ⟨tm,hp,nid,df,pn⟩=BdX t ⟨tm,hp,nid,df,pn⟩) (ht:look t tm=some V0) (ha:V0.arrs=b::bs) (hv:AhM hp V0=some V') (h1:(t,V')::tm=tm') (h2:without (b::bs) hp=hp') :
  AkA k ⟨tm,hp,nid,df,pn⟩=some ⟨tm',hp',nid,df,pn⟩:=by
 subst h1; subst h2
 rw[hk]
 simp only[BdX,ht,ha,hv]
theorem iJ {α:Type} (g:α->D) {xs ys:List α} {b0 off b n sz:Nat} {hp1:List (Nat×List C)} (hc:cellOf b0 off ⟨tm,hp,nid,df,pn⟩=some (.arr b n sz)) (hy:afrz n xs=some ys) (hb:look b hp=some [.seq sz (xs.map g)])
  (h1:without [b] hp=hp1) (h2:cellTo b0 off (.d (.list sz (ys.map g))) ⟨tm,hp1,nid,df,pn⟩=⟨tm,hp',nid,df,pn⟩):AbS b0 off ⟨tm,hp,nid,df,pn⟩=some ⟨tm,hp',nid,df,pn⟩:=by
 subst h1
 simp only[AbS,hc,AfV g hy hb,h2]
theorem gC {k b0 off:Nat} {s s':St} (hk:AkA k s=AbS b0 off s) (h:AbS b0 off s=some s'):AkA k s=some s':=by rw[hk,h]
theorem AbR {b off:Nat} {s:St}:tR b off 0 s=some s:=rfl
theorem lQ {b off n:Nat} {s s1 s2:St} (h:AbS b (off+n) s=some s1) (h2:tR b off n s1=some s2):tR b off (n+1) s=some s2:=by simp only[tR,h,h2]
theorem AfR {P:Program} {s:St}:endFrz P [] s=some s:=rfl
theorem AoM {P:Program} {t:Nat} {r:List ResultVar} {s s1:St} (h:endFrz P r s=some s1):endFrz P (.tmp t::r) s=some s1:=h
theorem AbP {P:Program} {a t b off n:Nat} {r:List ResultVar} {s s1 s2:St} (ha:look a s.tmps=some (.c (.ptr b off))) (ht:AhN P t=some true) (hn:tsz P t=some n) (h:tR b off n s=some s1) (h2:endFrz P r s1=some s2) :
 endFrz P (.cell a t::r) s=some s2:=by simp only[endFrz,ha,ht,hn,h,h2]
def BfU (P:Program) (fn:Func) (n:Nat) (s:St):Option aE:=match BgQ P s fn.results.toList with
 |some v=>match AeB s.heap n v.ids with
  |some (ids,lh')=>match v.into ids with
   |some v'=>some (.ret v' lh')
   |none=>none
  |none=>none
 |none=>none
theorem wZ.retF {fn:Func} {n:Nat} {r:aE} {s s1:St} {rs:List ResultVar} (hd:s.defers=[]) (hr:fn.results.toList=rs) (h1:endFrz X.P rs s=some s1) (h:BfU X.P fn n s1=some r):wZ X fn n r .ret s:=
 .ret hd (by subst hr; unfold tI; rw[h1]; exact h)
structure Av7 (X:Ctx) (ops:Array Oper) (l:List Oper) (Q:AX->St->Prop) (s:St):Prop where
 ex:∃x s',(Evt λk=>AaR X.P (X.raw k) ops l s=some (x,s'))/\Q x s'
theorem rnM {id:Nat} {ops:Array Oper} {tm0:List (Nat×V)} {hp0:List (Nat×List C)} {nid0:Nat} (hz:frz (X.H f id) ⟨tm,hp,nid,df,pn⟩=some ⟨tm0,hp0,nid0,df,pn⟩) (hM:isM (X.H f id)=true) (hk:AbT (X.H f id) tm0 some=some tm')
  (h:Av7 X ops ops.toList Q ⟨tm',hp0,nid0,df,pn⟩):awp X f (.region id ops false) Q ⟨tm,hp,nid,df,pn⟩:=by
 rw[tS,sJ] at hk
 subst hk
 obtain⟨x,s',h1,h2⟩:=h
 refine⟨x,s',h1.imp λk p=>?_,h2⟩
 simp only[iG,hz,hM,fJ,if_false,p]
theorem mz {s:St} {ops:Array Oper} (h:Q .normal s):Av7 X ops [] Q s:=⟨_,_,.of λ_=>rfl,h⟩
theorem mo {s s1:St} {ops:Array Oper} {o:Oper} {l:List Oper} {v:V} {ft:eM} (hop:EvO X o s v s1 ft) (hw:wantedAt ops s.tmps o=some true) (hs:∀call,spec X.P call o s=none) {s2:St} (h2:putDst o v s1=s2) (h:Av7 X ops l Q s2):Av7 X ops (o::l) Q s:=by
 subst h2
 obtain⟨x,s',h1,h2⟩:=h
 refine⟨x,s',(hop.and h1).imp λk p=>?_,h2⟩
 obtain⟨p,q⟩:=p
 simp only[AaR,hw,hs]
 rw[show cP X.P (AbF (X.raw k)) s.nid o s=_ from p]
 exact q
theorem ms {s s1:St} {ops:Array Oper} {o:Oper} {l:List Oper} {v:V} (hop:zM X.P o s=some (v,s1)) (hw:wantedAt ops s.tmps o=some true) {s2:St} (h2:putDst o v s1=s2) (h:Av7 X ops l Q s2):Av7 X ops (o::l) Q s:=by
 subst h2
 obtain⟨x,s',h1,h2⟩:=h
 refine⟨x,s',h1.imp λk p=>?_,h2⟩
 simp only[AaR,hw,spec,hop,p]
theorem mv {ops:Array Oper} {o:Oper} {l:List Oper} {c:Go.Call} {fo:Operand} {g nid':Nat} {ids:List Nat} {args args':List C} {lh lh' lh'':List (List C)} {v v':V} (hv:AzN X g args' lh (.ret v lh')) (ho:o.op=.call c) (hc:c.callee=.value fo)
  (hf:ev tm fo=some (.c (.fn g []))) (ha:oA X.P tm c.args.toList c.argTypes.toList=some args) (hr:qX hp 64 (args.flatMap C.ids) []=some ids) (hi:aY (C.into ids) args=some args') (hb:oB hp ids=some lh)
  (hk:aY (aY (C.back (ids++bC nid (lh'.length-ids.length)))) lh'=some lh'') (hv':V.back (ids++bC nid (lh'.length-ids.length)) v=some v') (hw:wantedAt ops tm o=some true) (hn:nid+(lh'.length-ids.length)=nid')
  {s2:St} (h2:putDst o v' ⟨unviewIn (ids++bC nid (lh'.length-ids.length)) tm,dI (ids++bC nid (lh'.length-ids.length)) lh'' hp,nid',df,pn⟩=s2) (h:Av7 X ops l Q s2):Av7 X ops (o::l) Q ⟨tm,hp,nid,df,pn⟩:=by
 subst h2 hn
 obtain⟨x,s',h1,h2⟩:=h
 refine⟨x,s',(hv.and h1).imp λk q=>?_,h2⟩
 obtain⟨p,q⟩:=q
 have hs:zM X.P o ⟨tm,hp,nid,df,pn⟩=none:=by simp only[zM,ho,hc]
 simp only[AaR,hw,spec,hs,ho,hc,hf,ha,lY,hr,hi,hb,p,hk,hv']
 exact q
theorem BjX {fn:Func} {n:Nat} {r:aE} {s:St} (hd:s.defers=[]) (h:Ah3 X.P fn n s=some r):Ay6 X fn n r .ret s:=⟨.inr rfl,hd,h⟩
theorem BeN {α:Type} (g:α->D) {xs ys zs:List α} {o:Oper} {c:Go.Call} {t u e:TypeId} {x y:Operand} {X0 Y0:V} {bs:List Nat} {sz:Nat} {hp1:List (Nat×List C)} (hy:lapp xs ys=some zs) (ho:o.op=.call c) (hc:c.callee=.builtin .append) (ha:c.args.toList=[x,y]) (hat:c.argTypes.toList=[t,u])
  (ht:mN X.P t=some e) (hx:evT X.P t tm x=some X0) (hX:wY hp X0=some (bs,sz,xs.map g)) (hv:evT X.P u tm y=some Y0) (hV:appended Y0=some (sz,ys.map g)) (hn:tsz X.P e=some sz) (hu:gQ X.P u=true) (h0:Nat.ble 1 sz=true)
  (hb:Nat.ble (X.P.bytesOf e) 1024=true) (hz:kU X.P e sz=true) (hnv:noView nid tm=true) (h1:without bs hp=hp1) :
  zM X.P o ⟨tm,hp,nid,df,pn⟩=some (.c (.arr nid zs.length sz),⟨tm,(nid,[.seq sz (zs.map g)])::hp1,nid+1,df,pn⟩):=by
 unfold lapp at hy
 split at hy
 ·rename_i hl
  simp only[sJ] at hy; subst hy; subst h1
  have h0':0<sz:=Nat.le_of_ble_eq_true h0
  have hb':=Nat.le_of_ble_eq_true hb
  simp only[zM,ho,hc,ha,hat,ht,hx,hv,hV,hX,bJ,hn,hu,h0',hb',hz,hnv,List.length_map,hl,and_self,if_true,List.length_append,List.map_append]
 simp at hy
def BfL {α:Type} (n:Nat) (xs ys:List α):Option (List α):=afrz n xs>>=λzs=>lapp zs ys
theorem AuX {α:Type} {n:Nat} {xs ys zs:List α} (h:BfL n xs ys=some zs):∃l,afrz n xs=some l/\lapp l ys=some zs:=by
 unfold BfL at h
 cases h1:afrz n xs with
 |none=>rw[h1] at h; simp at h
 |some l=>rw[h1] at h; exact⟨l,rfl,h⟩
theorem pda {α:Type} (g:α->D) {xs ys zs:List α} {ops:Array Oper} {vs:List Nat} {base i i':Nat} {pre pre':List Fp} {o:Oper} {r:List Oper} {c:Go.Call} {t u e:TypeId} {x y:Operand} {Y0:V} {b n sz nid1:Nat} {hp1:List (Nat×List C)}
  (hy:lapp xs ys=some zs) (hX:wY hp (.c (.arr b n sz))=some ([b],sz,xs.map g)) (ho:o.op=.call c) (hc:c.callee=.builtin .append) (ha:c.args.toList=[x,y]) (hat:c.argTypes.toList=[t,u])
  (ht:mN X.P t=some e) (hx:evT X.P t tm x=some (.c (.arr b n sz))) (hv:evT X.P u tm y=some Y0) (hV:appended Y0=some (sz,ys.map g)) (hn:tsz X.P e=some sz) (hu:gQ X.P u=true) (h0:Nat.ble 1 sz=true)
  (hb:Nat.ble (X.P.bytesOf e) 1024=true) (hz:kU X.P e sz=true) (hnv:noView nid tm=true) (h1:without [b] hp=hp1) (hw:wantedAt ops tm o=some true) (hnid:nid+1=nid1)
  (hput:(uY o.dst (.c (.arr nid zs.length sz)) ⟨tm,(nid,[.seq sz (zs.map g)])::hp1,nid1,df,pn⟩).bind (λs2=>qN s2.tmps λtm=>tH s2.heap λhp=>some (tm,hp))=some (tm',hp'))
  (hf:fpK (Fp.fill (xV X.P ops o ⟨tm,hp,nid,df,pn⟩ (.c (.arr nid zs.length sz))) ⟨tm',hp',nid1,df,pn⟩) (λfp=>qN (pre++[fp]) some)=some pre') (hi:i+1=i')
  (h:nK X ops vs base pre' r i' Q ⟨tm',hp',nid1,df,pn⟩):nK X ops vs base pre (o::r) i Q ⟨tm,hp,nid,df,pn⟩:=by
 rw[Ap5,iI,sJ] at hf
 subst hi hf hnid
 rw[Option.bind_eq_some_iff] at hput
 obtain⟨s2,h2,hput⟩:=hput
 rw[iI,pC] at hput
 simp only[sJ,pJ] at hput
 have hs2:=Aa9 h2
 obtain⟨rfl,rfl⟩:=hput
 rw[←hs2] at h
 have hsp:=BeN (X:=X) (df:=df) (pn:=pn) (o:=o) g hy ho hc ha hat ht hx hX hv hV hn hu h0 hb hz hnv h1
 have:AcC X.P o ⟨tm,hp,nid,df,pn⟩=some (.c (.arr nid zs.length sz),⟨tm,(nid,[.seq sz (zs.map g)])::hp1,nid+1,df,pn⟩):=by
  rw[←hsp]
  simp only[AcC,ho,hc,ha,hat,hx]
 exact BcY (s:=⟨tm,hp,nid,df,pn⟩) hw this h2 h
theorem Ar3 {α:Type} (g:α->D) {xs:List α} {b sz:Nat} (hb:look b hp=some [.seq sz (xs.map g)]):wY hp (.c (.arr b xs.length sz))=some ([b],sz,xs.map g):=by
 simp only[wY,hb,List.length_map,and_self,if_true]
theorem At4 {α:Type} (g:α->D) {xs ys:List α} {b n sz:Nat} (hy:afrz n xs=some ys) (hb:look b hp=some [.seq sz (xs.map g)]):wY hp (.c (.arr b n sz))=some ([b],sz,ys.map g):=by
 unfold afrz at hy
 split at hy
 ·rename_i hc
  simp only[sJ] at hy; subst hy
  simp only[wY,hb,List.length_map,hc,and_self,if_true]
 simp at hy
theorem Bb2 {α:Type} (g:α->D) {sz:Nat}:wY hp (.c (.nilsl sz))=some ([],sz,([]:List α).map g):=rfl
theorem Ao4 {α:Type} (g:α->D) {sz:Nat}:wY hp (.c (.full sz []))=some ([],sz,([]:List α).map g):=rfl
end
end Go.AM
namespace Go.AM
open Go
inductive BmE (Q:AX->St->Prop):AX->St->Prop where
 |mk {s:St}:Q .normal s->BmE Q .normal s
section
variable {X:Ctx} {f:Nat} {Q:AX->St->Prop} {tm tm':List (Nat×V)} {hp hp':List (Nat×List C)} {nid nid':Nat} {df:List (Nat×List Nat)} {pn:Option D}
end
end Go.AM
namespace Go.AM
open Go
def AfZ (P:Program) (o:Oper) (tm:List (Nat×V)) (hp:List (Nat×List C)):Bool:=
 match o.guard with
 |some _=>false
 |none=>match o.op with
  |.index _ _ _|.slice _ _ _ _ _|.indexAddr _ _ _|.makeSlice _ _ _|.lookup _ _ _ _|.insert _ _ _ _|.mapUpdate _ _ _ _|.makeMap _ _|.defer _|.panic _=>false
  |.convert src dst _=>match P.underlying src,P.underlying dst with
   |some (.int _),_=>true
   |some .string,some .string=>true
   |_,_=>false
  |.binOp op t _ y _=>match op with
   |.quo|.rem=>match y with
    |.const (.int _ n)=>n != 0
    |_=>false
   |.add=>match P.underlying t with
    |some .string=>false
    |_=>true
   |.eql|.neq=>match P.underlying t with
    |some (.struct _)=>false
    |_=>true
   |_=>true
  |.load _ a|.store _ a _=>match ev tm a with
   |some (.c (.ptr b _))=>match look b hp with
    |some [.seq _ _]=>false
    |_=>true
   |_=>true
  |.buildSlice t _ _=>match mN P t with
   |some e=>match AhN P e with
    |some true=>false
    |_=>true
   |none=>true
  |.call c=>match c.callee with
   |.builtin .len=>match c.args.toList with
    | [x]=>match ev tm x with
     |some (.c (.d (.str _)))=>true
     |some (.c (.nilsl _))=>true
     |some (.c (.arr _ _ _))=>true
     |_=>false
    |_=>false
   |.builtin .min|.builtin .max=>true
   |_=>false
  |_=>true
def AnE {α:Type} (n:Nat) (k:Nat->α):α:=match n+1 with
 |0=>k n
 |m+1=>k m
theorem wG {α:Type} {n:Nat} {k:Nat->α}:AnE n k=k n:=rfl
def Bc4 {α:Type} (P:Program):List Oper->List (Nat×V)->List (Nat×List C)->Nat->List (Nat×List Nat)->Option D->(List Oper->List (Nat×V)->List (Nat×List C)->Nat->List (Nat×List Nat)->Option D->Option α)->Option α
 | [],tm,hp,nid,df,pn,k=>k [] tm hp nid df pn
 |o::l,tm,hp,nid,df,pn,k=>match AfZ P o tm hp with
  |false=>k (o::l) tm hp nid df pn
  |true=>match xZ o with
   |true=>none
   |false=>match cP P AcS nid o ⟨tm,hp,nid,df,pn⟩ with
    |some (.val v s',_)=>ApO o.dst v s'.tmps λtm=>tH s'.heap λhp=>match aP o with
     |true=>AnE (nid+1) λn=>Bc4 P l tm hp n df pn k
     |false=>Bc4 P l tm hp nid df pn k
    |_=>none
section
variable {X:Ctx} {f:Nat} {Q:AX->St->Prop} {tm tm':List (Nat×V)} {hp hp':List (Nat×List C)} {nid nid':Nat} {df df':List (Nat×List Nat)} {pn pn':Option D}
theorem AkI {P:Program} {ops:Array Oper} {o:Oper} (h:AfZ P o tm hp=true):wantedAt ops tm o=some true:=by
 unfold AfZ at h
 split at h
 ·simp at h
 rename_i hg
 simp only[wantedAt,hg]
theorem Ae8 {α:Type} {ops:Array Oper}:∀{l:List Oper} {tm:List (Nat×V)} {hp:List (Nat×List C)} {nid:Nat} {df:List (Nat×List Nat)} {pn:Option D} {k:List Oper->List (Nat×V)->List (Nat×List C)->Nat->List (Nat×List Nat)->Option D->Option α} {a:α},
  Bc4 X.P l tm hp nid df pn k=some a->∃l' tm' hp' nid' df' pn',k l' tm' hp' nid' df' pn'=some a/\(pB X ops l' Q ⟨tm',hp',nid',df',pn'⟩->pB X ops l Q ⟨tm,hp,nid,df,pn⟩)
 | [],tm,hp,nid,df,pn,k,a,h=>⟨[],tm,hp,nid,df,pn,h,λh=>h⟩
 |o::l,tm,hp,nid,df,pn,k,a,h=>by
  simp only[Bc4] at h
  split at h
  ·exact⟨o::l,tm,hp,nid,df,pn,h,λh=>h⟩
  rename_i hl
  have hw:=AkI (ops:=ops) hl
  split at h
  ·simp at h
  rename_i hd
  split at h
  ·rename_i v s' ft hev
   have hr:=AlC rfl (λ_=>rfl) hev hd
   rw[AkR,pC] at h
   cases hm:aP o with
   |true=>
    simp only[hm,wG] at h hr
    obtain⟨l',tm',hp',nid',df',pn',h1,h2⟩:=Ae8 h
    refine⟨l',tm',hp',nid',df',pn',h1,λhh=>AjK hw (λcall=>vE hev call) ?_⟩
    have:=h2 hh
    rw[putDst,uZ]
    rw[hr] at this ⊢
    exact this
   |false=>
    simp only[hm] at h hr
    obtain⟨l',tm',hp',nid',df',pn',h1,h2⟩:=Ae8 h
    refine⟨l',tm',hp',nid',df',pn',h1,λhh=>AjK hw (λcall=>vE hev call) ?_⟩
    have:=h2 hh
    rw[putDst,uZ]
    rw[hr] at this ⊢
    exact this
  simp at h
theorem onW {ops:Array Oper} {o:Oper} {l l':List Oper} (hl:AfZ X.P o tm hp=true) (h:Bc4 X.P (o::l) tm hp nid df pn AoZ=some (l',tm',hp',nid',df',pn')) (hh:pB X ops l' Q ⟨tm',hp',nid',df',pn'⟩):pB X ops (o::l) Q ⟨tm,hp,nid,df,pn⟩:=by
 obtain⟨_,_,_,_,_,_,h1,h2⟩:=Ae8 (Q:=Q) (ops:=ops) h
 simp only[AoZ,sJ,pJ] at h1
 obtain⟨rfl,rfl,rfl,rfl,rfl,rfl⟩:=h1
 exact h2 hh
theorem onF {ops:Array Oper} {o:Oper} {l l':List Oper} (hw:wantedAt ops tm o=some false) (h:AlS X.P ops 1 (o::l) tm hp nid df pn AoZ=some (l',tm',hp',nid',df',pn')) (hh:pB X ops l' Q ⟨tm',hp',nid',df',pn'⟩):pB X ops (o::l) Q ⟨tm,hp,nid,df,pn⟩:=on 1 h hh
theorem onT {ops:Array Oper} {o:Oper} {l l':List Oper} (hw:wantedAt ops tm o=some true) (hl:AfZ X.P { o with guard:=none } tm hp=true) (h:AlS X.P ops 1 (o::l) tm hp nid df pn AoZ=some (l',tm',hp',nid',df',pn')) (hh:pB X ops l' Q ⟨tm',hp',nid',df',pn'⟩):pB X ops (o::l) Q ⟨tm,hp,nid,df,pn⟩:=on 1 h hh
theorem rnW {id:Nat} {ops:Array Oper} {l':List Oper} (hz:noF (X.H f id)=true) (h:AbT (X.H f id) tm (λtm=>Bc4 X.P ops.toList tm hp nid df pn AoZ)=some (l',tm',hp',nid',df',pn')) (hh:pB X ops l' Q ⟨tm',hp',nid',df',pn'⟩) :
  awp X f (.region id ops false) Q ⟨tm,hp,nid,df,pn⟩:=by
 rw[tS] at h
 refine Ao5 hz ?_
 obtain⟨_,_,_,_,_,_,h1,h2⟩:=Ae8 (Q:=Q) (ops:=ops) h
 simp only[AoZ,sJ,pJ] at h1
 obtain⟨rfl,rfl,rfl,rfl,rfl,rfl⟩:=h1
 exact h2 hh
def ArD {α:Type} (P:Program) (ops:Array Oper) (vs:List Nat) (base:Nat) (nid:Nat) (df:List (Nat×List Nat)) (pn:Option D):List Oper->Nat->List Fp->List (Nat×V)->List (Nat×List C)->(List Oper->Nat->List Fp->List (Nat×V)->List (Nat×List C)->Option α)->Option α
 | [],i,pre,tm,hp,k=>qN pre λpre=>AnE i λi=>k [] i pre tm hp
 |o::l,i,pre,tm,hp,k=>match AfZ P o tm hp with
  |false=>qN pre λpre=>AnE i λi=>k (o::l) i pre tm hp
  |true=>match xZ o with
   |true=>none
   |false=>match eD P AcS ops vs (base+i) o ⟨tm,hp,nid,df,pn⟩ with
    |some (.val v s1,ft)=>match uY o.dst v s1 with
     |some s2=>qN s2.tmps λtm=>tH s2.heap λhp=>fpK (ft.fill ⟨tm,hp,nid,df,pn⟩) λfp=>ArD P ops vs base nid df pn l (i+1) (pre++[fp]) tm hp k
     |none=>none
    |_=>none
theorem AfC {α:Type} {ops:Array Oper} {vs:List Nat} {base:Nat}:∀{l:List Oper} {i:Nat} {pre:List Fp} {tm:List (Nat×V)} {hp:List (Nat×List C)} {k:List Oper->Nat->List Fp->List (Nat×V)->List (Nat×List C)->Option α} {a:α},
  ArD X.P ops vs base nid df pn l i pre tm hp k=some a->∃l' i' pre' tm' hp',k l' i' pre' tm' hp'=some a/\(nK X ops vs base pre' l' i' Q ⟨tm',hp',nid,df,pn⟩->nK X ops vs base pre l i Q ⟨tm,hp,nid,df,pn⟩)
 | [],i,pre,tm,hp,k,a,h=>by
  simp only[ArD,iI,wG] at h
  exact⟨[],i,pre,_,_,h,λh=>h⟩
 |o::l,i,pre,tm,hp,k,a,h=>by
  simp only[ArD,iI,pC,Ap5,wG] at h
  split at h
  ·exact⟨o::l,i,pre,tm,hp,h,λh=>h⟩
  rename_i hl
  have hw:=AkI (ops:=ops) hl
  split at h
  ·simp at h
  rename_i hd
  split at h
  ·rename_i v s1 ft hop
   have hr1:=AmC hop hd
   split at h
   ·rename_i s2 hp
    have hr:s2=⟨s2.tmps,s2.heap,nid,df,pn⟩:=by
     rw[hr1] at hp
     exact Aa9 hp
    obtain⟨l',i',pre',tm',hp',h1,h2⟩:=AfC h
    refine⟨l',i',pre',tm',hp',h1,λhh=>Av6 hw (λcall=>AhS hop call) hp ?_⟩
    have:=h2 hh
    rw[←hr] at this
    exact this
   simp at h
  simp at h
theorem BjT {ops:Array Oper} {vs:List Nat} {base i i':Nat} {pre pre':List Fp} {o:Oper} {l l':List Oper} (hl:AfZ X.P o tm hp=true) (h:ArD X.P ops vs base nid df pn (o::l) i pre tm hp AhR=some (l',i',pre',tm',hp'))
  (hh:nK X ops vs base pre' l' i' Q ⟨tm',hp',nid,df,pn⟩):nK X ops vs base pre (o::l) i Q ⟨tm,hp,nid,df,pn⟩:=by
 obtain⟨_,_,_,_,_,h1,h2⟩:=AfC (Q:=Q) h
 simp only[AhR,sJ,pJ] at h1
 obtain⟨rfl,rfl,rfl,rfl,rfl⟩:=h1
 exact h2 hh
theorem BjR {ops:Array Oper} {vs:List Nat} {base i i':Nat} {pre pre':List Fp} {o:Oper} {l l':List Oper} (hw:wantedAt ops tm o=some false) (h:AfA X.P ops vs base nid df pn 1 (o::l) i pre tm hp AhR=some (l',i',pre',tm',hp'))
 (hh:nK X ops vs base pre' l' i' Q ⟨tm',hp',nid,df,pn⟩):nK X ops vs base pre (o::l) i Q ⟨tm,hp,nid,df,pn⟩:=don 1 h hh
theorem BjS {ops:Array Oper} {vs:List Nat} {base i i':Nat} {pre pre':List Fp} {o:Oper} {l l':List Oper} (hw:wantedAt ops tm o=some true) (hl:AfZ X.P { o with guard:=none } tm hp=true) (h:AfA X.P ops vs base nid df pn 1 (o::l) i pre tm hp AhR=some (l',i',pre',tm',hp'))
 (hh:nK X ops vs base pre' l' i' Q ⟨tm',hp',nid,df,pn⟩):nK X ops vs base pre (o::l) i Q ⟨tm,hp,nid,df,pn⟩:=don 1 h hh
theorem BjV {id i' m:Nat} {ops:Array Oper} {pre':List Fp} {l':List Oper} (hn:AnE (nid+ops.size) some=some m) (hz:(noF (X.H f id)&&!(X.H f id).contains 4999999)=true)
  (h:AbT (X.H f id) tm (λtm=>ArD X.P ops (qY ops) nid m df pn ops.toList 0 [] tm hp AhR)=some (l',i',pre',tm',hp')) (hh:nK X ops (qY ops) nid pre' l' i' Q ⟨tm',hp',m,df,pn⟩) :
  awp X f (.region id ops true) Q ⟨tm,hp,nid,df,pn⟩:=by
 rw[tS] at h
 rw[wG,sJ] at hn
 subst hn
 refine Av9 hz ?_
 obtain⟨_,_,_,_,_,h1,h2⟩:=AfC (Q:=Q) h
 simp only[AhR,sJ,pJ] at h1
 obtain⟨rfl,rfl,rfl,rfl,rfl⟩:=h1
 exact h2 hh
class Ok {α:Type} (e:Option α) (S:outParam (α->Prop)):Prop where
 ok:∀{r},e=some r->S r
theorem Ok.mk' {α β:Type} {g:α->Option β} {M:α->β->Prop} (h:∀a r,g a=some r->M a r):∀a,Ok (g a) (M a):=λa=>⟨λ{r} e=>h a r e⟩
class eP (fn:outParam Func) (n:outParam Nat) (ρ:outParam Type) (E:outParam (ρ->aE)):Prop where
 is:True
theorem AzZ {ε α:Type} (y:Except ε α):(∃e,y=.error e)\/∃a,y=.ok a:=by
 cases y with
 |error e=>exact .inl ⟨e,rfl⟩
 |ok a=>exact .inr ⟨a,rfl⟩
theorem AnI {o:Oper} {c:Go.Call} {fo:Operand} {g:Nat} {caps ids:List Nat} {args args' args'':List C} {lh lh' lh'':List (List C)} {v v':V} (hv:aval X g args'' lh (.ret v lh'))
  (ho:o.op=.call c) (hc:c.callee=.value fo) (hf:ev tm fo=some (.c (.fn g caps)))
  (ha:oA X.P tm c.args.toList c.argTypes.toList=some args) (hr:qX hp 64 ((args++caps.map λb=>C.ptr b 0).flatMap C.ids) []=some ids) (hi:aY (C.into ids) (args++caps.map λb=>.ptr b 0)=some args')
  (hst:args'.map C.still=args'') (hH:(X.H g 999999).isEmpty=true)
  (hb:oB hp ids=some lh) (hk:aY (aY (C.back (ids++bC nid (lh'.length-ids.length)))) lh'=some lh'') (hv':V.back (ids++bC nid (lh'.length-ids.length)) v=some v') (hn:AnE (nid+(lh'.length-ids.length)) some=some nid') :
  EvO X o ⟨tm,hp,nid,df,pn⟩ v' ⟨unviewIn (ids++bC nid (lh'.length-ids.length)) tm,dI (ids++bC nid (lh'.length-ids.length)) lh'' hp,nid',df,pn⟩ ⟨ids,ids,[]⟩:=
 AfQ hv ho hc hf ha hr hi hst hH hb hk hv' (by rw[wG,sJ] at hn; exact hn)
theorem AvS {o:Oper} {c:Go.Call} {fo:Operand} {g:Nat} {caps ids:List Nat} {args args':List C} {lh lh' lh'':List (List C)} {v v':V} (hv:aval X g args' lh (.ret v lh'))
  (ho:o.op=.call c) (hc:c.callee=.value fo) (hf:ev tm fo=some (.c (.fn g caps)))
  (ha:oA X.P tm c.args.toList c.argTypes.toList=some args) (hr:qX hp 64 ((args++caps.map λb=>C.ptr b 0).flatMap C.ids) []=some ids) (hi:aY (C.into ids) (args++caps.map λb=>.ptr b 0)=some args')
  (hb:oB hp ids=some lh) (hk:aY (aY (C.back (ids++bC nid (lh'.length-ids.length)))) lh'=some lh'') (hv':V.back (ids++bC nid (lh'.length-ids.length)) v=some v') (hn:AnE (nid+(lh'.length-ids.length)) some=some nid') :
  EvO X o ⟨tm,hp,nid,df,pn⟩ v' ⟨unviewIn (ids++bC nid (lh'.length-ids.length)) tm,dI (ids++bC nid (lh'.length-ids.length)) lh'' hp,nid',df,pn⟩ ⟨ids,ids,[]⟩:=
 BfQ hv ho hc hf ha hr hi hb hk hv' (by rw[wG,sJ] at hn; exact hn)
theorem BmF {ops:Array Oper} {o:Oper} {l:List Oper} {t:TypeId} (ho:o.op=.makeMap t none) (hw:wantedAt ops tm o=some true) (hv:noView nid tm=true)
  (hk:ApO o.dst (.c (.mp nid)) tm (λtm=>some tm)=some tm') (hn:AnE (nid+1) some=some nid') (h:pB X ops l Q ⟨tm',(nid,[.mdat []])::hp,nid',df,pn⟩):pB X ops (o::l) Q ⟨tm,hp,nid,df,pn⟩:=
 pmk ho hw hv hk (by rw[wG,sJ] at hn; exact hn) h
theorem BfS {α:Type} (g:α->D) (z:α) {xs:List α} {n:Int} {o:Oper} {t e:TypeId} {l c:Operand} {k k':IntKind} {sz:Nat} (hy:mkarr n z=some xs) (ho:o.op=.makeSlice t l c) (hs:qJ l c=true) (ht:mN X.P t=some e)
  (hl:ev tm l=some (.c (.d (.int k n)))) (hc:ev tm c=some (.c (.d (.int k' n)))) (hz:((AcD X.P e).map (An7 X.P e)).bind V.toD=some (g z)) (hk:tsz X.P e=some sz) (hb:Nat.ble (X.P.bytesOf e) 1024=true) (hzl:(g z).cells.length=sz) (h0:Nat.ble 1 sz=true) (hnv:noView nid tm=true) (hn:AnE (nid+1) some=some nid') :
  EvO X o ⟨tm,hp,nid,df,pn⟩ (.c (.arr nid n.toNat sz)) ⟨tm,(nid,[.seq sz (xs.map g)])::hp,nid',df,pn⟩ eM.none:=
 AlA g z hy ho hs ht hl hc hz hk hb hzl h0 hnv (by rw[wG,sJ] at hn; exact hn)
theorem BfT {zd:D} {y:Unit} {m:Int} {o:Oper} {t e:TypeId} {l c:Operand} {k k':IntKind} {sz:Nat} (hy:mkcap m=some y) (ho:o.op=.makeSlice t l c) (hs:qJ l c=false) (ht:mN X.P t=some e)
 (hl:ev tm l=some (.c (.d (.int k 0)))) (hc:ev tm c=some (.c (.d (.int k' m)))) (hz:((AcD X.P e).map (An7 X.P e)).bind V.toD=some zd) (hk:tsz X.P e=some sz) (hb:Nat.ble (X.P.bytesOf e) 1024=true) (hzl:zd.cells.length=sz) (h0:Nat.ble 1 sz=true) :
 EvO X o ⟨tm,hp,nid,df,pn⟩ (.c (.own sz [])) ⟨tm,hp,nid,df,pn⟩ eM.none:=Bi5 id hy ho hs ht hl hc hz hk hb hzl h0
theorem BjB {o:Oper} {s s1:St} {ft:eM} {n:Nat} {a:Arr} (h:EvO X o s (.c (.full n [encArr a])) s1 ft):EvO X o s (.c (.full n ([a].map aW))) s1 ft:=by simpa only [List.map_cons,List.map_nil,pX] using h
theorem BjD {o:Oper} {s s1:St} {ft:eM} {n:Nat} {a b:Arr} (h:EvO X o s (.c (.full n [encArr a,encArr b])) s1 ft):EvO X o s (.c (.full n ([a,b].map aW))) s1 ft:=by simpa only [List.map_cons,List.map_nil,pX] using h
theorem BjC {o:Oper} {s s1:St} {ft:eM} {n:Nat} {a:Node} (h:EvO X o s (.c (.full n [encNode a])) s1 ft):EvO X o s (.c (.full n ([a].map qR))) s1 ft:=by simpa only [List.map_cons,List.map_nil,vD] using h
theorem BjE {o:Oper} {s s1:St} {ft:eM} {n:Nat} {a b:Node} (h:EvO X o s (.c (.full n [encNode a,encNode b])) s1 ft):EvO X o s (.c (.full n ([a,b].map qR))) s1 ft:=by simpa only [List.map_cons,List.map_nil,vD] using h
theorem BjW {o:Oper} {s s1:St} {ft:eM} {n:Nat} {a b c:Node} (h:EvO X o s (.c (.full n [encNode a,encNode b,encNode c])) s1 ft):EvO X o s (.c (.full n ([a,b,c].map qR))) s1 ft:=by simpa only [List.map_cons,List.map_nil,vD] using h
def AftO (X:Ctx) (ops:Array Oper) (o:Oper) (l:List Oper) (Q:AX->St->Prop) (s:St) (v:V) (s1:St) (ft:eM):Prop:=EvO X o s v s1 ft->pB X ops (o::l) Q s
theorem po1 {ops:Array Oper} {o:Oper} {l:List Oper} {v:V} {tm1:List (Nat×V)} {hp1:List (Nat×List C)} {ft:eM} {nid1:Nat} (hop:EvO X o ⟨tm,hp,nid,df,pn⟩ v ⟨tm1,hp1,nid1,df,pn⟩ ft) (h:AftO X ops o l Q ⟨tm,hp,nid,df,pn⟩ v ⟨tm1,hp1,nid1,df,pn⟩ ft):pB X ops (o::l) Q ⟨tm,hp,nid,df,pn⟩:=h hop
theorem po2 {ops:Array Oper} {o:Oper} {l:List Oper} {v:V} {tm1:List (Nat×V)} {hp1:List (Nat×List C)} {ft:eM} {nid1:Nat} (hw:wantedAt ops tm o=some true) (hk:ApO o.dst v tm1 (λtm=>tH hp1 λhp=>some (tm,hp))=some (tm',hp')) (h:pB X ops l Q ⟨tm',hp',nid1,df,pn⟩) :
 AftO X ops o l Q ⟨tm,hp,nid,df,pn⟩ v ⟨tm1,hp1,nid1,df,pn⟩ ft:=λhop=>po hop hw hk h
def BiW (X:Ctx) (ops:Array Oper) (vs:List Nat) (base:Nat) (pre:List Fp) (o:Oper) (l:List Oper) (i:Nat) (Q:AX->St->Prop) (s:St) (v:V) (s1:St) (ft:eM):Prop:=EvO X o s v s1 ft->nK X ops vs base pre (o::l) i Q s
theorem pd1 {ops:Array Oper} {vs:List Nat} {base i:Nat} {pre:List Fp} {o:Oper} {l:List Oper} {v:V} {tm1:List (Nat×V)} {hp1:List (Nat×List C)} {ft:eM} {nid1:Nat} (hop:EvO X o ⟨tm,hp,nid,df,pn⟩ v ⟨tm1,hp1,nid1,df,pn⟩ ft)
 (h:BiW X ops vs base pre o l i Q ⟨tm,hp,nid,df,pn⟩ v ⟨tm1,hp1,nid1,df,pn⟩ ft):nK X ops vs base pre (o::l) i Q ⟨tm,hp,nid,df,pn⟩:=h hop
theorem pd2 {ops:Array Oper} {vs:List Nat} {base i i':Nat} {pre pre':List Fp} {o:Oper} {l:List Oper} {v:V} {tm1:List (Nat×V)} {hp1:List (Nat×List C)} {ft:eM} {nid1:Nat} (hw:wantedAt ops tm o=some true) (hm:aP o=false)
 (hk:(uY o.dst (gO vs o.dst v) (afterApp o ⟨tm1,hp1,nid1,df,pn⟩)).bind (λs2=>qN s2.tmps λtm=>tH s2.heap λhp=>some (tm,hp))=some (tm',hp'))
 (hf:fpK ((qS ops o ⟨tm,hp,nid,df,pn⟩ (gO vs o.dst v) ⟨tm1,hp1,nid1,df,pn⟩ ft).fill ⟨tm',hp',nid1,df,pn⟩) (λfp=>qN (pre++[fp]) some)=some pre') (hi:AnE (i+1) some=some i')
 (h:nK X ops vs base pre' l i' Q ⟨tm',hp',nid1,df,pn⟩):BiW X ops vs base pre o l i Q ⟨tm,hp,nid,df,pn⟩ v ⟨tm1,hp1,nid1,df,pn⟩ ft:=λhop=>pd hop hw hm hk hf (by rw[wG,sJ] at hi; exact hi) h
class Jn (f kd key:Nat) (σ:Type) where
 tp:σ->List (Nat×V)
 cp:σ->List (Nat×List (Nat×C))
def jT (ps:List (Nat×V)) (tm:List (Nat×V)):List Nat->List (Nat×V)
 | []=>[]
 |t::r=>match look t ps with
  |some v=>(t,v)::jT ps tm r
  |none=>match look t tm with
   |some v=>(t,v.calm)::jT ps tm r
   |none=>jT ps tm r
def jC:List (Nat×C)->List C->List C
 | [],cs=>cs
 |(o,c)::r,cs=>jC r (cs.set o c)
def jH (ps:List (Nat×List (Nat×C))) (n:Nat):List (Nat×List C)->List (Nat×List C)
 | []=>[]
 |(b,cs)::r=>match Nat.blt b n with
  |true=>match look b ps with
   |some l=>(b,jC l cs)::jH ps n r
   |none=>(b,cs)::jH ps n r
  |false=>jH ps n r
def stJ {σ:Type} (tp:σ->List (Nat×V)) (cp:σ->List (Nat×List (Nat×C))) (ks:List Nat) (n:Nat) (tm:List (Nat×V)) (hp:List (Nat×List C)) (df:List (Nat×List Nat)) (pn:Option D) (y:σ):St:=
 ⟨jT (tp y) tm ks,jH (cp y) n hp,n,df,pn⟩
def AyN {α:Type} (c:C) (k:C->α):α:=match c with
 |.d x=>k (.d x)
 |.own n xs=>k (.own n xs)
 |.ptr b o=>k (.ptr b o)
 |.nilptr=>k .nilptr
 |.fn f l=>k (.fn f l)
 |.nilfn=>k .nilfn
 |.bfn f x=>k (.bfn f x)
 |.nilmap=>k .nilmap
 |.nilchan=>k .nilchan
 |.nilsl n=>k (.nilsl n)
 |.full n xs=>k (.full n xs)
 |.arr b n s=>k (.arr b n s)
 |.mp b=>k (.mp b)
 |.ment l=>k (.ment l)
 |.mdat l=>k (.mdat l)
 |.seq n l=>k (.seq n l)
 |.hid=>k .hid
 |.undef=>k .undef
theorem ArX {α:Type} {c:C} {k:C->α}:AyN c k=k c:=by cases c<;>rfl
def AyO {α:Type} (v:V) (k:V->α):α:=match v with
 |.c x=>AyN x λx=>k (.c x)
 |.view l n xs=>k (.view l n xs)
 |.rptr cs=>k (.rptr cs)
 |.vagg cs=>k (.vagg cs)
 |.tuple cs=>k (.tuple cs)
theorem BbP {α:Type} {v:V} {k:V->α}:AyO v k=k v:=by cases v<;>simp only[AyO,ArX]
def Ap4 {α:Type}:List (Nat×V)->(List (Nat×V)->α)->α
 | [],k=>k []
 |(t,v)::r,k=>AyO v λv=>Ap4 r λr=>k ((t,v)::r)
theorem AlI {α:Type}:∀{l:List (Nat×V)} {k:List (Nat×V)->α},Ap4 l k=k l
 | [],_=>rfl
 |(t,v)::r,k=>by simp only[Ap4,BbP,AlI]
def AnJ {α:Type}:List C->(List C->α)->α
 | [],k=>k []
 |c::r,k=>AyN c λc=>AnJ r λr=>k (c::r)
theorem Ap2 {α:Type}:∀{l:List C} {k:List C->α},AnJ l k=k l
 | [],_=>rfl
 |c::r,k=>by simp only[AnJ,ArX,Ap2]
def Ap3 {α:Type}:List (Nat×List C)->(List (Nat×List C)->α)->α
 | [],k=>k []
 |(b,cs)::r,k=>AnJ cs λcs=>Ap3 r λr=>k ((b,cs)::r)
theorem AlH {α:Type}:∀{l:List (Nat×List C)} {k:List (Nat×List C)->α},Ap3 l k=k l
 | [],_=>rfl
 |(b,cs)::r,k=>by simp only[Ap3,Ap2,AlH]
theorem nfQ {s:St} (hn:Ap4 s.tmps (λtm=>Ap3 s.heap λhp=>AnE s.nid λn=>some (tm,hp,n))=some (tm',hp',nid')) (h:Q .normal ⟨tm',hp',nid',s.defers,s.pan⟩):Q .normal s:=by
 rw[AlI,AlH,wG] at hn
 simp only[sJ,pJ] at hn
 obtain⟨rfl,rfl,rfl⟩:=hn
 exact h
theorem nJb {σ:Type} {y:σ} {id k0:Nat} {ks:List Nat} {c:Code} [J:Jn f 0 id σ] (hk:X.H f (1000000+id)=k0::ks) (h1:awp X f (.block id c) (iR (stJ J.tp J.cp ks nid tm hp df pn) y) ⟨tm,hp,nid,df,pn⟩) (h2:Q .normal (stJ J.tp J.cp ks nid tm hp df pn y)) :
 awp X f (.block id c) Q ⟨tm,hp,nid,df,pn⟩:=by exact gZ _ h1 h2
theorem nJc {σ:Type} {y:σ} {t k0:Nat} {ks:List Nat} {a b:Code} [J:Jn f 1 t σ] (hk:X.H f (uI a b)=k0::ks) (h1:awp X f (.cond (.tmp t) a b) (iR (stJ J.tp J.cp ks nid tm hp df pn) y) ⟨tm,hp,nid,df,pn⟩) (h2:Q .normal (stJ J.tp J.cp ks nid tm hp df pn y)) :
 awp X f (.cond (.tmp t) a b) Q ⟨tm,hp,nid,df,pn⟩:=by exact gZ _ h1 h2
theorem sJb {fn:Func} {n:Nat} {ρ σ:Type} {E:ρ->aE} [eP fn n ρ E] {res:Except ρ σ} {id k0:Nat} {ks:List Nat} {c:Code} [J:Jn f 0 id σ] (hk:X.H f (1000000+id)=k0::ks)
  (h1:awp X f (.block id c) (kD X fn n E (stJ J.tp J.cp ks nid tm hp df pn) res) ⟨tm,hp,nid,df,pn⟩) (h2:∀y,res=.ok y->Q .normal (stJ J.tp J.cp ks nid tm hp df pn y))
  (h3:∀r x s',res=.error r->x.isOut=true->wZ X fn n (E r) x s'->Q x s'):awp X f (.block id c) Q ⟨tm,hp,nid,df,pn⟩:=by
 exact uG fn n E _ h1 h2 h3
theorem sJc {fn:Func} {n:Nat} {ρ σ:Type} {E:ρ->aE} [eP fn n ρ E] {res:Except ρ σ} {t k0:Nat} {ks:List Nat} {a b:Code} [J:Jn f 1 t σ] (hk:X.H f (uI a b)=k0::ks)
  (h1:awp X f (.cond (.tmp t) a b) (kD X fn n E (stJ J.tp J.cp ks nid tm hp df pn) res) ⟨tm,hp,nid,df,pn⟩) (h2:∀y,res=.ok y->Q .normal (stJ J.tp J.cp ks nid tm hp df pn y))
  (h3:∀r x s',res=.error r->x.isOut=true->wZ X fn n (E r) x s'->Q x s'):awp X f (.cond (.tmp t) a b) Q ⟨tm,hp,nid,df,pn⟩:=by
 exact uG fn n E _ h1 h2 h3
theorem nL {σ:Type} {y:σ} {st:σ->St} {id:Nat} {c:Code} {s s1:St} {clean:St->Option St} {hk:List Nat} {n:Nat} (hv:cD X f c clean (aJ id hk n (iR st y)) s1) (hc:clean s=some s1) (hc1:clean s1=some s1) (he:X.H f (1000000+id)=hk) (hcl:aH (X.H f (kL c)) s.nid=clean) (hn:s.nid=n)
  (h2:Q .normal (st y)):awp X f (.block id (.loop c)) Q s:=by
 subst he hcl hn
 exact gZ st (xF (eC (bV hc hc1 hv))) h2
theorem sL {fn:Func} {m:Nat} {ρ σ:Type} {E:ρ->aE} {res:Except ρ σ} {st:σ->St} {id:Nat} {c:Code} {s s1:St} {clean:St->Option St} {hk:List Nat} {n:Nat} (hv:cD X f c clean (aJ id hk n (kD X fn m E st res)) s1) (hc:clean s=some s1) (hc1:clean s1=some s1) (he:X.H f (1000000+id)=hk) (hcl:aH (X.H f (kL c)) s.nid=clean) (hn:s.nid=n)
  (h2:∀y,res=.ok y->Q .normal (st y)) (h3:∀r x s',res=.error r->x.isOut=true->wZ X fn m (E r) x s'->Q x s'):awp X f (.block id (.loop c)) Q s:=by
 subst he hcl hn
 exact uG fn m E st (xF (eC (bV hc hc1 hv))) h2 h3
theorem xL {i:Nat} {hk':List Nat} {n':Nat} {ρ σ:Type} {res:Except ρ σ} {st1:ρ->St} {st:σ->St} {id:Nat} {c:Code} {s s1:St} {clean:St->Option St} {hk:List Nat} {n:Nat} (hv:cD X f c clean (aJ id hk n (BaX i hk' n' st1 st res)) s1) (hc:clean s=some s1) (hc1:clean s1=some s1) (he:X.H f (1000000+id)=hk) (hcl:aH (X.H f (kL c)) s.nid=clean) (hn:s.nid=n)
  (h2:∀y,res=.ok y->Q .normal (st y)) (h3:∀y s',res=.error y->yB hk' n' s'=some (st1 y)->Q (.exit i) s'):awp X f (.block id (.loop c)) Q s:=by
 subst he hcl hn
 exact AzP i hk' n' st1 st (xF (eC (bV hc hc1 hv))) h2 h3
theorem aB {fn:Func} {code:Code} {args args':List C} {lh:List (List C)} {ρ:Type} (E:ρ->aE) {r:ρ} {n:Nat} (hE:X.E f=none) (hf:X.P.funcs[f]?=some fn) (hb:fn.body=some code) (hst:(if (X.H f 999999).isEmpty then args.map C.still else args)=args') (hl:args'.length=fn.params.size+fn.nfree)
  (hn:AnE lh.length some=some n) (ht:Ap4 (nJ 0 (args'.map λc=>V.c c.plain)) (λtm=>Ap3 (nJ 0 lh) λhp=>some (tm,hp))=some (tm,hp)) (hlow:Nat.blt f yN=true) (h:eP fn n ρ E->awp X f code (wZ X fn n (E r)) ⟨tm,hp,n,[],none⟩):aval X f args lh (E r):=by
 rw[AlI,AlH] at ht
 rw[wG,sJ] at hn
 simp only[sJ,pJ] at ht
 exact kY hE hf hb hst hl ht.1 ht.2 hn (h ⟨trivial⟩) hlow
end
end Go.AM
namespace Go.AM
open Go
def BcX (X:Ctx) (f:Nat) (o:Operand) (a b:Code) (Q:AX->St->Prop) (s:St):Prop:=awp X f (.cond o a b) Q s
section
variable {X:Ctx} {f:Nat} {Q:AX->St->Prop} {tm tm':List (Nat×V)} {hp hp':List (Nat×List C)} {nid nid':Nat} {df df':List (Nat×List Nat)} {pn pn':Option D}
theorem ctC {o:Operand} {a b:Code} {c:Bool} (hc:ev tm o=some (.c (.d (.bool c)))) (e:c=true) (h:awp X f a (fN (X.H f (uI a b)) nid Q) ⟨tm,hp,nid,df,pn⟩):BcX X f o a b Q ⟨tm,hp,nid,df,pn⟩:=ct hc e h
theorem cfC {o:Operand} {a b:Code} {c:Bool} (hc:ev tm o=some (.c (.d (.bool c)))) (e:c=false) (h:awp X f b (fN (X.H f (uI a b)) nid Q) ⟨tm,hp,nid,df,pn⟩):BcX X f o a b Q ⟨tm,hp,nid,df,pn⟩:=cf hc e h
theorem jnb {σ:Type} {y:σ} {id k0:Nat} {ks:List Nat} {c:Code} [J:Jn f 0 id σ] (hk:X.H f (1000000+id)=k0::ks) (h1:awp X f c (aJ id (X.H f (1000000+id)) nid (iR (stJ J.tp J.cp ks nid tm hp df pn) y)) ⟨tm,hp,nid,df,pn⟩) (h2:Q .normal (stJ J.tp J.cp ks nid tm hp df pn y)) :
 awp X f (.block id c) Q ⟨tm,hp,nid,df,pn⟩:=nJb hk (xF h1) h2
theorem jnc {σ:Type} {y:σ} {t k0:Nat} {ks:List Nat} {a b:Code} [J:Jn f 1 t σ] (hk:X.H f (uI a b)=k0::ks) (h1:BcX X f (.tmp t) a b (iR (stJ J.tp J.cp ks nid tm hp df pn) y) ⟨tm,hp,nid,df,pn⟩) (h2:Q .normal (stJ J.tp J.cp ks nid tm hp df pn y)) :
 awp X f (.cond (.tmp t) a b) Q ⟨tm,hp,nid,df,pn⟩:=nJc hk h1 h2
theorem jsb {fn:Func} {n:Nat} {ρ σ:Type} {E:ρ->aE} [eP fn n ρ E] {res:Except ρ σ} {id k0:Nat} {ks:List Nat} {c:Code} [J:Jn f 0 id σ] (hk:X.H f (1000000+id)=k0::ks)
 (h1:awp X f c (aJ id (X.H f (1000000+id)) nid (kD X fn n E (stJ J.tp J.cp ks nid tm hp df pn) res)) ⟨tm,hp,nid,df,pn⟩) (h2:∀y,res=.ok y->Q .normal (stJ J.tp J.cp ks nid tm hp df pn y))
 (h3:∀r x s',res=.error r->x.isOut=true->wZ X fn n (E r) x s'->Q x s'):awp X f (.block id c) Q ⟨tm,hp,nid,df,pn⟩:=sJb hk (xF h1) h2 h3
theorem jsc {fn:Func} {n:Nat} {ρ σ:Type} {E:ρ->aE} [eP fn n ρ E] {res:Except ρ σ} {t k0:Nat} {ks:List Nat} {a b:Code} [J:Jn f 1 t σ] (hk:X.H f (uI a b)=k0::ks)
 (h1:BcX X f (.tmp t) a b (kD X fn n E (stJ J.tp J.cp ks nid tm hp df pn) res) ⟨tm,hp,nid,df,pn⟩) (h2:∀y,res=.ok y->Q .normal (stJ J.tp J.cp ks nid tm hp df pn y))
 (h3:∀r x s',res=.error r->x.isOut=true->wZ X fn n (E r) x s'->Q x s'):awp X f (.cond (.tmp t) a b) Q ⟨tm,hp,nid,df,pn⟩:=sJc hk h1 h2 h3
end
theorem Wk {p:Prop} (w:p:=by
 repeat' first
 |(subst hz; first|refine nfQ rfl ?_|skip)
 |(show awp _ _ _ _ _; first
    |refine At7 ?_
    |refine rnW rfl rfl ?_
    |refine BjV rfl rfl rfl ?_
    |refine AzQ ?_
    |refine AvA ?_
    |refine AvB ?_
    |refine ct rfl rfl ?_
    |refine cf rfl rfl ?_
    |(rcases AkF h with ⟨hc,h⟩|⟨hc,h⟩<;>first|refine ct rfl hc ?_|refine cf rfl hc ?_)
    |refine Ar6 ?_
    |refine Ar5 ?_
    |(obtain⟨y,hk,h⟩:=Af8 h
      have hv:=Ok.ok hk
      first
      |refine nL hv rfl rfl rfl rfl rfl (nfQ rfl ?_)
      |refine sL hv rfl rfl rfl rfl rfl (λz hz=>?_) (λr x s' hz hx he=>?_)
      |refine xL hv rfl rfl rfl rfl rfl (λz hz=>?_) (λz s' hz hS=>?_))
    |(obtain⟨y,hs,h⟩:=Af8 h
      first
      |refine jnb (y:=y) rfl ((λh=>?_) hs) (nfQ rfl ?_)
      |refine jnc (y:=y) rfl ((λh=>?_) hs) (nfQ rfl ?_)
      |refine jsb (res:=y) rfl ((λh=>?_) hs) (λz hz=>?_) (λr x s' hz hx he=>?_)
      |refine jsc (res:=y) rfl ((λh=>?_) hs) (λz hz=>?_) (λr x s' hz hx he=>?_))
    |refine xF ?_)
 |(show BcX _ _ _ _ _ _ _; (rcases AkF h with ⟨hc,h⟩|⟨hc,h⟩<;>first|refine ctC rfl hc ?_|refine cfC rfl hc ?_))
 |(show pB _ _ _ _ _; first
    |refine AjJ ?_
    |refine onW rfl rfl ?_
    |refine onF rfl rfl ?_
    |refine onT rfl rfl rfl ?_
    |(rcases AkF h with ⟨hc,h⟩|⟨hc,h⟩<;>first|refine gt rfl rfl rfl rfl hc rfl ?_|refine gf rfl rfl rfl rfl hc rfl ?_)
    |refine po1 (mT rfl rfl rfl rfl rfl rfl rfl) ?_
    |refine po1 (BjB (yY rfl)) ?_
    |refine po1 (BjD (yY rfl)) ?_
    |refine po1 (BjC (yY rfl)) ?_
    |refine po1 (BjE (yY rfl)) ?_
    |refine po1 (BjW (yY rfl)) ?_
    |refine po1 (Bh2 rfl rfl rfl rfl rfl rfl) ?_
    |refine po1 (Bh9 (by kernel_rfl) rfl rfl rfl rfl rfl) ?_
    |refine po1 (BhA (by kernel_rfl) rfl rfl rfl rfl rfl) ?_
    |refine po1 (BdP _ rfl rfl rfl rfl rfl rfl rfl) ?_
    |refine po1 (BdO _ rfl rfl rfl rfl rfl rfl rfl) ?_
    |refine po1 (AvT (ApX _) (.inl rfl) rfl rfl rfl rfl rfl rfl) ?_
    |refine po1 (AvT (ApX _) (.inr rfl) rfl rfl rfl rfl rfl rfl) ?_
    |refine po1 (AvT (ApW _) (.inl rfl) rfl rfl rfl rfl rfl rfl) ?_
    |refine po1 (AvT (ApW _) (.inr rfl) rfl rfl rfl rfl rfl rfl) ?_
    |refine BmF rfl rfl rfl rfl rfl ?_
    |(obtain⟨y,hk,h⟩:=Af8 h
      first
      |(have hv:=Ok.ok hk
        first
        |refine po1 (nR hv rfl rfl rfl rfl rfl rfl rfl rfl rfl) ?_
        |refine po1 (AnI hv rfl rfl rfl rfl rfl rfl rfl rfl rfl rfl rfl rfl) ?_
        |refine po1 (BdK hv rfl rfl rfl rfl rfl rfl rfl) ?_
        |refine po1 (AvS hv rfl rfl rfl rfl rfl rfl rfl rfl rfl rfl) ?_
        |refine po1 (BdL hv rfl rfl rfl rfl rfl rfl rfl rfl rfl) ?_
        |(rcases AzZ y with ⟨e,rfl⟩|⟨y,rfl⟩<;>first
           |refine pp (AyL hv rfl rfl rfl rfl rfl rfl rfl rfl rfl rfl) rfl rfl ?_
           |refine po1 (nR hv rfl rfl rfl rfl rfl rfl rfl rfl rfl) ?_
           |refine po1 (AnI hv rfl rfl rfl rfl rfl rfl rfl rfl rfl rfl rfl rfl) ?_))
      |refine po1 (mS encArr pX hk rfl rfl rfl rfl rfl) ?_
      |refine po1 (mS encNode vD hk rfl rfl rfl rfl rfl) ?_
      |refine po1 (mS _ (λ_=>rfl) hk rfl rfl rfl rfl rfl) ?_
      |refine po1 (Bh7 hk rfl rfl rfl rfl) ?_
      |refine po1 (AfP hk rfl rfl rfl rfl rfl rfl rfl rfl rfl rfl rfl rfl rfl rfl) ?_
      |refine po1 (Bh1 hk rfl rfl rfl rfl rfl rfl rfl rfl rfl rfl rfl rfl) ?_
      |refine po1 (AvR hk rfl rfl rfl rfl rfl rfl rfl rfl rfl rfl rfl rfl) ?_
      |refine po1 (AvQ hk rfl rfl rfl rfl rfl rfl rfl rfl rfl rfl rfl rfl) ?_
      |refine po1 (AzY hk rfl rfl rfl rfl rfl rfl rfl rfl rfl rfl rfl rfl rfl) ?_
      |refine po1 (ArR hk rfl rfl rfl rfl rfl rfl rfl) ?_
      |refine po1 (Al9 hk rfl rfl rfl rfl rfl rfl) ?_
      |refine po1 (BfR hk rfl rfl rfl rfl rfl rfl) ?_
      |refine po1 (BdM hk rfl rfl rfl rfl rfl rfl rfl) ?_
      |refine po1 (Bh8 hk rfl rfl rfl rfl rfl) ?_
      |refine po1 (BdQ hk rfl rfl rfl rfl) ?_
      |refine po1 (BjG hk rfl rfl rfl rfl) ?_
      |refine po1 (Bh6 hk rfl rfl rfl) ?_
      |refine po1 (AcK hk rfl rfl rfl rfl rfl) ?_
      |refine po1 (BjF _ hk rfl rfl rfl (λ_=>⟨rfl,rfl,rfl⟩) (λ_=>rfl) rfl rfl) ?_
      |refine po1 (AqJ _ hk rfl rfl (λ_=>⟨rfl,rfl,rfl⟩) rfl rfl) ?_
      |refine po1 (est _ hk rfl rfl (λ_=>⟨rfl,rfl,rfl⟩) rfl rfl rfl rfl) ?_
      |refine po1 (BfS _ _ hk rfl rfl rfl rfl rfl rfl rfl rfl rfl rfl rfl rfl) ?_
      |refine po1 (BfT hk rfl rfl rfl rfl rfl rfl rfl rfl rfl rfl) ?_
      |refine po1 (Bh3 _ hk rfl rfl rfl rfl rfl rfl rfl rfl rfl rfl) ?_
      |refine po1 (Bh4 hk rfl rfl rfl) ?_
      |refine po1 (Bh5 hk rfl rfl rfl) ?_
      |refine po1 (BfW hk rfl rfl rfl rfl rfl rfl) ?_
      |refine po1 (AfP hk (show List.map AbE _=List.map (D.int .u8) (List.map u8I _) from by rw[List.map_map]; rfl) rfl rfl rfl rfl rfl rfl rfl rfl rfl rfl rfl rfl rfl) ?_
      |refine po1 (AvR hk (show List.map AbE _=List.map (D.int .u8) (List.map u8I _) from by rw[List.map_map]; rfl) rfl rfl rfl rfl rfl rfl rfl rfl rfl rfl rfl) ?_
      |refine po1 (AzY hk (show List.map AbE _=List.map (D.int .u8) (List.map u8I _) from by rw[List.map_map]; rfl) rfl rfl rfl rfl rfl rfl rfl rfl rfl rfl rfl rfl) ?_)
    |refine on 1 rfl ?_)
 |(show nK _ _ _ _ _ _ _ _ _; first
    |refine dz' (by kernel_rfl) ?_
    |refine BjT rfl rfl ?_
    |refine BjR rfl rfl ?_
    |refine BjS rfl rfl rfl ?_
    |(rcases AkF h with ⟨hc,h⟩|⟨hc,h⟩<;>first|refine dgt rfl rfl rfl rfl hc rfl ?_|refine dgf rfl rfl rfl rfl hc rfl ?_)
    |refine pd1 (mT rfl rfl rfl rfl rfl rfl rfl) ?_
    |refine pd1 (BjB (yY rfl)) ?_
    |refine pd1 (BjD (yY rfl)) ?_
    |refine pd1 (BjC (yY rfl)) ?_
    |refine pd1 (BjE (yY rfl)) ?_
    |refine pd1 (Bh2 rfl rfl rfl rfl rfl rfl) ?_
    |refine pd1 (Bh9 (by kernel_rfl) rfl rfl rfl rfl rfl) ?_
    |refine pd1 (BhA (by kernel_rfl) rfl rfl rfl rfl rfl) ?_
    |refine pd1 (AvT (ApW _) (.inr rfl) rfl rfl rfl rfl rfl rfl) ?_
    |refine pd1 (AvT (ApW _) (.inl rfl) rfl rfl rfl rfl rfl rfl) ?_
    |refine pd1 (AvT (ApX _) (.inr rfl) rfl rfl rfl rfl rfl rfl) ?_
    |refine pd1 (AvT (ApX _) (.inl rfl) rfl rfl rfl rfl rfl rfl) ?_
    |refine pd1 (BdO _ rfl rfl rfl rfl rfl rfl rfl) ?_
    |refine pd1 (BdP _ rfl rfl rfl rfl rfl rfl rfl) ?_
    |(obtain⟨y,hk,h⟩:=Af8 h
      first
      |(have hv:=Ok.ok hk
        first
        |refine pd1 (nR hv rfl rfl rfl rfl rfl rfl rfl rfl rfl) ?_
        |refine pd1 (AnI hv rfl rfl rfl rfl rfl rfl rfl rfl rfl rfl rfl rfl) ?_
        |refine pd1 (BdK hv rfl rfl rfl rfl rfl rfl rfl) ?_
        |refine pd1 (AvS hv rfl rfl rfl rfl rfl rfl rfl rfl rfl rfl) ?_
        |refine pd1 (BdL hv rfl rfl rfl rfl rfl rfl rfl rfl rfl) ?_
        |(rcases AzZ y with ⟨e,rfl⟩|⟨y,rfl⟩<;>first
           |refine dp rfl (AyL hv rfl rfl rfl rfl rfl rfl rfl rfl rfl rfl) (AyL hv rfl rfl rfl rfl rfl rfl rfl rfl rfl rfl) rfl rfl rfl rfl (by kernel_rfl) ?_
           |refine pd1 (nR hv rfl rfl rfl rfl rfl rfl rfl rfl rfl) ?_
           |refine pd1 (AnI hv rfl rfl rfl rfl rfl rfl rfl rfl rfl rfl rfl rfl) ?_))
      |refine pd1 (mS encArr pX hk rfl rfl rfl rfl rfl) ?_
      |refine pd1 (mS encNode vD hk rfl rfl rfl rfl rfl) ?_
      |refine pd1 (mS _ (λ_=>rfl) hk rfl rfl rfl rfl rfl) ?_
      |refine pd1 (Bh7 hk rfl rfl rfl rfl) ?_
      |refine pd1 (AfP hk rfl rfl rfl rfl rfl rfl rfl rfl rfl rfl rfl rfl rfl rfl) ?_
      |refine pd1 (Bh1 hk rfl rfl rfl rfl rfl rfl rfl rfl rfl rfl rfl rfl) ?_
      |refine pd1 (AvR hk rfl rfl rfl rfl rfl rfl rfl rfl rfl rfl rfl rfl) ?_
      |refine pd1 (AvQ hk rfl rfl rfl rfl rfl rfl rfl rfl rfl rfl rfl rfl) ?_
      |refine pd1 (AzY hk rfl rfl rfl rfl rfl rfl rfl rfl rfl rfl rfl rfl rfl) ?_
      |refine pd1 (ArR hk rfl rfl rfl rfl rfl rfl rfl) ?_
      |refine pd1 (Al9 hk rfl rfl rfl rfl rfl rfl) ?_
      |refine pd1 (BfR hk rfl rfl rfl rfl rfl rfl) ?_
      |refine pd1 (BdM hk rfl rfl rfl rfl rfl rfl rfl) ?_
      |refine pd1 (Bh8 hk rfl rfl rfl rfl rfl) ?_
      |refine pd1 (BdQ hk rfl rfl rfl rfl) ?_
      |refine pd1 (BjG hk rfl rfl rfl rfl) ?_
      |refine pd1 (Bh6 hk rfl rfl rfl) ?_
      |refine pd1 (AcK hk rfl rfl rfl rfl rfl) ?_
      |refine pd1 (BjF _ hk rfl rfl rfl (λ_=>⟨rfl,rfl,rfl⟩) (λ_=>rfl) rfl rfl) ?_
      |refine pd1 (AqJ _ hk rfl rfl (λ_=>⟨rfl,rfl,rfl⟩) rfl rfl) ?_
      |refine pd1 (est _ hk rfl rfl (λ_=>⟨rfl,rfl,rfl⟩) rfl rfl rfl rfl) ?_
      |refine pdm _ _ hk rfl rfl rfl rfl rfl rfl rfl rfl rfl rfl rfl rfl rfl rfl rfl ?_
      |refine pda _ hk (Ar3 _ rfl) rfl rfl rfl rfl rfl rfl rfl rfl rfl rfl rfl rfl rfl rfl rfl rfl rfl rfl rfl rfl ?_
      |(obtain⟨_,hk1,hk⟩:=AuX hk
        refine pda _ hk (At4 _ hk1 rfl) rfl rfl rfl rfl rfl rfl rfl rfl rfl rfl rfl rfl rfl rfl rfl rfl rfl rfl rfl rfl ?_)
      |refine pd1 (Bh4 hk rfl rfl rfl) ?_
      |refine pd1 (Bh5 hk rfl rfl rfl) ?_
      |refine pd1 (AfP hk (show List.map AbE _=List.map (D.int .u8) (List.map u8I _) from by rw[List.map_map]; rfl) rfl rfl rfl rfl rfl rfl rfl rfl rfl rfl rfl rfl rfl) ?_)
    |refine don 1 rfl ?_)
 |refine po2 rfl rfl ?_
 |refine pd2 rfl rfl rfl rfl rfl ?_
 |refine kT.normal ?_
 |refine kT.ret ?_
 |refine kT.exit ?_
 |refine kT.pan ?_
 |refine kT.out hx ?_
 |refine fN.ret ?_
 |refine cn rfl ?_
 |refine fN.exit ?_
 |refine fN.pan ?_
 |refine fN.out hx ?_
 |refine aJ.ret ?_
 |refine eh rfl ?_
 |refine en rfl ?_
 |refine aJ.there rfl ?_
 |refine aJ.pan ?_
 |refine aJ.out hx ?_
 |refine aJ.here hS ?_
 |refine cH.normal ?_
 |refine cH.ret ?_
 |refine cH.exit ?_
 |refine cH.pan ?_
 |refine cH.out hx ?_
 |(cases h; done)
 |(have hv:=Ok.ok h; exact bV rfl rfl hv)
 |(cases h; first
    |exact .ret rfl rfl
    |exact .ok rfl
    |exact .err rfl (.ret rfl rfl)
    |exact he
    |exact .err hx he
    |exact .normal rfl rfl
    |exact .err rfl (.normal rfl rfl)
    |exact .pan rfl rfl
    |exact .err rfl (.pan rfl rfl)
    |exact ex1 rfl rfl)):p:=w
end Go.AM
namespace Go.AM.Seat
open Go Go.AM Go.Proofs
structure Env where
 names:(List Str)
 vals:(List Arr)
 deriving Inhabited
def encEnv (x:Env):D:=.agg [(.list 1 (List.map D.str x.names)),(.list 2 (List.map aW x.vals))]
structure pA where
 left:Arr
 right:Arr
 deriving Inhabited
def AvV (x:pA):D:=.agg [(.list 1 (List.map (D.int .i64) x.left.shape)),(.list 3 (List.map aD x.left.cells)),(.list 1 (List.map (D.int .i64) x.right.shape)),(.list 3 (List.map aD x.right.cells))]
structure cZ where
 left:Int
 used:Int
 deriving Inhabited
structure aF where
 fuel:cZ
 cells:Int
 deriving Inhabited
structure bZ where
 op_:Int
 turned:Bool
 deriving Inhabited
def rA (x:bZ):D:=.agg [(.int .i64 x.op_),(.bool x.turned)]
structure eL where
 hi:Int
 lo:Int
 deriving Inhabited
def AbQ (x:eL):D:=.agg [(.int .u64 x.hi),(.int .u64 x.lo)]
def h5:Nat->List Nat|0=>[0,1,2,3,4]|1=>[2,3,4,5,6]|3=>[2,3,4,5,6]|4=>[2,3,4,5,6,11,12,13]|6=>[2,3,4,5,6,11,12,13]|7=>[11,12,13,14,15,16]|_=>[]
def h6:Nat->List Nat|0=>[0,1,2,3]|1=>[2,3,4,5]|3=>[2,3,4,5]|4=>[2,3,9,10,11]|6=>[3,9,11]|7=>[9]|8=>[3,9]|_=>[]
def h7:Nat->List Nat|0=>[0,1,2,3,4,5]|1=>[2,3,4,6,7,11]|3=>[2,3,4,6,7,11]|4=>[2,3,4,6,7,11,13]|5=>[2,3,6,7,11,13]|6=>[2,3,6,7,13]|7=>[2,3,6,7,13]|8=>[2,3,6,7,13]|9=>[2,3,7,13,14,15,16]|10=>[14,15,16,17,18,19]|_=>[]
def h9:Nat->List Nat|0=>[0,1,2,3]|1=>[2,3,4,5]|3=>[4]|4=>[4,9]|5=>[4,9,10]|6=>[4,9,10]|7=>[4,9,10]|8=>[9]|1000000=>[0,9]|_=>[]
def h11:Nat->List Nat|0=>[0,1,2,3]|1=>[2,3,4,5,8]|2=>[8]|3=>[2,3,4,5,8]|4=>[5,8,11]|5=>[8,11,12,13]|6=>[8,12,13,14]|7=>[8,13,14]|8=>[8,12,14]|_=>[]
def h13:Nat->List Nat|0=>[0,1]|1=>[2,3]|_=>[]
def h14:Nat->List Nat|0=>[0,1]|1=>[1,2]|_=>[]
def h15:Nat->List Nat|0=>[0,1]|1=>[0,3,4]|2=>[0,3,4]|3=>[0,3,4]|4=>[0,3,4]|5=>[0,3,4]|1000000=>[0,0,3,4]|_=>[]
def h17:Nat->List Nat|0=>[0,1,2]|1=>[0,4,5,6]|2=>[4,5,6]|3=>[0,4,5,6]|4=>[0,4,5,6]|5=>[0,4,5,6]|6=>[0,4,5,6]|7=>[0,4,5,6]|1000000=>[0,0,4,5,6]|_=>[]
def h19:Nat->List Nat|0=>[0]|1=>[1]|_=>[]
def h20:Nat->List Nat|0=>[0,1]|1=>[1,2]|3=>[1,2]|4=>[1,2,5]|5=>[1,2,5]|6=>[1,2,5]|1000000=>[0]|_=>[]
def h21:Nat->List Nat|0=>[0,1]|1=>[1,2]|_=>[]
def h28:Nat->List Nat|0=>[0]|1=>[1]|_=>[]
def h29:Nat->List Nat|0=>[0,1]|1=>[0,1]|_=>[]
def h30:Nat->List Nat|0=>[0,1,2]|1=>[0,4,5,6]|2=>[0,4,5,6,8]|3=>[6,8]|4=>[0,4,5,6]|5=>[0,4,5,6,22]|6=>[0,4,6]|7=>[0,4,5,6,22]|8=>[0,4,6]|9=>[0,4,5,6,22]|10=>[5,6]|11=>[0,4,5,6,22]|12=>[5,6]|13=>[0,4,5,6]|14=>[0,4,5,6,9,10]|15=>[0,4,6,9,10]|16=>[6,10]|17=>[0,4,6,9]|18=>[0,4,5,6,9]|19=>[0,4,6,9,10,11]|20=>[6,10]|21=>[0,4,6,9,11]|_=>[]
def h31:Nat->List Nat|0=>[0]|1=>[0]|_=>[]
def h32:Nat->List Nat|0=>[0]|1=>[1,2]|2=>[1,2,3]|3=>[2,3,11,12,13]|4=>[2,3,11,12,13]|5=>[2,3,5,11,12,13]|6=>[2,3,11,12,13]|7=>[2,3]|1000000=>[0,2,3]|_=>[]
def h36:Nat->List Nat|0=>[0,1]|1=>[2,3]|2=>[2,3,5]|3=>[2,3,5,6]|4=>[2,3,5,6]|5=>[2,3,6]|6=>[2,3,5]|7=>[2,3,5,7]|8=>[2,3,5,7]|9=>[2,3,7]|10=>[2,3,5]|11=>[2,3]|12=>[5]|1000000=>[0,2,3,5]|1000002=>[0,2,3,5]|2000011=>[0,5]|_=>[]
def h37:Nat->List Nat|0=>[0,1,2]|1=>[1,2,3]|2=>[1,2,3,7]|3=>[1,2,3,7,8]|4=>[1,2,3,7,8]|5=>[1,2,3,7,8]|6=>[1,2,3,7,8,9]|7=>[1,2,3,7,8,9]|8=>[1,2,3,7,8,9]|9=>[1]|10=>[1,2,3,7,8,9]|11=>[7]|1000000=>[0,7]|1000002=>[0,1,2,3,7,8]|_=>[]
def h38:Nat->List Nat|0=>[0,1]|1=>[0,3,4]|2=>[0,3,4,6]|3=>[4,6]|4=>[0,3,4]|5=>[4]|6=>[0,3,4,18]|7=>[0,3,4,18]|8=>[0,3,4,18]|9=>[0,3,4,18]|10=>[4,18]|11=>[4]|12=>[0,3,4]|13=>[0,3,4,7]|14=>[0,4,7,33,34,35]|15=>[0,4,7,33,34,35]|16=>[0,4,7,9,33,34,35]|17=>[4]|18=>[0,4,7,9,33,34,35]|19=>[0,4,7,10,11,33,34,35]|20=>[4,11]|21=>[0,4,7,10,33,34,35]|22=>[0,4,7,33,34,35]|23=>[4,7]|1000001=>[0,4,7]|2000007=>[0,0,3,4,18,20]|_=>[]
def h39:Nat->List Nat|0=>[0,1]|1=>[0,3,4]|2=>[0,3,4,6]|3=>[4,6]|4=>[0,3,4]|5=>[0,3,4,14]|6=>[0,3,4,14]|7=>[0,3,4]|8=>[3,4,14]|9=>[3,4]|10=>[4]|2000006=>[0,0,3,4,14,15]|_=>[]
def h40:Nat->List Nat|0=>[0,1]|1=>[0,3,4]|2=>[0,3,4,6]|3=>[4,6]|4=>[0,3,4]|5=>[0,3,4]|6=>[3,4,18]|7=>[3,4]|8=>[3,4,18]|9=>[3,4]|10=>[3,4,7]|11=>[4,7,33,34,35]|12=>[4,7,33,34,35]|13=>[4,7,9,33,34,35]|14=>[4,7,33,34,35]|15=>[4,7]|16=>[3,4,18]|17=>[3,4]|18=>[3,4,18]|19=>[3,4]|20=>[3,4,18]|21=>[3,4]|22=>[3,4,18]|23=>[3,4]|24=>[3,4,18]|25=>[3,4]|26=>[3,4,18]|27=>[3,4]|28=>[4]|29=>[3,4]|30=>[3,4,18]|31=>[3,4]|32=>[3,4,18]|33=>[3,4]|34=>[3,4,18]|35=>[3,4]|36=>[4]|37=>[3,4]|38=>[3,4]|39=>[4]|1000001=>[0,4,7]|_=>[]
def h44:Nat->List Nat|0=>[0,1]|1=>[2,3,4]|2=>[2,3,4,16,17,18]|3=>[2,3,4,16,17,18]|4=>[2,3,4,7,16,17,18]|5=>[2,3,4,8,16,17,18]|6=>[4,8]|7=>[2,3,4,16,17,18]|8=>[2,3,4]|9=>[3,4,9,10]|10=>[4,10]|11=>[3,4,9]|12=>[3,4,9,10,11]|13=>[4,10]|14=>[3,4,9,11]|15=>[4]|16=>[3,4,9,11]|17=>[3,4,11,12]|18=>[3,4,12,58,59]|19=>[3,4,12,58,59]|20=>[3,4,12,13,58,59]|21=>[3,4,12,58,59]|22=>[4,12]|1000000=>[0,2,3,4]|1000002=>[0,4,12]|_=>[]
def h45:Nat->List Nat|0=>[0,1,2]|1=>[0,4,5,6]|2=>[0,4,5,6,8]|3=>[6,8]|4=>[0,4,5,6]|5=>[0,4,5,6,9]|6=>[4,5,6,9,24]|7=>[4,5,6,9]|8=>[6]|9=>[4,5,6,9]|10=>[4,5,6,9]|11=>[4,6,9,37,38,39]|12=>[4,6,9,37,38,39]|13=>[4,6,9,11,37,38,39]|14=>[4,6,9,37,38,39]|15=>[6,9]|16=>[4,5,6,9,24]|17=>[4,5,6,9]|18=>[4,5,6,9]|19=>[5,6,9,62,63,64]|20=>[5,6,9,62,63,64]|21=>[5,6,9,13,62,63,64]|22=>[5,6,9,13,14,62,63,64]|23=>[5,6,9,62,63,64]|24=>[5,6,9,14,62,63,64]|25=>[5,6,9,62,63,64]|26=>[6,9]|27=>[6]|1000001=>[0,6,9]|1000003=>[0,6,9]|2000023=>[0,5,6,9,14,62,63,64]|_=>[]
def h46:Nat->List Nat|0=>[0,1,2]|1=>[0,4,5,6]|2=>[0,4,5,6,15,16,17]|3=>[0,4,5,6,15,16,17]|4=>[0,4,5,6,9,15,16,17]|5=>[0,4,5,6,10,15,16,17]|6=>[6,10]|7=>[0,4,5,6,15,16,17]|8=>[0,4,5,6]|9=>[0,4,5,6]|10=>[6]|11=>[0,4,5,6,32]|12=>[0,4,5,6,32]|13=>[0,4,5,6]|14=>[0,4,5,6,32]|15=>[4,5,6]|16=>[0,4,5,6,32]|17=>[4,5,6]|18=>[0,4,5,6,32]|19=>[0,4,5,6,32]|20=>[0,4,5,6]|21=>[0,4,5,6,32]|22=>[0,4,5,6,32]|23=>[0,4,5,6,32]|24=>[0,4,5,6,32]|25=>[0,4,5,6]|26=>[0,5,6,11,12]|27=>[6,12]|28=>[0,5,6,11]|29=>[5,6,11]|30=>[0,5,6,11]|31=>[5,6,11]|32=>[0,5,6,11]|33=>[5,6,11]|34=>[5,6,11]|1000000=>[0,0,4,5,6]|2000012=>[0,0,4,5,6,32,34]|2000019=>[0,0,4,5,6,32,58]|2000022=>[0,0,4,5,6,68]|_=>[]
def h47:Nat->List Nat|0=>[0,1,2]|1=>[0,4,5,6]|2=>[0,4,5,6,22,23,24]|3=>[0,4,5,6,22,23,24]|4=>[0,4,5,6,9,22,23,24]|5=>[0,4,5,6,10,22,23,24]|6=>[6,10]|7=>[0,4,5,6,22,23,24]|8=>[0,4,5,6]|9=>[6]|10=>[0,4,5,6]|11=>[6]|12=>[0,4,5,6]|13=>[0,4,5,6,11,12]|14=>[6,12]|15=>[0,4,5,6,11]|16=>[0,4,5,6,11,13]|17=>[0,4,5,6,11]|18=>[0,4,5,6,11,13]|19=>[0,4,5,6,13,14]|20=>[0,4,5,6,14,73,74]|21=>[0,4,5,6,14,73,74]|22=>[0,4,5,6,14,15,73,74]|23=>[0,4,5,6,14,15,16,17,73,74]|24=>[0,4,5,6,14,15,16,17,73,74]|25=>[0,4,5,6,14,15,16,17,73,74]|26=>[0,4,5,6,14,15,16,17,73,74]|27=>[0,4,5,6,14,16,17,73,74]|28=>[0,4,5,6,14,18,19,73,74]|29=>[6,19]|30=>[0,4,5,6,14,18,73,74]|31=>[0,4,5,6,14,73,74]|32=>[6,14]|1000000=>[0,0,4,5,6]|1000002=>[0,6,14]|2000017=>[0,0,4,5,6,11,13]|2000024=>[0,0,4,5,6,14,15,16,17,73,74]|2000026=>[0,0,4,5,6,14,16,17,73,74]|_=>[]
def h52:Nat->List Nat|0=>[0,1]|1=>[1,2]|2=>[1,2,5,6]|3=>[6]|4=>[1,2,5]|6=>[1,2]|7=>[1,2,7]|8=>[1,2,7]|9=>[1,2,7]|11=>[1,2]|12=>[1,2,8]|13=>[1,2,8]|14=>[1,2,8]|15=>[1,2,8,9]|16=>[9]|1000000=>[0,1,2]|1000002=>[0]|_=>[]
def h53:Nat->List Nat|0=>[0,1,2]|1=>[1,2,3]|2=>[1,2,3,7]|3=>[1,2,3,7,8]|4=>[1,2,3,7,8]|5=>[1,2,3,7,8]|6=>[1]|7=>[1,2,3,7,8]|8=>[7]|1000000=>[0,7]|_=>[]
def h54:Nat->List Nat|0=>[0,1,2]|1=>[0,2,4]|3=>[0,2,4]|4=>[0,2,4,12]|5=>[4]|6=>[0,2,4,12]|7=>[4]|8=>[0,2,4,12]|9=>[0,2,4,12]|10=>[0,4]|12=>[0,4]|14=>[0,2,4,12]|15=>[0,2,4]|16=>[0,2,4,12]|17=>[0,2,4]|2000009=>[0,0,2,4,12,31]|_=>[]
def h55:Nat->List Nat|0=>[0]|1=>[0]|_=>[]
def h56:Nat->List Nat|0=>[0,1,2]|1=>[0,2,4,6]|2=>[0,4,6]|3=>[2,4,6]|4=>[2,6]|5=>[4,6]|2000002=>[0,2,4,6]|_=>[]
def h57:Nat->List Nat|0=>[0,1]|1=>[0,1,4]|2=>[0,1,4,12,13,14]|3=>[0,1,4,12,13,14]|4=>[0,1,4,6,7,12,13,14]|5=>[0,4,6]|6=>[4]|7=>[0,4,6]|8=>[0,1,4,12,13,14]|9=>[4]|1000000=>[0,4]|1000001=>[0,0,1,4,12,13,14]|_=>[]
def h58:Nat->List Nat|0=>[0,1,2]|1=>[0,4,5,6]|2=>[0,4,5,6,8]|3=>[6,8]|4=>[0,4,5,6]|5=>[0,4,5,6,21]|6=>[0,4,5,6]|7=>[0,4,5,6,21]|8=>[0,4,5,6]|9=>[0,4,5,6,21]|10=>[0,4,5,6]|11=>[0,4,5,6,21]|12=>[0,4,5,6,21]|13=>[0,4,5,6]|14=>[0,4,5,6,21]|15=>[0,4,5,6,21]|16=>[0,4,5,6]|17=>[0,4,5,6]|18=>[0,4,5,6,97,98]|19=>[0,4,5,6,97,98]|20=>[0,4,5,6,9,10,97,98]|21=>[6,10]|22=>[0,4,5,6,9,97,98]|23=>[0,4,5,6,97,98]|24=>[5,6]|1000001=>[0,5,6]|2000012=>[0,0,4,5,6,21,58]|2000015=>[0,0,4,5,6,77]|_=>[]
def h59:Nat->List Nat|0=>[0,1,2,3]|1=>[0,5,6,7,8]|2=>[0,5,6,7,8,10]|3=>[8,10]|4=>[0,5,6,7,8]|5=>[0,5,6,7,8,21]|6=>[0,5,6,7,8]|7=>[0,5,6,7,8,21]|8=>[0,5,6,7,8]|9=>[0,5,6,7,8,21]|10=>[0,5,6,7,8]|11=>[0,5,6,7,8]|_=>[]
def h60:Nat->List Nat|0=>[0]|1=>[1,2]|2=>[1,2]|3=>[1,2]|2000002=>[0,1,2,6000002]|_=>[]
def h69:Nat->List Nat|0=>[0,1]|1=>[0,1]|3=>[0,1]|_=>[]
def h70:Nat->List Nat|0=>[0,1]|1=>[2,3]|2=>[2,3,5]|3=>[2,3]|4=>[2,3,5]|5=>[2,3]|6=>[2,3,5]|7=>[2,3]|8=>[5]|2000003=>[0,2,3,5]|2000007=>[0,5]|_=>[]
def h71:Nat->List Nat|0=>[0]|1=>[1]|_=>[]
def h72:Nat->List Nat|0=>[0,1]|1=>[0,1]|2=>[1,6]|3=>[1]|4=>[1,6]|5=>[1]|6=>[1,6]|7=>[1]|8=>[1]|10=>[1]|_=>[]
def h73:Nat->List Nat|0=>[0]|1=>[0]|2=>[6,7,8]|3=>[6,7,8]|4=>[4,6,7,8]|5=>[5,6,7,8]|6=>[5]|7=>[6,7,8]|1000000=>[0]|_=>[]
def h74:Nat->List Nat|0=>[0,1]|1=>[2,3,4]|2=>[4]|3=>[2,3,4]|4=>[4]|5=>[2,3,4]|6=>[3,4,6]|7=>[3,4,6,7]|8=>[3,4,6,7,30,31]|9=>[3,4,6,7,30,31]|10=>[3,4,6,7,8,30,31]|11=>[3,4,6,7,30,31]|12=>[3,4,6,7]|13=>[4,7]|14=>[4,7,9]|15=>[4,9,46,47,48]|16=>[4,9,46,47,48]|17=>[4,9,11,46,47,48]|18=>[4,9,46,47,48]|19=>[4,9]|1000001=>[0,3,4,6,7]|1000003=>[0,4,9]|_=>[]
def h75:Nat->List Nat|0=>[0]|1=>[1,2]|2=>[1,2]|3=>[1,2]|4=>[1,2]|5=>[1,2,3]|6=>[1,2,3,4]|7=>[2,3,4,20,21,22]|8=>[2,3,4,20,21,22]|9=>[2,3,4,6,20,21,22]|10=>[2,3,4,6,20,21,22]|11=>[2,3,4,6,20,21,22]|12=>[2,3,4,20,21,22]|13=>[2,3,4]|14=>[2,4]|1000000=>[0,2,3,4]|1000001=>[0,2,3,4,20,21,22]|2000003=>[0,1,2,6000000]|_=>[]
def h76:Nat->List Nat|0=>[0]|1=>[1,2]|2=>[2]|3=>[1,2]|4=>[2]|5=>[1,2]|6=>[2]|7=>[1,2]|8=>[2,4]|9=>[2,4,46,47]|10=>[2,4,46,47]|11=>[2,4,5,46,47]|12=>[2,4,46,47]|13=>[2,4]|1000001=>[0,2,4]|_=>[]
def h77:Nat->List Nat|0=>[0]|1=>[0,2]|_=>[]
def h78:Nat->List Nat|0=>[0]|1=>[1]|3=>[1]|_=>[]
def h79:Nat->List Nat|0=>[0,1]|1=>[1,2,4]|2=>[2,4]|3=>[1,2,4]|4=>[1,2,4,5]|5=>[1,2,4,5,21,22,23]|6=>[1,2,4,5,21,22,23]|7=>[1,2,4,5,7,21,22,23]|8=>[1,2,4,5,21,22,23]|9=>[1,2,4,5]|10=>[2,4,5,8]|11=>[2,4,5,8,9]|12=>[2,4,5,8,9,10]|13=>[2,4,5,8,9,10]|14=>[2,4,5,8,9,10]|15=>[2,4,5,8,9,10,11]|16=>[2,4,5,8,9,10,11]|17=>[2,4,5,8,9,10,11]|18=>[2,4,9]|1000000=>[0,1,2,4,5]|1000002=>[0,2,4,9]|1000004=>[0,2,4,5,8,9,10]|_=>[]
def h80:Nat->List Nat|0=>[0]|1=>[1,2]|2=>[1,2,3]|3=>[1,2,3]|4=>[1,2,3,4]|5=>[1,2,3,4,21,22]|6=>[1,2,3,4,21,22]|7=>[1,2,3,4,5,21,22]|8=>[1,2,3,4,5,21,22,25,26]|9=>[1,2,3,4,5,21,22,25,26]|10=>[1,2,3,4,5,6,21,22,25,26]|11=>[1,2,3,4,5,21,22,25,26]|12=>[1,2,3,4,5,21,22]|13=>[1,2,3,4,21,22]|14=>[1,2,3,4,7,21,22]|15=>[1,2,3,4,7,21,22]|16=>[1,2,3,4,7,21,22]|17=>[1,2,3,4,7,21,22]|18=>[1,2,3,4,7,21,22]|19=>[1,2,3,4,21,22]|20=>[2,3]|1000000=>[0,2,3]|1000001=>[0,1,2,3,4,21,22]|1000002=>[0,1,2,3,4,5,21,22]|1000004=>[0,1,2,3,4,21,22]|_=>[]
def h81:Nat->List Nat|0=>[0]|1=>[1]|2=>[1,3]|3=>[3,7,8,9]|4=>[3,7,8,9]|5=>[3,5,7,8,9]|6=>[3,5,7,8,9]|7=>[3,7,8,9]|8=>[3]|1000000=>[0,3]|1000001=>[0,3,7,8,9]|_=>[]
def h82:Nat->List Nat|0=>[0]|1=>[1,2]|2=>[2]|3=>[1,2]|4=>[1,2]|5=>[1,2]|_=>[]
def h83:Nat->List Nat|0=>[0]|1=>[1,2]|2=>[1,2]|3=>[1,2]|4=>[2]|5=>[1,2]|_=>[]
def h95:Nat->List Nat|0=>[0]|1=>[1]|3=>[1]|4=>[1,4]|5=>[4,16,17,18]|6=>[4,16,17,18]|7=>[4,6,16,17,18]|9=>[4,6,16,17,18]|10=>[4,16,17,18]|11=>[4]|13=>[4]|15=>[4]|1000000=>[0,4]|_=>[]
def h96:Nat->List Nat|0=>[0]|1=>[0]|3=>[0]|4=>[0,4,5]|5=>[0,4,5,13,14,15]|6=>[0,4,5,13,14,15]|7=>[0,4,5,7,13,14,15]|9=>[0,4,5,7,13,14,15]|10=>[0,4,5,13,14,15]|11=>[0,4,5]|13=>[0,4]|14=>[4,28,29,30]|15=>[4,28,29,30]|16=>[4,9,28,29,30]|18=>[4,9,28,29,30]|19=>[4,28,29,30]|20=>[4]|1000000=>[0,0,4,5]|1000001=>[0,0,4,5,13,14,15]|1000002=>[0,4]|_=>[]
def h98:Nat->List Nat|0=>[0,1]|1=>[0,3]|2=>[0,5]|3=>[5]|4=>[0]|_=>[]
def h99:Nat->List Nat|0=>[0,1,2]|1=>[2,3,4,6]|2=>[3,4,6,8,9]|3=>[6,9]|4=>[3,4,6,8,14000000]|5=>[12004001,3,4,6,8,10]|6=>[8004000,3,4,6,8,10]|7=>[3,4,6,8,10,12]|8=>[6]|9=>[3,4,6,8,10]|10=>[3,4,6,8,10,13]|11=>[3,4,6,8,10,13,73,74,75]|12=>[3,4,6,8,10,13,73,74,75]|13=>[3,4,6,8,10,13,15,73,74,75]|14=>[3,4,6,8,10,13,73,74,75]|15=>[3,4,6,8,10,13]|16=>[3,4,6,8,10,16,17]|17=>[3,4,6,8,10,16,17,18]|18=>[3,4,6,10,16,17,18,100,101,102]|19=>[3,4,6,10,16,17,18,100,101,102]|20=>[3,4,6,10,16,17,18,20,100,101,102]|21=>[3,4,6,10,16,17,18,100,101,102]|22=>[3,4,6,10,16,17,18]|23=>[3,4,6,10,16,17,110,111]|24=>[3,4,6,10,16,17,110,111]|25=>[3,4,6,10,16,17,21,110,111]|26=>[3,4,6,10,16,17,110,111]|27=>[6,10]|1000000=>[0,3,4,6,8,10,13]|1000002=>[0,3,4,6,10,16,17,18]|1000004=>[0,6,10]|_=>[]
def BjY:Nat->List Nat|0=>[0,1]|1=>[2,3,4]|2=>[4]|3=>[2,3,4]|4=>[2,3,4,31,32,33]|5=>[2,3,4,31,32,33]|6=>[2,3,4,7,31,32,33]|7=>[4]|8=>[2,3,4,7,31,32,33]|9=>[4]|10=>[2,3,4,31,32,33]|11=>[2,3,4]|12=>[2,3,4,8]|13=>[2,3,4,8,10]|14=>[4,10]|15=>[2,3,4,8]|16=>[2,3,4,8,11]|17=>[3,4,8,11,79,80,81]|18=>[3,4,8,11,79,80,81]|19=>[3,4,8,11,13,79,80,81]|20=>[3,4,8,11,79,80,81]|21=>[4,8]|1000000=>[0,2,3,4]|1000003=>[0,4,8]|_=>[]
def BjZ:Nat->List Nat|0=>[0,1,2]|1=>[2,3,4,6]|2=>[2,3,4,6]|3=>[2,3,4,6,8]|4=>[3,4,6]|5=>[3,4,6,8]|6=>[4,6,8,9,10]|7=>[6,10]|8=>[4,6,8,9,14000000]|9=>[12016001,4,6,8,9,11]|10=>[4,6,8,9,11]|11=>[4,6,8,9,11,52,53,54]|12=>[4,6,8,9,11,52,53,54]|13=>[4,6,8,9,11,13,52,53,54]|14=>[4,6,8,9,11,52,53,54]|15=>[8016000,4,6,8,9,11]|16=>[4,6,8,9,11,15]|17=>[6,15]|18=>[4,6,8,9,11]|19=>[4,6,8,9,11,16]|20=>[4,6,9,11,16,81,82,83]|21=>[4,6,9,11,16,81,82,83]|22=>[4,6,9,11,16,18,81,82,83]|23=>[4,6,9,11,16,81,82,83]|24=>[4,6,9,11,16]|25=>[4,6,9,11,16,19]|26=>[4,6,9,11,16,19]|27=>[4,6,9,11,16,19]|28=>[4,6,9,11,16,19,102,103,104]|29=>[4,6,9,11,16,19,102,103,104]|30=>[4,6,9,11,16,19,20,21,102,103,104]|31=>[4,6,9,11,16,19,20,102,103,104,109,110]|32=>[4,6,9,11,16,19,20,102,103,104,109,110]|33=>[4,6,9,11,16,19,20,102,103,104,109,110]|34=>[4,6,9,11,16,19,102,103,104]|35=>[6,11]|1000000=>[0,4,6,8,9,11]|1000002=>[0,4,6,9,11,16]|1000004=>[0,6,11]|1000006=>[0,4,6,9,11,16,19]|1000008=>[0,4,6,9,11,16,19,102,103,104]|2000004=>[0,3,4,6,8]|_=>[]
def Bk0:Nat->List Nat|0=>[0]|1=>[1]|3=>[1]|5=>[1]|_=>[]
def Bk1:Nat->List Nat|0=>[0,1]|1=>[0,3,4]|2=>[0,3,4]|3=>[4]|4=>[0,3,4]|5=>[0,3,4,6,7]|6=>[0,3,4,6,7,8]|7=>[0,3,4,6,7,8,10]|8=>[4,10]|9=>[0,3,4,6,7,8]|10=>[0,3,4,6,7]|11=>[3,4,6,7]|12=>[3,4,6]|13=>[0,3,4,6,7,8]|14=>[0,3,4,6,7,8,11,12]|15=>[4,12]|16=>[0,3,4,6,7,8,11]|17=>[0,3,4,8,11,13]|18=>[0,3,4,8,11,13,78,79]|19=>[0,3,4,8,11,13,78,79]|20=>[0,3,4,8,11,13,14,78,79]|21=>[0,3,4,8,11,13,78,79]|22=>[0,3,4,8,13]|23=>[3,4,8,13,14000000]|24=>[7000013,3,4,8,13]|1000000=>[0,0,3,4,8,13]|_=>[]
def Bk2:Nat->List Nat|0=>[0,1]|1=>[0,3,4]|2=>[0,3,4]|3=>[0,3,4,5]|4=>[3,4]|5=>[0,3,4,5]|6=>[0,3,4,5]|7=>[0,3,4,5]|_=>[]
def Bk3:Nat->List Nat|0=>[0,1,2]|1=>[0,2,4,6]|2=>[4,6]|3=>[0,2,4,6]|4=>[0,2,4,6,7]|5=>[0,2,4,6,7,30,31,32]|6=>[0,2,4,6,7,30,31,32]|7=>[0,2,4,6,7,9,30,31,32]|8=>[0,2,4,6,7,30,31,32]|9=>[0,2,4,6,7]|10=>[0,4,6,7,10]|11=>[4,6,7,10,11]|12=>[4,6,7,10,11]|13=>[4,6,7,10,11]|14=>[4,6,7,10,11,12]|15=>[4,6,7,10,11,12,13]|16=>[4,6,7,10,11,12,13]|17=>[4,6,7,10,11,12,13]|18=>[4,6,7,10,11,12,13,14]|19=>[4,6,7,10,11,12,13,14]|20=>[6,12]|1000000=>[0,0,2,4,6,7]|1000002=>[0,6,12]|2000012=>[0,4,6,7,10,11]|_=>[]
def Bk4:Nat->List Nat|0=>[0]|1=>[0]|_=>[]
def Bk5:Nat->List Nat|0=>[0,1]|1=>[0,1]|2=>[1]|3=>[0,1]|4=>[0]|5=>[0,1]|7=>[0,1]|8=>[0,1,26,27]|9=>[0,1,26,27]|10=>[0,1,6,26,27]|12=>[0,1,26,27]|13=>[0]|1000001=>[0,0]|_=>[]
def Bk6:Nat->List Nat|0=>[0,1,2]|1=>[0,4,5,6]|2=>[0,4,5,6,8]|3=>[6]|4=>[0,4,5,6,8]|5=>[6]|6=>[0,4,5,6,8]|7=>[0,6]|8=>[0,4,5,6,8]|9=>[6]|10=>[0,4,5,6]|11=>[0,4,5,6]|12=>[0,4,5,6]|13=>[6,9,10]|1000000=>[0,0,4,5,6]|_=>[]
def Bk7:Nat->List Nat|0=>[0]|1=>[0]|3=>[0]|4=>[0,4]|5=>[0,4,5]|6=>[0,4,5]|7=>[0,4,5]|9=>[0,4,5]|10=>[0,5]|11=>[0,4]|13=>[0]|14=>[0,6]|15=>[0,6,7]|16=>[0,6,7]|17=>[0,6,7]|19=>[0,6,7]|20=>[0,6,7]|22=>[6]|1000000=>[0,0,4]|1000001=>[0,0,4,5]|1000002=>[0,6]|_=>[]
def Bk8:Nat->List Nat|0=>[0,1]|1=>[1,2]|2=>[1,2]|4=>[1,2]|5=>[2]|7=>[2]|_=>[]
def Bk9:Nat->List Nat|0=>[0,1]|1=>[0,1]|2=>[0,1]|_=>[]
def BkA:Nat->List Nat|0=>[0,1,2,3,4]|1=>[1,2,3,4,5]|_=>[]
def BkB:Nat->List Nat|0=>[0]|1=>[1]|3=>[1]|4=>[1,27,28,29]|5=>[1,27,28,29]|6=>[1,4,27,28,29]|8=>[1,27,28,29]|1000000=>[0]|1000001=>[0,1,27,28,29]|_=>[]
def BkC:Nat->List Nat|0=>[0]|1=>[0]|2=>[0,6,7]|3=>[0,6,7]|4=>[0,3,6,7]|5=>[0,3,4,6,7]|7=>[0,6,7]|8=>[0]|1000000=>[0,0]|1000001=>[0,0,6,7]|_=>[]
def BkD:Nat->List Nat|0=>[0,1,2]|1=>[0,2,4]|3=>[0,2,4]|4=>[0,2,4,12]|5=>[4]|6=>[0,2,4,12]|7=>[0,2,4]|8=>[0,2,4,12]|9=>[0,2,4,12]|10=>[0,2,4,12]|11=>[0,2,4,12]|12=>[0,2,4]|13=>[0,2,4,12]|14=>[0,2,4]|15=>[0,2,4,12]|16=>[0,2,4]|2000009=>[0,0,2,4,12,33]|_=>[]
def BkE:Nat->List Nat|0=>[0,1,2]|1=>[0,2,4]|2=>[0,2,4,8]|3=>[0,2,4]|4=>[0,2,4,8]|5=>[0,2,4]|6=>[0,2,4]|_=>[]
def BkF:Nat->List Nat|0=>[0,1]|1=>[0,1]|3=>[0,1]|_=>[]
def BkG:Nat->List Nat|0=>[0,1]|1=>[0,3]|_=>[]
def BkH:Nat->List Nat|0=>[0,1,2]|1=>[2,3,4,6]|2=>[2,3,4,6,8]|3=>[6,8]|4=>[2,3,4,6]|5=>[4,6]|6=>[2,3,4,6]|7=>[3,4,6,9]|8=>[3,4,6,9,10]|9=>[3,4,6,9,10,12]|10=>[6,12]|11=>[3,4,6,9,10]|12=>[3,4,6,10,13,14,15]|13=>[3,4,6,10,14,15,63,64]|14=>[3,4,6,10,14,15,63,64]|15=>[3,4,6,10,14,15,16,63,64]|16=>[3,4,6,10,14,15,16,63,64,67,68]|17=>[3,4,6,10,14,15,16,63,64,67,68]|18=>[3,4,6,10,14,15,16,17,63,64,67,68]|19=>[3,4,6,10,14,15,16,18,19,63,64,67,68]|20=>[6,19]|21=>[3,4,6,10,14,15,16,18,63,64,67,68]|22=>[3,4,6,10,14,15,16,63,64,67,68]|23=>[3,4,6,10,14,15,63,64]|24=>[6,10]|1000000=>[0,6,10]|1000002=>[0,3,4,6,10,14,15,63,64]|_=>[]
def BkI:Nat->List Nat|0=>[0]|1=>[1,2]|2=>[1,2]|3=>[1,2]|_=>[]
def BkJ:Nat->List Nat|0=>[0,1,2]|1=>[2,3,4,6]|2=>[2,3,4,6,8]|3=>[6,8]|4=>[2,3,4,6,14000000]|5=>[2,3,4,6,9]|6=>[6,9]|7=>[2,3,4,6,9]|8=>[3,4,6,9,10,11,12]|9=>[3,4,6,9,11,12,45,46]|10=>[3,4,6,9,11,12,45,46]|11=>[3,4,6,9,11,12,13,45,46]|12=>[3,4,6,9,11,12,13,45,46,49,50]|13=>[3,4,6,9,11,12,13,45,46,49,50]|14=>[3,4,6,9,11,12,13,14,45,46,49,50]|15=>[3,4,6,9,11,12,13,15,45,46,49,50]|16=>[3,4,6,9,11,12,13,15,16,45,46,49,50]|17=>[3,4,6,9,11,12,13,15,16,17,45,46,49,50]|18=>[3,4,6,9,11,12,13,15,16,17,45,46,49,50]|19=>[3,4,6,9,11,12,13,15,16,17,45,46,49,50]|20=>[3,4,6,9,11,12,13,15,16,17,18,19,45,46,49,50]|21=>[6,19]|22=>[3,4,6,9,11,12,13,15,16,17,18,45,46,49,50]|23=>[3,4,6,9,11,12,13,45,46,49,50]|24=>[3,4,6,9,11,12,45,46]|25=>[6,9]|1000000=>[0,6,9]|1000002=>[0,3,4,6,9,11,12,45,46]|1000004=>[0,3,4,6,9,11,12,13,45,46,49,50]|_=>[]
def BkK:Nat->List Nat|0=>[0,1,2]|1=>[3,4,5,6]|2=>[3,4,5,6,8]|3=>[6,8]|4=>[3,4,5,6]|5=>[8011000,3,4,5,6,9]|6=>[3,4,5,6,9,11]|7=>[6,11]|8=>[3,4,5,6,9]|9=>[3,5,6,9,45,46,47]|10=>[3,5,6,9,45,46,47]|11=>[3,5,6,9,13,45,46,47]|12=>[3,5,6,9,13,45,46,47,52,53,54]|13=>[3,5,6,9,13,45,46,47,52,53,54]|14=>[3,5,6,9,13,15,45,46,47,52,53,54]|15=>[3,5,6,9,13,16,17,45,46,47,52,53,54]|16=>[6,17]|17=>[3,5,6,9,13,16,45,46,47,52,53,54]|18=>[3,5,6,9,13,45,46,47,52,53,54]|19=>[3,5,6,9,45,46,47]|20=>[6,9]|1000000=>[0,6,9]|1000002=>[0,3,5,6,9,45,46,47]|_=>[]
def BkL:Nat->List Nat|0=>[0,1]|1=>[1,2]|2=>[1,2,5,6]|3=>[6]|4=>[1,2,5]|6=>[1,2]|7=>[1,2,27,28,29]|8=>[1,2,27,28,29]|9=>[1,2,8,27,28,29]|11=>[1,2,27,28,29]|12=>[1,2]|13=>[1,37,38,39]|14=>[1,37,38,39]|15=>[1,10,37,38,39]|16=>[1,10,37,38,39]|18=>[1,10,37,38,39]|19=>[1,11,37,38,39]|20=>[11]|21=>[1,10,37,38,39]|23=>[1,37,38,39]|1000000=>[0,1,2]|1000002=>[0]|1000003=>[0,1,37,38,39]|_=>[]
def BkM:Nat->List Nat|0=>[0]|1=>[0]|_=>[]
def BkN:Nat->List Nat|0=>[0]|1=>[0]|3=>[0]|_=>[]
def BkO:Nat->List Nat|0=>[0]|1=>[0]|2=>[0]|3=>[0]|_=>[]
def BkP:Nat->List Nat|0=>[0]|1=>[0]|2=>[0,5,6,7]|3=>[0,5,6,7]|4=>[0,4,5,6,7]|6=>[0,5,6,7]|1000000=>[0]|_=>[]
def BkQ:Nat->List Nat|0=>[0]|1=>[1]|2=>[1,3]|4=>[1,3]|5=>[1,3,4]|6=>[1,3,4,22,23]|7=>[1,3,4,22,23]|8=>[1,3,4,5,22,23]|9=>[1,3,4,22,23]|10=>[3]|1000000=>[0,3]|_=>[]
def BkR:Nat->List Nat|0=>[0,1]|_=>[]
def BkS:Nat->List Nat|0=>[0,1,2,3]|1=>[0,1,2,3]|2=>[3,7]|3=>[7]|4=>[7]|_=>[]
def BkT:Nat->List Nat|0=>[0,1,2]|1=>[0,1,2]|2=>[0,1,2,11,12,13]|3=>[0,1,2,11,12,13]|4=>[0,1,2,7,8,11,12,13]|6=>[0,1,2,7,8,11,12,13]|7=>[0,1,2,8,9,11,12,13]|8=>[0,1,2,10,11,12,13]|9=>[10]|10=>[0,1,2,11,12,13]|11=>[0,1]|1000000=>[0,0,1]|_=>[]
def BkU:Nat->List Nat|0=>[0,1]|1=>[2,3]|2=>[2,3,5]|3=>[5]|4=>[2,3]|5=>[2,3,6]|6=>[2,3,6]|7=>[2,3]|8=>[6]|9=>[2,3]|_=>[]
def BkV:Nat->List Nat|0=>[0,1]|1=>[0,1]|_=>[]
def BkW:Nat->List Nat|0=>[0,1]|1=>[0,1]|_=>[]
def BkX:Nat->List Nat|0=>[0]|1=>[0]|2=>[0]|3=>[0]|4=>[0,3]|5=>[0,3,4]|6=>[0,3,4]|7=>[0,3,4]|8=>[3]|1000000=>[0,3]|_=>[]
def BkY:Nat->List Nat|0=>[0,1]|1=>[0,1]|2=>[0,1,7,8]|3=>[0,1,7,8]|4=>[0,1,5,7,8]|5=>[5]|6=>[0,1,7,8]|1000000=>[0]|_=>[]
def BkZ:Nat->List Nat|0=>[0,1]|1=>[1,2]|_=>[]
def Bl0:Nat->List Nat|0=>[0,1,2]|1=>[2,3,4,6,7]|2=>[3,4,6,7]|3=>[2,3,4,6,7]|4=>[2,3,4,6,7,10]|5=>[3,4,6,7]|6=>[3,4,6,7,10]|7=>[3,4,6,7,10,11]|8=>[3,4,6,7,10]|9=>[3,4,6,7,10,11]|10=>[3,4,6,7,10]|11=>[3,4,6,7,10,11]|12=>[3,4,6,7,10]|13=>[3,4,6,7,10,11]|14=>[3,4,6,7,10]|15=>[3,4,6,7,10,11]|16=>[3,4,6,7]|17=>[3,4,6,7,10]|18=>[3,4,6,7,10,12,13]|19=>[3,4,6,7,10,12,13,101,102]|20=>[3,4,6,7,10,12,13,101,102]|21=>[3,4,6,7,10,12,13,14,101,102]|22=>[3,4,6,7]|23=>[3,4,6,7,10,12,13,101,102]|24=>[3,4,6,7,10]|1000000=>[0,3,4,6,7,10]|1000001=>[0,3,4,6,7,10]|2000005=>[0,3,4,6,7,10]|_=>[]
def Bl1:Nat->List Nat|0=>[0]|1=>[1]|2=>[1,3]|3=>[3,8,9,10]|4=>[3,8,9,10]|5=>[3,5,8,9,10]|6=>[3,8,9,10]|7=>[3]|1000000=>[0,3]|_=>[]
def Bl2:Nat->List Nat|0=>[0]|1=>[1,2]|2=>[1,2]|3=>[1,2]|2000002=>[0,1,2,6000000]|_=>[]
def Bl3:Nat->List Nat|0=>[0,1]|1=>[1,2]|3=>[1,2]|4=>[1,2,17,18,19]|5=>[1,2,17,18,19]|6=>[1,2,7,17,18,19]|8=>[1,2,17,18,19]|9=>[1,2]|11=>[1,2]|12=>[2,8,9]|13=>[2,8,9,46,47]|14=>[2,8,9,46,47]|15=>[2,8,9,10,46,47]|16=>[2,8,9,10,11,46,47]|17=>[2,8,9,10,11,46,47]|18=>[2,8,9,10,11,46,47]|20=>[2,8,9,10,11,46,47]|21=>[2,8,9,10,46,47]|22=>[2,8,9,46,47]|23=>[7000008,8]|1000000=>[0,1,2]|1000002=>[0,8]|2000017=>[0,2,8,9,10,11,46,47]|_=>[]
def Bl4:Nat->List Nat|0=>[0,1,2]|1=>[1,2,3,6]|2=>[1,2,3,6,7]|3=>[1,2,3,6,7,8]|4=>[6,8]|_=>[]
def Bl5:Nat->List Nat|0=>[0]|1=>[1,2]|2=>[2]|3=>[1,2]|4=>[2]|5=>[2]|_=>[]
def Bl6:Nat->List Nat|0=>[0]|1=>[0]|_=>[]
def Bl7:Nat->List Nat|0=>[0,1,2]|1=>[0,1,2]|2=>[1,2,8]|3=>[1,2]|4=>[1,2,8]|5=>[1,2]|6=>[1,2,8]|7=>[1,2]|8=>[1,2,8]|9=>[1,2]|10=>[1,2,8]|11=>[1,2]|12=>[1,2]|_=>[]
def Bl8:Nat->List Nat|0=>[0]|1=>[0]|_=>[]
def Bl9:Nat->List Nat|0=>[0,1,2]|1=>[0,2,4]|3=>[0,2,4]|4=>[0,2,4,7]|5=>[0,2,4,7]|6=>[0,4,7,8]|7=>[0,4,7,8,9,10]|8=>[4,8,9,10]|9=>[8,9]|10=>[8,9,10]|_=>[]
def BlA:Nat->List Nat|0=>[0,1,2]|1=>[0,2,4]|2=>[0,2,4]|4=>[0,2,4]|5=>[0,2,4]|2000002=>[0,0,2,4]|_=>[]
def BlB:Nat->List Nat|0=>[0,1,2]|1=>[0,2,4]|3=>[0,2,4]|4=>[0,2,7]|_=>[]
def BlC:Nat->List Nat|0=>[0,1,2]|1=>[0,2,4]|3=>[0,2,4]|4=>[0,2,4,12]|5=>[4]|6=>[0,2,4,12]|7=>[0,2,4]|_=>[]
def BlD:Nat->List Nat|0=>[0]|1=>[1]|2=>[1,3]|3=>[3,12,13,14]|4=>[3,12,13,14]|5=>[3,5,12,13,14]|6=>[3,12,13,14,19,20,21]|7=>[3,12,13,14,19,20,21]|8=>[3,7,12,13,14,19,20,21]|9=>[3,12,13,14,19,20,21]|10=>[3,12,13,14]|11=>[3]|1000000=>[0,3]|1000002=>[0,3,12,13,14]|_=>[]
def BlE:Nat->List Nat|0=>[0,1]|1=>[1,2]|2=>[2,8,9,10]|3=>[2,8,9,10]|4=>[2,6,8,9,10]|5=>[2,7,8,9,10]|6=>[7]|7=>[2,8,9,10]|8=>[2]|1000000=>[0,2]|_=>[]
def BlF:Nat->List Nat|0=>[0,1]|1=>[1,2]|2=>[2]|_=>[]
def BlG:Nat->List Nat|0=>[0,1]|1=>[0,1]|2=>[0,1,4,5]|3=>[0,1,4,5,13,14,15]|4=>[0,1,4,5,13,14,15]|5=>[0,1,4,5,8,13,14,15]|6=>[0,1,4,5,13,14,15]|7=>[0,1,4,5]|8=>[0,1,4,5,26,27,28]|9=>[0,1,4,5,26,27,28]|10=>[0,1,4,5,10,26,27,28]|11=>[0,1,4,5,26,27,28]|12=>[0,1,4,5]|1000000=>[0,0,1,4,5]|1000002=>[0,0,1,4,5]|_=>[]
def BlH:Nat->List Nat|0=>[0,1]|1=>[1,2,4]|2=>[1,4]|3=>[1,2,4]|4=>[4]|5=>[1,2,4]|6=>[4]|7=>[1,2,4]|8=>[4]|9=>[1,2,4]|10=>[1,2,4]|11=>[2,4,6,7]|12=>[4,7]|13=>[2,4,6]|14=>[2,4,6,8]|15=>[4,6]|16=>[4,6,8]|17=>[4,7,9]|18=>[1,2,4]|19=>[1,4,10]|20=>[1,4,10,11]|21=>[1,4,10,11,13]|22=>[1,4,10,11,13]|23=>[1,4,10,11,13]|24=>[1,4,10,11,12,13]|25=>[4,12]|26=>[4,11]|1000000=>[0,1,2,4]|1000001=>[0,4,11]|_=>[]
def BlI:Nat->List Nat|0=>[0,1,2,3]|1=>[0,1,2,3]|2=>[0,1,2,3,9]|3=>[0,1,2,9,13,14]|4=>[0,1,2,9,13,14]|5=>[0,1,2,9,10,13,14]|6=>[0,1,2,9,13,14]|7=>[9]|1000000=>[0,9]|_=>[]
def BlJ:Nat->List Nat|0=>[0,1,2]|1=>[3,4,5,6]|2=>[3,4,5,6]|3=>[3,4,5,6]|2000002=>[0,3,4,5,6]|_=>[]
def BlK:Nat->List Nat|0=>[0]|1=>[0]|_=>[]
def BlL:Nat->List Nat|0=>[0,1]|1=>[0,1]|3=>[0,1]|_=>[]
def BlM:Nat->List Nat|0=>[0,1,2]|1=>[0,1,2,6]|2=>[0,1,2,6,7,8]|3=>[0,1,2,6,7,8]|4=>[0,1,2,6,8]|5=>[0,1,2,6,7,8]|6=>[0,1,2,6,7]|7=>[0,1,2,6]|8=>[0,1,2,6]|9=>[0,1,2,6,7,8]|10=>[0,1,2,6,7,8]|11=>[0,1,2,6,8]|12=>[0,1,2,6,7,8]|13=>[0,1,2,6,7]|14=>[0,1,2,6,7,9]|15=>[0,1,2,6,7,9]|16=>[0,1,2,6]|1000000=>[0,0,1,2,6,7]|1000002=>[0]|1000004=>[0,0,1,2,6,7]|2000015=>[0,0,1,2,6]|_=>[]
def BlN:Nat->List Nat|0=>[0,1]|1=>[0,1]|3=>[0,1]|_=>[]
def BlO:Nat->List Nat|0=>[0,1]|1=>[0,1]|3=>[0,1]|_=>[]
def BlP:Nat->List Nat|0=>[0,1]|1=>[2,3]|2=>[2,3,5]|3=>[2,3,5,6]|4=>[6]|5=>[2,3,5]|6=>[2,3,5,7]|7=>[7]|8=>[2,3,5]|9=>[2,3,8]|10=>[8]|11=>[2,3]|_=>[]
def BlQ:Nat->List Nat|0=>[0,1]|1=>[0,1]|2=>[0,1,7,8]|3=>[0,1,7,8]|4=>[0,1,5,7,8]|5=>[5]|6=>[0,1,7,8]|1000000=>[0]|_=>[]
def BlR:Nat->List Nat|0=>[0,1]|1=>[1,2,4]|2=>[1,2,4,5]|3=>[2,4,5,7]|4=>[2,4,7,15,16]|5=>[2,4,7,15,16]|6=>[2,4,7,15,16]|7=>[4,7]|1000000=>[0,4,7]|_=>[]
def BlS:Nat->List Nat|0=>[0,1]|1=>[0,1]|_=>[]
def BlT:Nat->List Nat|0=>[0,1]|1=>[0,1]|_=>[]
def BlU:Nat->List Nat|0=>[0,1]|1=>[0,1]|3=>[0,1]|_=>[]
def BlV:Nat->List Nat|0=>[0,1]|1=>[0,1]|_=>[]
def BlW:Nat->List Nat|0=>[0,1]|1=>[0,1]|2=>[1]|3=>[0,1]|5=>[0,1]|6=>[0,5]|7=>[0,5]|8=>[5]|2000007=>[0,5]|_=>[]
def BlX:Nat->List Nat|0=>[0]|1=>[0]|_=>[]
def BlY:Nat->List Nat|0=>[0]|1=>[0]|2=>[0,4]|3=>[4,10,11,12]|4=>[4,10,11,12]|5=>[4,5,6,10,11,12]|7=>[4,5,6,10,11,12]|8=>[4,10,11,12]|9=>[7000004,4]|1000000=>[0,4]|_=>[]
def BlZ:Nat->List Nat|0=>[0]|1=>[0]|2=>[0,4,5]|3=>[0,4,5,10,11]|4=>[0,4,5,10,11]|5=>[0,4,5,6,10,11]|6=>[0,4,5,7,8,10,11]|7=>[0,4,5,7,10,11]|8=>[0,4,5,7,10,11]|9=>[0,4,5,10,11]|10=>[4,5]|11=>[4,5]|12=>[5]|13=>[4,5]|14=>[4]|1000000=>[0,4,5]|1000001=>[0,0,4,5,10,11]|_=>[]
def Bm0:Nat->List Nat|0=>[0]|1=>[0]|2=>[0,4,5]|3=>[0,4,5,6]|4=>[0,4,5,6,11,12]|5=>[0,4,5,6,11,12]|6=>[0,4,5,6,7,11,12]|7=>[0,4,5,6,8,9,11,12]|9=>[0,4,5,6,8,9,11,12]|10=>[0,4,5,6,8,11,12]|11=>[0,4,5,11,12]|12=>[0,4,5,6,8,11,12]|13=>[0,4,5,6,11,12]|14=>[4,5,6]|16=>[4,5]|1000000=>[0,4,5,6]|1000001=>[0,0,4,5,6,11,12]|_=>[]
def Bm1:Nat->List Nat|0=>[0,1,2,3]|1=>[0,1,2,3,8]|2=>[0,1,2,3,8]|3=>[0,1,2,3,8]|4=>[0,1,2,3,8,9]|5=>[0,1,2,3,8,9]|6=>[0,1,2,3,8,9]|1000000=>[0]|1000002=>[0,0,1,2,3,8]|_=>[]
def Bm2:Nat->List Nat|0=>[0,1,2,3,4]|1=>[0,1,2,3,4]|2=>[0,1,3,4,10]|3=>[0,1,4,10,11]|4=>[0,1,4,10,11]|5=>[0,1,4,10,11,12]|6=>[0,1,4,11,12]|7=>[0,1,4,10,12]|8=>[0,1,10]|9=>[0,10,13]|10=>[0,10,13]|11=>[0,10,13]|12=>[0,1,2,3,4]|13=>[0,1,2,4]|14=>[0,2,4,14]|15=>[0,2,4,14,15]|16=>[0,2,4,14,15]|17=>[0,2,4,14,15,16]|18=>[0,2,4,15,16]|19=>[0,2,4,14,16]|20=>[0,2,14]|21=>[0,14,17]|22=>[0,14,17]|23=>[0,14,17]|24=>[0,1,2,3,4]|25=>[0,1,2,3,4,18]|26=>[0,1,2,3,4,18,19]|27=>[0,1,2,3,4,18,19]|28=>[0,1,2,3,4,18,19]|29=>[0,1,2,3,4,18,19,20]|30=>[0,1,2,3,4,18,19]|31=>[0,1,2,3,4,18,19,20]|32=>[0,1,2,3,4,18,19,20,21]|33=>[0,1,2,3,4,18,19,20,21,22]|34=>[0,1,2,3,4,18,19,20,21,22]|35=>[0,1,2,3,4,18,19,20,21,22,23]|36=>[0,1,2,3,4,18,19,21,22,23]|37=>[0,1,2,3,4,18,19,20,22,23]|38=>[0,1,2,3,4,18,19,20]|39=>[0,1,2,3,4,18,20,24]|40=>[0,1,2,3,4,18,20,24]|41=>[0,1,3,4,18,20,24]|42=>[0,1,3,4,18,20,24]|43=>[0,3,4,18,24]|44=>[0,3,4,18,24]|1000000=>[0,0,1,10]|1000002=>[0]|1000004=>[0,0,2,14]|1000006=>[0]|1000008=>[0,0,1,2,3,4,18,19,20]|2000028=>[0,0,1,2,3,4,18,19,20,21]|2000040=>[0,0,1,3,4,18,20,24]|2000042=>[0,0,3,4,18,24]|_=>[]
def Bm3:Nat->List Nat|0=>[0,1]|1=>[0,1]|2=>[1,7,8]|3=>[1,7,8]|4=>[1,5,7,8]|5=>[1,6,7,8]|6=>[6]|7=>[1,7,8]|1000000=>[0]|_=>[]
def Bm4:Nat->List Nat|0=>[0,1,2]|1=>[0,1,2]|_=>[]
def Bm5:Nat->List Nat|0=>[0,1,2]|1=>[0,1,2]|_=>[]
def Bm6:Nat->List Nat|0=>[0]|1=>[0]|2=>[0]|3=>[0]|_=>[]
def Bm7:Nat->List Nat|0=>[0,1]|1=>[0,1]|2=>[0]|_=>[]
def Bm8:Nat->List Nat|0=>[0,1]|1=>[2,3]|_=>[]
def Bm9:Nat->List Nat|0=>[0,1]|1=>[0,3]|2=>[0,3]|3=>[0,3]|2000002=>[0,0,3]|_=>[]
def BmA:Nat->List Nat|0=>[0,1]|1=>[1,2]|2=>[2]|5=>[1,2]|_=>[]
def BmB:Nat->List Nat|0=>[0,1]|1=>[0,1]|2=>[0]|3=>[0,1]|4=>[0]|1000000=>[0]|_=>[]
def BmC:Nat->List Nat|0=>[0,1,2,3,4]|1=>[0,2,3,4,10]|2=>[0,2,4,10,11]|3=>[0,2,4,10,11]|4=>[0,2,4,10,11]|5=>[0,2,4,10,11]|6=>[0,2,4,10,11]|7=>[0,2,4,10,11]|8=>[0,2,4,10]|1000000=>[0,0,2,4,10]|_=>[]
def BmD:Nat->List Nat|0=>[0,1,2,3]|1=>[0,1,2,3,10]|2=>[0,1,2,3,10]|3=>[0,1,2,3,10]|1000000=>[0]|_=>[]
def BdZ:Nat->List Nat|0=>[0]|1=>[1,2,14000000]|2=>[10003001,1,2,3]|3=>[2,3,11,12,13,16003001]|4=>[2,3,11,12,13]|5=>[2,3,5,11,12,13]|6=>[2,3,11,12,13]|7=>[2,3]|1000000=>[0,2,3,16003001]|_=>[]
def H:Nat->Nat->List Nat
 |5=>h5
 |6=>h6
 |7=>h7
 |9=>h9
 |11=>h11
 |13=>h13
 |14=>h14
 |15=>h15
 |17=>h17
 |19=>h19
 |20=>h20
 |21=>h21
 |28=>h28
 |29=>h29
 |30=>h30
 |31=>h31
 |32=>h32
 |36=>h36
 |37=>h37
 |38=>h38
 |39=>h39
 |40=>h40
 |44=>h44
 |45=>h45
 |46=>h46
 |47=>h47
 |52=>h52
 |53=>h53
 |54=>h54
 |55=>h55
 |56=>h56
 |57=>h57
 |58=>h58
 |59=>h59
 |60=>h60
 |69=>h69
 |70=>h70
 |71=>h71
 |72=>h72
 |73=>h73
 |74=>h74
 |75=>h75
 |76=>h76
 |77=>h77
 |78=>h78
 |79=>h79
 |80=>h80
 |81=>h81
 |82=>h82
 |83=>h83
 |95=>h95
 |96=>h96
 |98=>h98
 |99=>h99
 |100=>BjY
 |101=>BjZ
 |102=>Bk0
 |103=>Bk1
 |104=>Bk2
 |105=>Bk3
 |106=>Bk4
 |107=>Bk5
 |108=>Bk6
 |109=>Bk7
 |120=>Bk8
 |121=>Bk9
 |122=>BkA
 |123=>BkB
 |124=>BkC
 |125=>BkD
 |126=>BkE
 |127=>BkF
 |128=>BkG
 |129=>BkH
 |130=>BkI
 |131=>BkJ
 |132=>BkK
 |144=>BkL
 |145=>BkM
 |146=>BkN
 |147=>BkO
 |148=>BkP
 |149=>BkQ
 |150=>BkR
 |151=>BkS
 |152=>BkT
 |153=>BkU
 |154=>BkV
 |155=>BkW
 |164=>BkX
 |165=>BkY
 |166=>BkZ
 |167=>Bl0
 |168=>Bl1
 |169=>Bl2
 |170=>Bl3
 |171=>Bl4
 |172=>Bl5
 |173=>Bl6
 |175=>Bl7
 |185=>Bl8
 |186=>Bl9
 |187=>BlA
 |188=>BlB
 |189=>BlC
 |190=>BlD
 |191=>BlE
 |192=>BlF
 |194=>BlG
 |195=>BlH
 |196=>BlI
 |197=>BlJ
 |209=>BlK
 |210=>BlL
 |211=>BlM
 |212=>BlN
 |213=>BlO
 |214=>BlP
 |215=>BlQ
 |217=>BlR
 |218=>BlS
 |219=>BlT
 |220=>BlU
 |221=>BlV
 |222=>BlW
 |224=>BlX
 |225=>BlY
 |226=>BlZ
 |227=>Bm0
 |229=>Bm1
 |230=>Bm2
 |231=>Bm3
 |232=>Bm4
 |233=>Bm5
 |236=>Bm6
 |237=>Bm7
 |238=>Bm8
 |239=>Bm9
 |240=>BmA
 |241=>BmB
 |242=>BmC
 |244=>BmD
 |1000032=>BdZ
 |_=>λ_=>[]
def g10:Nat->List Nat|2=>[1]|3=>[1,2,3,4]|4=>[1,2,3,4,7]|5=>[2,3,4,7,10]|_=>[]
def g22:Nat->List Nat|0=>[0,1]|1=>[2,3,4]|_=>[]
def g23:Nat->List Nat|0=>[0,1]|1=>[0,3,4]|_=>[]
def g24:Nat->List Nat|0=>[0]|1=>[0,2]|_=>[]
def g25:Nat->List Nat|0=>[0]|1=>[1,2]|_=>[]
def g26:Nat->List Nat|0=>[0]|1=>[0,2]|2=>[0,2,3]|3=>[0,2,3,4]|4=>[0,2,3,4]|5=>[0,2,3,4]|6=>[2,3]|1000000=>[0,2,3]|_=>[]
def g27:Nat->List Nat|0=>[0]|1=>[0,2]|_=>[]
def H0:Nat->Nat->List Nat
 |10=>g10
 |22=>g22
 |23=>g23
 |24=>g24
 |25=>g25
 |26=>g26
 |27=>g27
 |n=>H n
noncomputable abbrev P:=Go.Proofs.Tryz.prog
def yI:Option Bool:=some true
def Am0:Call:=λ_ args lh=>match args,lh with
 | [],[]=>some (.ret (.d (.bool true)) [])
 |_,_=>none
def E0:Nat->Option Call:=λf=>if f=97 then some AgZ else if f=193 then some AdR else if f=156 then some AcA else if f=174 then some Run.heldCall else none
def E:Nat->Option Call:=λf=>if f=10 then some Am0 else E0 f
noncomputable abbrev X:Ctx:=⟨P,E,H⟩
theorem AwD {r:Bool} (h:yI=some r):aval X 10 [] [] (.ret (.d (.bool r)) []):=
 aval_ext (g:=Am0) (args':=[]) rfl rfl (by cases h; rfl)
instance:Ok yI λr=>aval X 10 [] [] (.ret (.d (.bool r)) []):=⟨AwD⟩
def rS (l:List Int):Option (Nat×List Int):=if l.length<=4294967296 then some (l.length,l) else none
theorem AwC {l:List Int} {r:Nat×List Int} (h:rS l=some r):aval X 97 [.d (.list 1 (l.map (D.int .i64)))] [] (.ret (.c (.arr 0 r.1 1)) [[.seq 1 (r.2.map (D.int .i64))]]):=
 aval_ext (g:=AgZ) (args':=[.d (.list 1 (l.map (D.int .i64)))]) rfl rfl (by
  unfold rS at h
  split at h
  ·rename_i hl
   cases h
   show Option.bind _ _=_
   rw[Ae1]
   show ite _ _ _=_
   rw[if_pos hl]; rfl
  cases h)
def Ad1 (n:Nat) (i j:Int) (l:List Int):Option (List Int×List Int):=if l.length=n/\0<n/\n<=4294967296/\0<=i/\i<=j/\j<=n then some (l.take i.toNat++l.drop j.toNat,[]) else none
theorem AtT {n:Nat} {i j:Int} {l:List Int} {r:List Int×List Int} (h:Ad1 n i j l=some r) :
  aval X 193 [.arr 0 n 1,.d (.int .i64 i),.d (.int .i64 j)] [[.seq 1 (l.map (D.int .i64))]] (.ret (.d (.list 1 (r.1.map (D.int .i64)))) [[.seq 1 (r.2.map (D.int .i64))]]):=
 aval_ext (g:=AdR) (args':=[.arr 0 n 1,.d (.int .i64 i),.d (.int .i64 j)]) rfl rfl (by
  unfold Ad1 at h
  split at h
  ·rename_i hl
   cases h
   show Option.bind _ _=_
   rw[Ae1]
   show ite _ _ _=_
   rw[if_pos hl]; rfl
  cases h)
def AaT (n:Nat) (l:List Int):Option (List Int):=if l.length=n/\n<=4294967296 then some l.reverse else none
theorem AqP {n:Nat} {l r:List Int} (h:AaT n l=some r):aval X 156 [.arr 0 n 1] [[.seq 1 (l.map (D.int .i64))]] (.ret (.tuple []) [[.seq 1 (r.map (D.int .i64))]]):=
 aval_ext (g:=AcA) (args':=[.arr 0 n 1]) rfl rfl (by
  unfold AaT at h
  split at h
  ·rename_i hl
   cases h
   show Option.bind _ _=_
   rw[Ae1]
   show ite _ _ _=_
   rw[if_pos hl]; rfl
  cases h)
def rN (op a b:Int):Option Int:=Run.heldI op a b
theorem AyQ {op a b r:Int} (h:rN op a b=some r):aval X 174 [.d (.int .i64 op),.d (.int .i64 a),.d (.int .i64 b)] [] (.ret (.d (.int .i64 r)) []):=
 aval_ext (g:=Run.heldCall) (args':=[.d (.int .i64 op),.d (.int .i64 a),.d (.int .i64 b)]) rfl rfl (by show Option.map _ (Run.heldI op a b)=_; rw[show Run.heldI op a b=some r from h]; rfl)
instance {op a b:Int}:Ok (rN op a b) λr=>aval X 174 [.d (.int .i64 op),.d (.int .i64 a),.d (.int .i64 b)] [] (.ret (.d (.int .i64 r)) []):=⟨AyQ⟩
instance {l:List Int}:Ok (rS l) λr=>aval X 97 [.d (.list 1 (l.map (D.int .i64)))] [] (.ret (.c (.arr 0 r.1 1)) [[.seq 1 (r.2.map (D.int .i64))]]):=⟨AwC⟩
instance {n:Nat} {l:List Int}:Ok (AaT n l) λr=>aval X 156 [.arr 0 n 1] [[.seq 1 (l.map (D.int .i64))]] (.ret (.tuple []) [[.seq 1 (r.map (D.int .i64))]]):=⟨AqP⟩
instance {n:Nat} {i j:Int} {l:List Int}:Ok (Ad1 n i j l) λr=>aval X 193 [.arr 0 n 1,.d (.int .i64 i),.d (.int .i64 j)] [[.seq 1 (l.map (D.int .i64))]] (.ret (.d (.list 1 (r.1.map (D.int .i64)))) [[.seq 1 (r.2.map (D.int .i64))]]):=⟨AtT⟩
abbrev LI:=List Int
theorem I {α:Sort _} {a:α}:a=a:=rfl
abbrev iZ (n:Int):D:=.int .i64 n
abbrev lI (l:List Int):D:=.list 1 (List.map (D.int .i64) l)
abbrev oI (l:List Int):C:=.own 1 (List.map (D.int .i64) l)
abbrev lS (l:List Str):D:=.list 1 (List.map D.str l)
abbrev oS (l:List Str):C:=.own 1 (List.map D.str l)
abbrev lC (l:List aA):D:=.list 3 (List.map aD l)
abbrev oC (l:List aA):C:=.own 3 (List.map aD l)
abbrev lN (l:List Node):D:=.list 7 (List.map qR l)
abbrev oN (l:List Node):C:=.own 7 (List.map qR l)
abbrev B:=@Af8
abbrev E_:=@AkF
abbrev S_:=@At7
abbrev N_:=@kT.normal
abbrev P_:=@fN.pan
abbrev C_:=@fN.ret
abbrev R_:=@AzQ
abbrev K_:=@AvB
abbrev W_:=@xF
abbrev Q_:=@kT.ret
abbrev U_:=@kT.pan
abbrev O_:=@AjJ
abbrev X_:=@AvA
end Go.AM.Seat
namespace Go.Proofs
open Go.Shelf
def Tryz.laysSlE35_f156_ren:Go.Shelf.Ren:=⟨fun|35=>156|n=>n,fun|22=>26|23=>3|3=>3|4=>4|0=>0|n=>n,fun|n=>n⟩
theorem Tryz.laysSlE35_f156:Go.Proofs.SlLaysE.n35 Tryz.prog Tryz.laysSlE35_f156_ren:={
 mixed:=by kernel_rfl
 f35:=⟨Tryz.f156.name,by decide,Tryz.func156.trans (congrArg some (by kernel_rfl))⟩
 t0:=Tryz.underlying0
 a0:=Tryz.isAgg0
 z0:=Tryz.sizeOf0
 v0:=Tryz.zeroValue0
 t3:=Tryz.underlying3
 a3:=Tryz.isAgg3
 z3:=Tryz.sizeOf3
 v3:=Tryz.zeroValue3
 t4:=Tryz.underlying4
 a4:=Tryz.isAgg4
 z4:=Tryz.sizeOf4
 v4:=Tryz.zeroValue4
 t22:=Tryz.underlying26
 a22:=Tryz.isAgg26
 z22:=Tryz.sizeOf26
 v22:=Tryz.zeroValue26
 a23:=Tryz.isAgg3
 z23:=Tryz.sizeOf3 }
def Tryz.laysSlE45_f193_ren:Go.Shelf.Ren:=⟨fun|45=>193|n=>n,fun|22=>26|23=>3|3=>3|4=>4|0=>0|n=>n,fun|n=>n⟩
theorem Tryz.laysSlE45_f193:Go.Proofs.SlLaysE.n45 Tryz.prog Tryz.laysSlE45_f193_ren:={
 mixed:=by kernel_rfl
 f45:=⟨Tryz.f193.name,by decide,Tryz.func193.trans (congrArg some (by kernel_rfl))⟩
 t0:=Tryz.underlying0
 a0:=Tryz.isAgg0
 z0:=Tryz.sizeOf0
 v0:=Tryz.zeroValue0
 t3:=Tryz.underlying3
 a3:=Tryz.isAgg3
 z3:=Tryz.sizeOf3
 v3:=Tryz.zeroValue3
 t4:=Tryz.underlying4
 a4:=Tryz.isAgg4
 z4:=Tryz.sizeOf4
 v4:=Tryz.zeroValue4
 t22:=Tryz.underlying26
 a22:=Tryz.isAgg26
 z22:=Tryz.sizeOf26
 v22:=Tryz.zeroValue26
 a23:=Tryz.isAgg3
 z23:=Tryz.sizeOf3 }
def Tryz.laysSlE041_f97_ren:Go.Shelf.Ren:=⟨fun|41=>97|n=>n,fun|22=>26|23=>3|4=>4|n=>n,fun|n=>n⟩
theorem Tryz.laysSlE041_f97:Go.Proofs.SlLaysE0.n41 Tryz.prog Tryz.laysSlE041_f97_ren:={
 mixed:=by kernel_rfl
 f41:=⟨Tryz.f97.name,by decide,Tryz.func97.trans (congrArg some (by kernel_rfl))⟩
 t4:=Tryz.underlying4
 a4:=Tryz.isAgg4
 z4:=Tryz.sizeOf4
 v4:=Tryz.zeroValue4
 t22:=Tryz.underlying26
 a22:=Tryz.isAgg26
 z22:=Tryz.sizeOf26
 v22:=Tryz.zeroValue26 }
end Go.Proofs
namespace Go.AM.Seat
open Go Go.AM Go.Proofs
set_option maxRecDepth 100000
set_option maxHeartbeats 0
theorem BeF:nS P where
 func f fn h:=by
  have hall:(P.funcs.toList.all AiV)=true:=by kernel_rfl
  exact List.all_eq_true.1 hall fn (by rw[←Array.getElem?_toList] at h; exact List.mem_of_getElem? h)
 mixed:=Tryz.laysSlE35_f156.mixed
theorem AtA:Callee P 97:=⟨_,Tryz.func97,by kernel_rfl⟩
theorem AqD:Callee P 193:=⟨_,Tryz.func193,by kernel_rfl⟩
theorem Ao8:Callee P 156:=⟨_,Tryz.func156,by kernel_rfl⟩
theorem AvI:Callee P 174:=⟨_,Tryz.func174,by kernel_rfl⟩
theorem Be2:(P.info? 3).isSome=true:=by kernel_rfl
noncomputable def i3:TypeInfo:=(P.info? 3).get Be2
theorem BhV:i3.zero.isSome=true:=by kernel_rfl
noncomputable def z3:Value:=i3.zero.get BhV
instance:cM:=⟨[]⟩
theorem AoW:∀f g,E0 f=some g->∀args lh r,g f args lh=some r->Callee P f/\CallOK P f args lh r:=by
 intro f g hf args lh r h
 unfold E0 at hf
 split at hf
 ·rename_i e
  subst e
  simp only[sJ] at hf
  subst hf
  exact⟨AtA,BdE (ρ:=Tryz.laysSlE041_f97_ren) Tryz.laysSlE041_f97 i3 z3 (Option.some_get Be2).symm (Option.some_get BhV).symm (by kernel_rfl) (by kernel_rfl) (by kernel_rfl) h⟩
 split at hf
 ·rename_i e
  subst e
  simp only[sJ] at hf
  subst hf
  exact⟨AqD,BbB (ρ:=Tryz.laysSlE45_f193_ren) Tryz.laysSlE45_f193 Tryz.zeroValue3 i3 (Option.some_get Be2).symm (by kernel_rfl) h⟩
 split at hf
 ·rename_i e
  subst e
  simp only[sJ] at hf
  subst hf
  exact⟨Ao8,Az5 (ρ:=Tryz.laysSlE35_f156_ren) Tryz.laysSlE35_f156 h⟩
 split at hf
 ·rename_i e
  subst e
  simp only[sJ] at hf
  subst hf
  exact⟨AvI,Run.held_ok h⟩
 cases hf
theorem BcH:zB P E0 H0 200 10 [] []=some (.ret (.d (.bool true)) []):=by kernel_rfl
theorem BbM:∀f g,E f=some g->∀args lh r,g f args lh=some r->Callee P f/\CallOK P f args lh r:=by
 intro f g hf args lh r h
 unfold E at hf
 split at hf
 ·rename_i e
  subst e
  simp only[sJ] at hf
  subst hf
  unfold Am0 at h
  split at h
  ·simp only[sJ] at h
   subst h
   exact (AbC BeF AoW H0 200).o 10 [] [] _ BcH
  cases h
 exact AoW f g hf args lh r h
theorem call_ok {f:Nat} {args:List C} {lh:List (List C)} {r:aE} (h:aval X f args lh r):CallOK P f args lh r:=by
 obtain⟨k,hk⟩:=h
 refine ((AbC BeF BbM H k).o f args lh r ?_).2
 exact hk k (Nat.le_refl k)
theorem no_glob (w:World):AuR w:=λx hx=>by simp[cM.tab] at hx
end Go.AM.Seat
