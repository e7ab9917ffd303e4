/- Part of a proof about the given program: the abstract machine, the printed functions, the plain laws. -/
import Derived.Test.YtbillkiljpkdfaaGreatRunBoundA2
import Derived.Recover
import Derived.Below
import Derived.Shelf.Strings.Fields
import Derived.Shelf.Strings.OnBuilder
import Derived.Shelf.Strings.IndexAnyAll
import Derived.Shelf.Small.Strs
import Derived.Shelf.SlicesE.Clone
import Derived.Shelf.SlicesE.Reverse
import Derived.Shelf.SlicesE.Delete
import Derived.Laws.AppendOwnNone
import Derived.Test.YtbillkiljpkdfaaGreatProg
import Derived.WalkKit
import Derived.ProofKit
import Derived.Handy
import Derived.KernelRfl
import Derived.LaidSub
import Derived.MakeChecks
set_option linter.all false
set_option maxRecDepth 100000
set_option maxHeartbeats 4000000
namespace Go.AM
open Go
variable [cR]
section
variable {P:Program} {K K':Col} {μ μ':Nat->Nat} {w w':World} {s:St} {a:Act}
structure zH (P:Program) (call:Call):Prop where
 o:pH P (AbR call)
 v:pH P (ArN call)
theorem AzR {call:Call} (hcall:zH P call) (hP:oB P) (hs:Sim K μ s a w) {o:Oper} {V:V} {s':St} (h:spec P call o s=some (V,s')) (hd:∀t,o.dst=some t->t<a.tmps.size)
  {next:Act->World->Prop} {Q:Exit->Act->World->Prop} (hb:AiS P K μ s a w o (.val V s') next Q):o.wp P a w next Q:=by
 unfold spec at h
 split at h
 ·rename_i r hr
  simp only[sJ] at h; subst h
  exact AnB hs hr hd hb
 split at h
 ·rename_i c ho
  split at h
  ·rename_i f hc
   split at h
   ·rename_i g args hf hargs
    split at h
    ·rename_i v s1 ids hdc
     simp only[sJ,pJ] at h
     obtain⟨rfl,rfl⟩:=h
     have hev:cV P (ArN call) s.nid o s=some (.val v s1,⟨ids,ids,[]⟩):=by
      simp only[cV,ho,hc,hf,hargs,List.map_nil,List.append_nil,hdc]
     exact uE hcall.v hP hs hev hd hb
    simp at h
   simp at h
  simp at h
 simp at h
theorem AaA {call:Call} (hcall:zH P call) (hP:oB P) {ops:Array Oper} {sz:Nat} (hd:∀o∈ops.toList,∀t,o.dst=some t->t<sz) {x:AX} {s':St}
  {Q:Exit->Act->World->Prop}:∀(l:List Oper) (i:Nat) (K:Col) (μ:Nat->Nat) (s:St) (a:Act) (w:World),ops.toList.drop i=l->Ab4 P call ops l s=some (x,s') ->
   Sim K μ s a w->a.tmps.size=sz->AiT K μ w s.nid sz x s' Q->wpOps P ops Q (List.range' i l.length) a w
 | [],i,K,μ,s,a,w,_,h,hs,hsz,hg=>by
  simp only[Ab4,sJ,pJ] at h
  obtain⟨rfl,rfl⟩:=h
  exact hg .normal K μ a w rfl (After.refl _ _ _ _) (Nat.le_refl _) hs hsz
 |o::l,i,K,μ,s,a,w,hl,h,hs,hsz,hg=>by
  have hoi:ops[i]?=some o:=by
   have:(ops.toList.drop i)[0]?=some o:=by rw[hl]; rfl
   rw[rD] at this
   simpa using this
  have hl':ops.toList.drop (i+1)=l:=by
   rw[←List.drop_drop,hl]; rfl
  have hom:o∈ops.toList:=by
   have:o∈ops.toList.drop i:=by rw[hl]; simp
   exact List.mem_of_mem_drop this
  have hdo:∀t,o.dst=some t->t<a.tmps.size:=by rw[hsz]; exact hd o hom
  simp only[List.length_cons,List.range'_succ,wpOps,hoi]
  simp only[Ab4] at h
  split at h
  ·simp at h
  ·rename_i hw
   rw[vX hs hw]
   simp only[fJ,if_false]
   have hs':=hs.put (dst:=o.dst) (V:=.c .undef) (v:=Go.undef) hdo sC
   have hn:(putDst o (.c .undef) s).nid=s.nid:=by unfold putDst mF; cases o.dst<;>rfl
   exact AaA hcall hP hd l (i+1) K μ _ _ w hl' h hs' (by rw[mG]; exact hsz) (by rw[hn]; exact hg)
  rename_i hw
  rw[vX hs hw]
  simp only[if_true]
  split at h
  ·rename_i v s1 hop
   refine .inl (AzR hcall hP hs hop hdo ⟨?_,by simp⟩)
   intro V s'' K' μ' a' w' e haf hn hs' hsz'
   simp only[gF.val.injEq] at e
   obtain⟨rfl,rfl⟩:=e
   have hn':(putDst o v s1).nid=s1.nid:=by unfold putDst mF; cases o.dst<;>rfl
   exact AaA hcall hP hd l (i+1) K' μ' _ a' w' hl' h hs' (by rw[hsz',hsz]) (by rw[hn']; exact hg.later haf hn)
  split at h
  ·rename_i v s1 f hop
   refine .inl (uE hcall.o hP hs hop hdo ⟨?_,by simp⟩)
   intro V s'' K' μ' a' w' e haf hn hs' hsz'
   simp only[gF.val.injEq] at e
   obtain⟨rfl,rfl⟩:=e
   have hn':(putDst o v s1).nid=s1.nid:=by unfold putDst mF; cases o.dst<;>rfl
   exact AaA hcall hP hd l (i+1) K' μ' _ a' w' hl' h hs' (by rw[hsz',hsz]) (by rw[hn']; exact hg.later haf hn)
  ·rename_i d s1 f hop
   simp only[sJ,pJ] at h
   obtain⟨rfl,rfl⟩:=h
   refine .inl (uE hcall.o hP hs hop hdo ⟨by simp,?_⟩)
   intro d' s'' K' μ' w' u e haf hn hs' hr
   simp only[gF.pan.injEq] at e
   obtain⟨rfl,rfl⟩:=e
   exact hg _ K' μ' a w' ⟨u,rfl,hr⟩ haf hn hs' hsz
  simp at h
theorem ApQ {f:St->Option (AX×St)} {keep:List Nat} {n sz:Nat} {c:Code} {x:AX} {s':St} {Q:Exit->Act->World->Prop}
  (hf:∀{K:Col} {μ:Nat->Nat} {w:World} {s:St} {a:Act} {x:AX} {s':St} {Q:Exit->Act->World->Prop},f s=some (x,s')->Sim K μ s a w->a.tmps.size=sz->AiT K μ w s.nid sz x s' Q->c.wp P Q a w) :
  ∀(k:Nat) (K:Col) (μ:Nat->Nat) (s:St) (a:Act) (w:World),iter f (aH keep n) k s=some (x,s')->Sim K μ s a w->a.tmps.size=sz->n<=s.nid->AiT K μ w n sz x s' Q->Code.rounds P c Q k a w
 |0,K,μ,s,a,w,h,_,_,_,_=>by simp[iter] at h
 |k+1,K,μ,s,a,w,h,hs,hsz,hn,hg=>by
  simp only[iter] at h
  rw[rounds_succ]
  split at h
  ·simp at h
  rename_i s1 hc
  obtain⟨K1,μ1,hst1,hmu1,hs1,hn1,_⟩:=hs.clean hc
  have ha1:After K μ w n K1 μ1 w:=⟨hst1,hmu1⟩
  split at h
  ·rename_i s2 hf2
   refine hf hf2 hs1 hsz ?_
   intro e K' μ' a' w' ho ha hn2 hs2 hsz2
   simp only[Out] at ho
   subst ho
   have ha2:After K μ w n K' μ' w':=ha1.trans ha hn1
   exact ApQ hf k K' μ' s2 a' w' h hs2 hsz2 (by omega) (hg.later ha2 (Nat.le_refl _))
  rename_i r hnot
  cases hr:f s1 with
  |none=>rw[hr] at h; simp at h
  |some r'=>
   obtain⟨x',s2⟩:=r'
   rw[hr] at h
   have hx':x'≠.normal:=by
    intro e; subst e
    exact hnot s2 hr
   simp only[sJ,pJ] at h
   obtain⟨rfl,rfl⟩:=h
   refine hf hr hs1 hsz ?_
   intro e K' μ' a' w' ho ha hn2 hs2 hsz2
   have ha2:After K μ w n K' μ' w':=ha1.trans ha hn1
   have hq:=hg e K' μ' a' w' ho ha2 (by omega) hs2 hsz2
   cases e with
   |normal=>cases x'<;>simp[Out] at ho; exact absurd rfl hx'
   |_=>exact hq
theorem Ah2 {h:List Nat} {n sz:Nat} {r:Option (AX×St)} {x:AX} {s':St} (hr:settle h n r=some (x,s')) :
  ∃s0,r=some (x,s0)/\∀{K:Col} {μ:Nat->Nat} {w:World} {Q:Exit->Act->World->Prop},AiT K μ w n sz x s' Q->AiT K μ w n sz x s0 Q:=by
 unfold settle at hr
 split at hr
 ·rename_i s0
  split at hr
  ·simp only[sJ,pJ] at hr
   obtain⟨rfl,rfl⟩:=hr
   exact⟨_,rfl,λh=>h⟩
  split at hr
  ·rename_i s1 hc
   simp only[sJ,pJ] at hr
   obtain⟨rfl,rfl⟩:=hr
   refine⟨_,rfl,λhg e K' μ' a' w' ho ha hn hs hsz=>?_⟩
   obtain⟨K1,μ1,g1,g2,h1,h2,_⟩:=hs.clean hc
   exact hg e K1 μ1 a' w' (by simp only[Out] at ho ⊢; exact ho) (ha.trans ⟨g1,g2⟩ (Nat.le_refl _)) h2 h1 hsz
  simp at hr
 exact⟨_,hr,λh=>h⟩
theorem Ax5 {id:Nat} {r:Option (AX×St)} {x:AX} {s':St} (hr:leaves id r=some (x,s')) :
  (x=.normal/\r=some (.exit id,s'))\/(r=some (x,s')/\x≠.exit id):=by
 unfold leaves at hr
 split at hr
 ·rename_i id' s0
  split at hr
  ·rename_i he
   simp only[sJ,pJ] at hr
   obtain⟨rfl,rfl⟩:=hr
   exact .inl ⟨rfl,by rw[he]⟩
  rename_i he
  simp only[sJ,pJ] at hr
  obtain⟨rfl,rfl⟩:=hr
  exact .inr ⟨rfl,by simpa using he⟩
 rename_i hno
 refine .inr ⟨hr,?_⟩
 rintro rfl
 exact hno _ _ hr
theorem iL {H:Nat->List Nat} {call:Call} {rounds sz:Nat} (hcall:zH P call) (hP:oB P) :
  ∀(c:Code) {K:Col} {μ:Nat->Nat} {w:World} {s:St} {a:Act} {x:AX} {s':St} {Q:Exit->Act->World->Prop},dJ sz c=true->iK P H call rounds c s=some (x,s') ->
   Sim K μ s a w->a.tmps.size=sz->AiT K μ w s.nid sz x s' Q->c.wp P Q a w
 |.skip,K,μ,w,s,a,x,s',Q,_,h,hs,hsz,hg=>by
  simp only[iK,sJ,pJ] at h
  obtain⟨rfl,rfl⟩:=h
  exact wp_skip (hg _ K μ a w rfl (After.refl _ _ _ _) (Nat.le_refl _) hs hsz)
 |.label l,K,μ,w,s,a,x,s',Q,_,h,hs,hsz,hg=>by
  simp only[iK,sJ,pJ] at h
  obtain⟨rfl,rfl⟩:=h
  exact wp_label (hg _ K μ a w rfl (After.refl _ _ _ _) (Nat.le_refl _) hs hsz)
 |.ret,K,μ,w,s,a,x,s',Q,_,h,hs,hsz,hg=>by
  simp only[iK,sJ,pJ] at h
  obtain⟨rfl,rfl⟩:=h
  exact wp_ret (hg _ K μ a w rfl (After.refl _ _ _ _) (Nat.le_refl _) hs hsz)
 |.exit id,K,μ,w,s,a,x,s',Q,_,h,hs,hsz,hg=>by
  simp only[iK,sJ,pJ] at h
  obtain⟨rfl,rfl⟩:=h
  exact wp_exit (hg _ K μ a w rfl (After.refl _ _ _ _) (Nat.le_refl _) hs hsz)
 |.seq c d,K,μ,w,s,a,x,s',Q,hd,h,hs,hsz,hg=>by
  simp only[dJ,Bool.and_eq_true] at hd
  simp only[iK] at h
  refine wp_seq ?_
  split at h
  ·rename_i s1 h1
   refine iL hcall hP c hd.1 h1 hs hsz ?_
   intro e K' μ' a' w' ho ha hn hs1 hsz1
   simp only[Out] at ho; subst ho
   exact iL hcall hP d hd.2 h hs1 hsz1 (hg.later ha hn)
  rename_i r hnot
  cases hr:iK P H call rounds c s with
  |none=>rw[hr] at h; simp at h
  |some r'=>
   obtain⟨x',s2⟩:=r'
   rw[hr] at h
   have hx':x'≠.normal:=by intro e; subst e; exact hnot s2 hr
   simp only[sJ,pJ] at h
   obtain⟨rfl,rfl⟩:=h
   refine iL hcall hP c hd.1 hr hs hsz ?_
   intro e K' μ' a' w' ho ha hn hs1 hsz1
   have hq:=hg e K' μ' a' w' ho ha hn hs1 hsz1
   cases e with
   |normal=>cases x'<;>simp[Out] at ho; exact absurd rfl hx'
   |_=>exact hq
 |.cond o c d,K,μ,w,s,a,x,s',Q,hd,h,hs,hsz,hg=>by
  simp only[dJ,Bool.and_eq_true] at hd
  simp only[iK] at h
  split at h
  ·rename_i ho
   have hr:=cW hs ho
   simp only[RepV,RepC,Rep] at hr
   obtain⟨s0,h0,hgo⟩:=Ah2 (sz:=sz) h
   exact wp_cond_true hr (iL hcall hP c hd.1 h0 hs hsz (hgo hg))
  ·rename_i ho
   have hr:=cW hs ho
   simp only[RepV,RepC,Rep] at hr
   obtain⟨s0,h0,hgo⟩:=Ah2 (sz:=sz) h
   exact wp_cond_false hr (iL hcall hP d hd.2 h0 hs hsz (hgo hg))
  simp at h
 |.block id c,K,μ,w,s,a,x,s',Q,hd,h,hs,hsz,hg=>by
  simp only[dJ] at hd
  simp only[iK] at h
  obtain⟨s0,h0,hgo⟩:=Ah2 (sz:=sz) h
  replace hg:=hgo hg
  refine wp_block ?_
  rcases Ax5 h0 with ⟨rfl,h1⟩|⟨h1,hne⟩
  ·refine iL hcall hP c hd h1 hs hsz ?_
   intro e K' μ' a' w' ho ha hn hs1 hsz1
   simp only[Out] at ho; subst ho
   simp only[Exit.inBlock,if_true]
   exact hg _ K' μ' a' w' rfl ha hn hs1 hsz1
  refine iL hcall hP c hd h1 hs hsz ?_
  intro e K' μ' a' w' ho ha hn hs1 hsz1
  have hq:=hg e K' μ' a' w' ho ha hn hs1 hsz1
  cases e with
  |exit id'=>
   cases x<;>simp[Out] at ho
   subst ho
   simp only[Exit.inBlock]
   rw[if_neg (by intro e; exact hne (by rw[e]))]
   exact hq
  |_=>exact hq
 |.scope c,K,μ,w,s,a,x,s',Q,hd,h,hs,hsz,hg=>by
  simp only[dJ] at hd
  simp only[iK] at h
  refine wp_scope_straight ?_
  refine iL hcall hP c hd h hs hsz ?_
  intro e K' μ' a' w' ho ha hn hs1 hsz1
  have hq:=hg e K' μ' a' w' ho ha hn hs1 hsz1
  cases e with
  |goto l=>cases x<;>simp[Out] at ho
  |_=>exact hq
 |.loop c,K,μ,w,s,a,x,s',Q,hd,h,hs,hsz,hg=>by
  simp only[dJ] at hd
  simp only[iK] at h
  exact wp_loop_rounds rounds (ApQ (λh1 h2 h3 h4=>iL hcall hP c hd h1 h2 h3 h4) rounds K μ s a w h hs hsz (Nat.le_refl _) hg)
 |.region id ops draw,K,μ,w,s,a,x,s',Q,hd,h,hs,hsz,hg=>by
  simp only[dJ,List.all_eq_true] at hd
  have hd':∀o∈ops.toList,∀t,o.dst=some t->t<sz:=by
   intro o ho t ht
   have:=hd o ho
   rw[ht] at this
   simpa using this
  simp only[iK] at h
  split at h
  ·simp at h
  rename_i s0 hfz
  obtain⟨K0,hst0,hn0,_,hs0⟩:=AlW hs hfz
  have hg0:AiT K0 μ w s0.nid sz x s' Q:=hg.later ⟨hst0,λ_ _=>rfl⟩ hn0
  have hk:=hs0.keep (H id)
  split at h
  ·cases draw with
   |true=>
    simp only[if_true] at h
    exact AoR hcall.o hP hP.mixed hd' h hk hsz hg0
   |false=>
    simp only[fJ,if_false] at h
    refine wp_region ?_
    have:=AaA hcall hP hd' ops.toList 0 K0 μ _ a w (by simp) h hk hsz hg0
    rw[List.range_eq_range']
    simpa using this
  cases draw with
  |true=>
   simp only[if_true] at h
   split at h
   ·exact AoR hcall.o hP hP.mixed hd' h hk hsz hg0
   exact Ar6 hcall.o hP hd' h hk hsz hg0 _
  |false=>
   simp only[fJ,if_false] at h
   split at h
   ·rename_i x1 s1 fs hev
    simp only[sJ,pJ] at h
    obtain⟨rfl,rfl⟩:=h
    refine wp_region ?_
    have:=Ag4 hcall.o hP hd' ops.toList 0 K0 μ _ a w [] (by simp) hev hk hsz hg0
    rw[List.range_eq_range']
    simpa using this
   simp at h
 |.rangeFunc _ _ _ _,K,μ,w,s,a,x,s',Q,_,h,_,_,_=>by simp[iK] at h
 |.goto _,K,μ,w,s,a,x,s',Q,_,h,_,_,_=>by simp[iK] at h
 |.refuse _,K,μ,w,s,a,x,s',Q,_,h,_,_,_=>by simp[iK] at h
end
end Go.AM
namespace Go.AM
open Go
variable [cR]
theorem gU {n m:Nat} (h:n<=m):∀c:Code,dJ n c=true->dJ m c=true
 |.region _ ops _,hd=>by
  simp only[dJ,List.all_eq_true] at hd ⊢
  intro o ho
  have:=hd o ho
  cases hdst:o.dst with
  |none=>rfl
  |some d=>
   rw[hdst] at this
   simp only[decide_eq_true_eq] at this ⊢
   exact Nat.lt_of_lt_of_le this h
 |.seq a b,hd=>by
  simp only[dJ,Bool.and_eq_true] at hd ⊢
  exact⟨gU h a hd.1,gU h b hd.2⟩
 |.cond _ a b,hd=>by
  simp only[dJ,Bool.and_eq_true] at hd ⊢
  exact⟨gU h a hd.1,gU h b hd.2⟩
 |.block _ c,hd=>by simp only[dJ] at hd ⊢; exact gU h c hd
 |.loop c,hd=>by simp only[dJ] at hd ⊢; exact gU h c hd
 |.scope c,hd=>by simp only[dJ] at hd ⊢; exact gU h c hd
 |.skip,_|.label _,_|.ret,_|.exit _,_|.goto _,_|.refuse _,_=>rfl
 |.rangeFunc _ _ _ _,_=>rfl
theorem AeH {α:Type}:∀{l:List α} {n k:Nat},look k (nT n l)=if n<=k then l[k-n]? else none
 | [],n,k=>by simp[nT,look]
 |x::l,n,k=>by
  simp only[nT,look]
  by_cases h:n=k
  ·subst h; simp
  rw[if_neg h,AeH]
  by_cases h1:n<=k
  ·rw[if_pos (by omega),if_pos h1,show k-n=(k-(n+1))+1 from by omega]; simp
  rw[if_neg (by omega),if_neg h1]
def Ad6 (tmps:Array Value):ResultVar->Sem Value
 |.tmp t=>pure (tmps.getD t Go.undef)
 |.cell p t=>do loadVar t (←asAddr (tmps.getD p Go.undef))
theorem Aq5 (fn:Func) (tmps:Array Value):results fn tmps=(do
  let vs ←fn.results.mapM (Ad6 tmps)
  pure (if h:vs.size=1 then vs[0] else .tuple vs)):=by
 unfold results
 congr 2
section
variable {P:Program} {K K':Col} {μ μ':Nat->Nat} {w w':World} {s:St} {a:Act}
theorem Bf2 (hs:Sim K μ s a w) {r:ResultVar} {c:C} (h:Bf1 P s r=some c) :
  ∃u,(Ad6 a.tmps r).run P w=.ok u w/\RepC K μ w c u /\
   (∀b∈c.ids,b<s.nid)/\∀sz xs,c≠.own sz xs:=by
 cases r with
 |tmp t=>
  simp only[Bf1,Option.map_eq_some_iff,Option.bind_eq_some_iff] at h
  obtain⟨c',⟨v,hv,hc⟩,rfl⟩:=h
  obtain⟨_,hr⟩:=hs.tm t v hv
  exact⟨_,rfl,C.still_rep (AjT hr hc).1,λb hb=>hs.tids t v hv b (AoE hc b (by rw[C.still_ids] at hb; exact hb)),by intro sz xs; cases c'<;>simp[C.still]⟩
 |cell p t=>
  simp only[Bf1] at h
  split at h
  ·rename_i b off hp
   have hpr:=(hs.tm p _ hp).2
   simp only[RepV,RepC] at hpr
   split at h
   ·rename_i cs hb0
    obtain⟨cs0,hb,hbm,rfl⟩:=xU hb0
    obtain⟨vs,hrv,hcv⟩:=(hs.heap b cs0 hb).2.2.vals hbm
    split at h
    ·rename_i n ht hn
     split at h
     ·rename_i hle
      simp only[Option.map_eq_some_iff] at h
      obtain⟨ds,hds,rfl⟩:=h
      have hnh:∀i,i<n->(fA cs0)[off+i]?≠some .hid:=by
       intro i hi e
       have hm:C.hid∈((fA cs0).drop off).take n:=by
        refine List.mem_of_getElem? (i:=i) ?_
        rw[List.getElem?_take,if_pos hi,rD]; exact e
       exact ArH hds _ hm rfl
      have hl:=Ac6 (P:=P) (w:=w) ht hn (μ b) off ((vs.drop off).take n) (by have:=hrv.length; simp; omega)
       (λi v hv=>by
        rw[List.getElem?_take] at hv
        split at hv
        ·rename_i hin; rw[rD] at hv; exact (hcv _ v hv (hnh i hin)).1
        simp at hv)
      refine⟨_,by simp only[Ad6,hpr,asAddr,Sem.run_bind,Sem.run_pure,Result.andThen_ok]; exact hl,?_,by simp[C.ids],by simp⟩
      simp only[RepC,Rep]
      refine⟨_,rfl,AaQ hds ((hrv.drop off).take n) ?_⟩
      intro u hu
      obtain⟨i,hi⟩:=List.getElem?_of_mem hu
      rw[List.getElem?_take] at hi
      split at hi
      ·rename_i hin; rw[rD] at hi; exact (hcv _ u hi (hnh i hin)).2.1
      simp at hi
     simp at h
    ·rename_i ht
     simp only[Option.bind_eq_some_iff] at h
     obtain⟨c',hc',htold⟩:=h
     obtain⟨hch,rfl⟩:c'≠.hid/\c'.still=c:=by
      cases c'<;>simp only[C.told,reduceCtorEq,sJ] at htold<;>exact⟨by simp,htold⟩
     obtain⟨v,hv1,hv2⟩:=hrv.get hc'
     refine⟨v,by simp only[Ad6,hpr,asAddr,Sem.run_bind,Sem.run_pure,Result.andThen_ok]; exact yX ht _ _ _ (hcv off v hv1 (by rw[hc']; simpa using hch)).1,C.still_rep hv2,?_,by intro sz xs; cases c'<;>simp[C.still]⟩
     intro i hi
     rw[C.still_ids] at hi
     exact hs.flat_ids hb (List.mem_of_getElem? hc') i hi
    simp at h
   simp at h
  simp at h
theorem AeQ (hs:Sim K μ s a w):∀{rs:List ResultVar} {cs:List C},aZ (Bf1 P s) rs=some cs ->
  ∃us,(rs.mapM (Ad6 a.tmps)).run P w=.ok us w /\
   bB K μ w cs us/\(∀c∈cs,(∀b∈c.ids,b<s.nid)/\∀sz xs,c≠.own sz xs)
 | [],cs,h=>by
  simp only[aZ,sJ] at h; subst h
  exact⟨[],by simp,.nil,by simp⟩
 |r::rs,cs,h=>by
  simp only[aZ] at h
  split at h
  ·rename_i c cs' hc hcs
   simp only[sJ] at h; subst h
   obtain⟨u,h1,h2,h3,h4⟩:=Bf2 hs hc
   obtain⟨us,h5,h6,h7⟩:=AeQ hs hcs
   refine⟨u::us,?_,.cons h2 h6,?_⟩
   ·simp only[List.mapM_cons,Sem.run_bind,h1,Result.andThen_ok,h5,Sem.run_pure]
   intro x hx
   rcases List.mem_cons.1 hx with rfl|hx
   ·exact⟨h3,h4⟩
   exact h7 x hx
  simp at h
theorem AxU {fn:Func} {r:ResultVar} {tmps:Array Value} {u:Value} (hr:fn.results=#[r]) (h:(Ad6 tmps r).run P w=.ok u w):(results fn tmps).run P w=.ok u w:=by
 rw[Aq5,Sem.run_bind,Array.mapM_eq_mapM_toList,Sem.run_map,hr]
 have:(List.mapM (Ad6 tmps) [r]).run P w=.ok [u] w:=by
  simp only[List.mapM_cons,List.mapM_nil,Sem.run_bind,h,Result.andThen_ok,Sem.run_pure]
 rw[show (#[r]:Array ResultVar).toList=[r] from rfl,this]
 rfl
theorem Bf3 (hs:Sim K μ s a w) {fn:Func} {v:V} (h:Bh7 P s fn.results.toList=some v) :
  ∃u,(results fn a.tmps).run P w=.ok u w/\RepV K μ w v u/\(∀b∈v.ids,b<s.nid)/\nA v:=by
 unfold Bh7 at h
 have harr:∀us:List Value,(fn.results.toList.mapM (Ad6 a.tmps)).run P w=.ok us w ->
   (results fn a.tmps).run P w=.ok (if h:us.toArray.size=1 then us.toArray[0] else .tuple us.toArray) w:=by
  intro us hu
  rw[Aq5,Sem.run_bind,Array.mapM_eq_mapM_toList,Sem.run_map,hu]
  rfl
 split at h
 ·rename_i c hm
  simp only[sJ] at h; subst h
  obtain⟨us,h1,h2,h3⟩:=AeQ hs hm
  cases h2 with
  |cons hc hn=>
   cases hn with
   |nil=>
    rename_i u
    refine⟨u,?_,hc,?_,?_⟩
    ·rw[harr _ h1]; rfl
    ·exact (h3 c (by simp)).1
    refine⟨λsz xs e=>?_,by simp⟩
    simp only[V.c.injEq] at e
    exact (h3 c (by simp)).2 sz xs e
 ·rename_i cs hno hm
  simp only[sJ] at h; subst h
  obtain⟨us,h1,h2,h3⟩:=AeQ hs hm
  have hl:us.toArray.size≠1:=by
   intro e
   have h4:=h2.length
   have h5:cs.length=1:=by simpa[h4] using e
   match cs,h5 with
   | [c],_=>exact hno c rfl
  refine⟨.tuple us.toArray,?_,⟨us,rfl,h2⟩,?_,by simp[nA]⟩
  ·rw[harr _ h1]
   rw[dif_neg hl]
  intro b hb
  simp only[V.ids,List.mem_flatMap] at hb
  obtain⟨c,hc,hb⟩:=hb
  exact (h3 c hc).1 b hb
 simp at h
theorem AxI (hs:Sim K μ s a w) {n:Nat} {extra ids:List Nat} {lh':List (List C)} (h:AeO s.heap n extra=some (ids,lh')) :
  AjN (λb o=>hO ids (K b o)) (λi=>μ (ids.getD i 0)) w lh'/\lh'.length=ids.length/\(∃r,ids=bE 0 n++r):=by
 unfold AeO at h
 split at h
 ·simp at h
 split at h
 ·simp at h
 rename_i ids' hr
 split at h
 ·rename_i lh hlh
  simp only[sJ,pJ] at h
  obtain⟨rfl,rfl⟩:=h
  obtain⟨h1,h2,h3⟩:=AbM hr (AcZ 0 n)
  obtain⟨h4,h5⟩:=AsH hs h1 hlh
  exact⟨h4,h5,h2⟩
 simp at h
theorem V.into_rep {ids:List Nat} (hK:∀b o,K b o=.ro->K' b o=.ro) (hμ:∀i b,ids[i]?=some b->μ' i=μ b) {c c':V} {v:Value} (hc:V.into ids c=some c') (h:RepV K μ w c v)
  (hp:nA c):RepV K' μ' w c' v/\(∀b∈c'.ids,b<ids.length)/\nA c':=by
 have many:∀{cs cs':List C} {vs:List Value},aZ (C.into ids) cs=some cs'->bB K μ w cs vs->bB K' μ' w cs' vs/\∀c∈cs',∀b∈c.ids,b<ids.length:=by
  intro cs cs' vs hm hr
  refine⟨hr.mapM hm λc c' v h1 h2=>(AM.into_rep hK hμ h1 h2).1,?_⟩
  intro c' hc' b hb
  obtain⟨i,hi⟩:=List.getElem?_of_mem hc'
  obtain⟨c,hci,hcc⟩:=gO hm hi
  obtain⟨u,_,hru⟩:=hr.get hci
  exact (AM.into_rep hK hμ hcc hru).2.1 b hb
 cases c with
 |c x=>
  simp only[V.into,Option.map_eq_some_iff] at hc
  obtain⟨x',hx,rfl⟩:=hc
  obtain⟨h1,h2,h3⟩:=AM.into_rep (μ':=μ') hK hμ hx h
  refine⟨h1,h2,?_,by simp⟩
  intro sz xs e
  simp only[V.c.injEq] at e
  exact hp.1 sz xs (by rw[(h3 sz xs).1 e])
 |view l sz xs=>exact absurd rfl (hp.2 l sz xs)
 |rptr cs=>
  simp only[V.into,sJ] at hc; subst hc
  obtain⟨blk,off,vs,h1,h2,h3⟩:=h
  exact⟨⟨blk,off,vs,h1,λi u hu=>⟨hK _ _ (h2 i u hu).1,(h2 i u hu).2⟩,dI.recolor hK _ _ h3⟩,by simp[V.ids],hp⟩
 |vagg cs=>
  simp only[V.into,Option.map_eq_some_iff] at hc
  obtain⟨cs',hm,rfl⟩:=hc
  obtain⟨vs,h1,h2,h3⟩:=h
  obtain⟨q1,q2⟩:=many hm h2
  refine⟨⟨vs,h1,q1,h3⟩,?_,by simp[nA]⟩
  intro b hb
  simp only[V.ids,List.mem_flatMap] at hb
  obtain⟨c,hc,hb⟩:=hb
  exact q2 c hc b hb
 |tuple cs=>
  simp only[V.into,Option.map_eq_some_iff] at hc
  obtain⟨cs',hm,rfl⟩:=hc
  obtain⟨vs,h1,h2⟩:=h
  obtain⟨q1,q2⟩:=many hm h2
  refine⟨⟨vs,h1,q1⟩,?_,by simp[nA]⟩
  intro b hb
  simp only[V.ids,List.mem_flatMap] at hb
  obtain⟨c,hc,hb⟩:=hb
  exact q2 c hc b hb
theorem Am8 {args:List C} {lh:List (List C)} {vs:List Value} {n:Nat} (hr:bB K μ w args vs) (hi:∀c∈args,∀b∈c.ids,b<lh.length) (hh:AjN K μ w lh) (hb:rY K w) (hgl:AjM K w) :
  Sim K μ { tmps:=nT 0 (args.map λc=>V.c c.plain),heap:=nT 0 lh,nid:=lh.length,defers:=[],pan:=none }
   { tmps:=vs.toArray++Array.replicate n Go.undef,defers:=[] } w:=by
 have back:∀{t:Nat} {v:V},look t (nT 0 (args.map λc=>V.c c.plain))=some v->∃c,args[t]?=some c/\v=.c c.plain:=by
  intro t v h
  rw[AeH,if_pos (by omega)] at h
  simp only[Nat.sub_zero,List.getElem?_map,Option.map_eq_some_iff] at h
  obtain⟨c,h1,rfl⟩:=h
  exact⟨c,h1,rfl⟩
 refine⟨?_,?_,?_,?_,?_,hb,rfl,by simp,hgl⟩
 ·intro t v ht
  obtain⟨c,h1,rfl⟩:=back ht
  obtain⟨u,h2,h3⟩:=hr.get h1
  have hlt:=(List.getElem?_eq_some_iff.1 h2).1
  refine⟨by simp; omega,?_⟩
  have:(vs.toArray++Array.replicate n Go.undef).getD t Go.undef=u:=by
   simp only[Array.getD_eq_getD_getElem?]
   rw[Array.getElem?_append_left (by simpa using hlt)]
   simp[h2]
  rw[this]
  exact C.plain_rep h3
 ·intro t v ht b hb'
  obtain⟨c,h1,rfl⟩:=back ht
  simp only[V.ids,C.plain_ids] at hb'
  exact hi c (List.mem_of_getElem? h1) b hb'
 ·intro t sz xs ht
  obtain⟨c,_,e⟩:=back ht
  cases c<;>simp[C.plain] at e
 ·intro t l sz xs ht
  obtain⟨c,_,e⟩:=back ht
  simp at e
 intro b cells hc
 rw[show (St.heap { tmps:=nT 0 (args.map λc=>V.c c.plain),heap:=nT 0 lh,nid:=lh.length,defers:=[],pan:=none })=nT 0 lh from rfl,AeH,if_pos (by omega),Nat.sub_zero] at hc
 obtain⟨h1,h2⟩:=hh b cells hc
 exact⟨(List.getElem?_eq_some_iff.1 hc).1,h1,h2⟩
def EndOK (K:Col) (μ:Nat->Nat) (w:World) (n:Nat) (r:aE) (e:Ending) (w':World):Prop:=
 ∃K' μ',Step iQ K w K' w'/\rY K' w'/\(∀i,i<n->μ' i=μ i) /\
  match r with
  |.ret v lh'=>n<=lh'.length/\AjN K' μ' w' lh'/\nA v/\(∀b∈v.ids,b<lh'.length)/\∃u,e=.returned u/\RepV K' μ' w' v u
  |.pan d lh'=>lh'.length=n/\AjN K' μ' w' lh'/\∃u,e=.panicked [⟨u,false,false⟩]/\Rep K' w' d u
theorem AuS {n:Nat} {s':St} {a':Act} {extra ids:List Nat} {lh':List (List C)} (ha:After K μ w n K' μ' w') (hs':Sim K' μ' s' a' w')
  (ho:AeO s'.heap n extra=some (ids,lh')) :
  Step iQ K w (λb o=>hO ids (K' b o)) w'/\rY (λb o=>hO ids (K' b o)) w'/\(∀i,i<n->μ' (ids.getD i 0)=μ i)/\n<=lh'.length /\
   AjN (λb o=>hO ids (K' b o)) (λi=>μ' (ids.getD i 0)) w' lh'/\lh'.length=ids.length:=by
 obtain⟨q1,q2,r',q3⟩:=AxI hs' ho
 refine⟨⟨ha.step.os,ha.step.tape,ha.step.output,ha.step.size,ha.step.block,λb o hb' hn=>?_,ha.step.ex⟩,λb o hb'=>by simp only[hs'.bound b o hb']; rfl,?_,?_,q1,q2⟩
 ·have hc:=ha.step.cell b o hb' hn
  refine⟨hc.1,hc.2.1,?_⟩
  simp only[hc.2.2]
  have:K b o=.ro\/K b o=.other:=by
   by_cases h1:K b o=.ro
   ·exact .inl h1
   by_cases h2:K b o=.other
   ·exact .inr h2
   exact absurd ⟨h1,h2⟩ hn
  rcases this with h1|h1<;>rw[h1]<;>rfl
 ·intro i hi'
  have hgd:ids.getD i 0=i:=by
   rw[q3]
   simp only[List.getD,List.getElem?_append_left (show i<(bE 0 n).length by rw[wL]; exact hi'),An0 hi']
   simp
  rw[hgd,ha.mu i hi']
 rw[q2,q3,List.length_append,wL]; omega
theorem AkF {n:Nat} {s':St} {a':Act} {fn:Func} {r:aE} (ha:After K μ w n K' μ' w') (hs':Sim K' μ' s' a' w') (h:tS P fn n s'=some r) :
  ∃u,(results fn a'.tmps).run P w'=.ok u w'/\EndOK K μ w n r (.returned u) w'/\∃v lh,r=.ret v lh:=by
 unfold tS at h
 split at h
 ·simp at h
 rename_i s1 hfz
 obtain⟨K1,hst1,hn1,hd1,hs1⟩:=Aa8 hs' hfz
 have ha:=ha.trans (m:=n) ⟨hst1,λ_ _=>rfl⟩ (Nat.le_refl _)
 clear hs'
 have hs':=hs1
 split at h
 ·rename_i v hv
  split at h
  ·rename_i ids lh' hob
   split at h
   ·rename_i v' hv'
    simp only[sJ] at h; subst h
    obtain⟨u,hu,hru,hvi,hpl⟩:=Bf3 hs' hv
    obtain⟨g1,g2,g3,g4,g5,g6⟩:=AuS ha hs' hob
    obtain⟨k1,k2,k3⟩:=V.into_rep (K':=λb o=>hO ids (K1 b o)) (μ':=λi=>μ' (ids.getD i 0)) (λb o h=>by rw[h]; rfl)
     (λi b h=>by simp[List.getD,h]) hv' hru hpl
    exact⟨u,hu,⟨_,_,g1,g2,g3,g4,g5,k3,by rw[g6]; exact k2,u,rfl,k1⟩,v',lh',rfl⟩
   simp at h
  simp at h
 simp at h
theorem AtY {n:Nat} {s':St} {a':Act} {d:D} {u:Value} {r:aE} (ha:After K μ w n K' μ' w') (hs':Sim K' μ' s' a' w') (hu:Rep K' w' d u) (h:AlN d n s'=some r) :
  EndOK K μ w n r (.panicked [⟨u,false,false⟩]) w':=by
 unfold AlN at h
 split at h
 ·rename_i ids lh' hob
  split at h
  ·rename_i hl
   simp only[sJ] at h; subst h
   obtain⟨g1,g2,g3,g4,g5,g6⟩:=AuS ha hs' hob
   exact⟨_,_,g1,g2,g3,by rw[g6]; exact hl,g5,u,rfl,Rep.recolor (λb o h=>by rw[h]; rfl) _ _ hu⟩
  simp at h
 simp at h
theorem Sim.defs_nil (hs:Sim K μ s a w):Sim K μ { s with defers:=[] } { a with defers:=[] } w:=
 ⟨hs.tm,hs.tids,hs.own,hs.view,hs.heap,hs.bound,rfl,by simp,hs.glob⟩
def AbI:Option D->Value->FrameMode
 |none,_=>.returning
 |some _,u=>.panicking [⟨u,false,false⟩]
def AsQ:Option D->Value->FrameMode
 |none,_=>.returning
 |some _,u=>.panicking [⟨u,true,false⟩]
def BfY (P:Program) (pan:Option D) (f:Nat) (args:List C) (lh:List (List C)) (r:aE):Prop:=
 ∀K μ w vs pu,bB K μ w args vs->(∀c∈args,∀b∈c.ids,b<lh.length)->AjN K μ w lh->rY K w->AjM K w->(∀d,pan=some d->Rep K w d pu) ->
  CallsD P f vs.toArray (AbI pan pu) w λe m w'=>EndOK K μ w lh.length r e w'/\m=(if AiM P f then AsQ pan pu else AbI pan pu)/\∃u,e=.returned u
theorem An9 {o:Oper} (h:BaY o=true):(execOp a.eval o).run P w=.ok .recover w/\o.guard=none:=by
 unfold BaY at h
 split at h
 ·rename_i c ho hg
  split at h
  ·rename_i hc
   refine⟨?_,hg⟩
   simp[execOp,ho,resolve,hc,invoke,builtin]
  simp at h
 simp at h
theorem AtH (hP:oB P) (H:Nat->Nat->List Nat) {call:Call} (ih:zH P call) (k:Nat) (pan:Option D) {f:Nat} {args:List C} {lh:List (List C)} {r:aE} (h:Ao7 P H call k pan f args lh=some r) :
  Callee P f/\BfY P pan f args lh r:=by
 unfold Ao7 at h
 split at h
 ·rename_i fn hfn
  split at h
  ·rename_i code hcode
   split at h
   ·rename_i hlen
    refine⟨⟨fn,hfn,by rw[hcode]; rfl⟩,?_⟩
    intro K μ w vs pu hr hi hh hb hgl hpu
    have hfo:=hP.func f fn hfn
    simp only[Aj6,hcode,Bool.and_eq_true] at hfo
    have hsim:=Am8 (n:=fn.ntmps-vs.toArray.size) hr hi hh hb hgl
    have hdb:=gU (m:=(vs.toArray++Array.replicate (fn.ntmps-vs.toArray.size) Go.undef).size) (by simp; omega) code hfo.2
    have hrec:AiM P f=BcN code:=by simp only[AiM,hfn,hcode]
    have done:∀{x:AX} {s':St} {e:Exit} {K':Col} {μ':Nat->Nat} {a':Act} {w':World},(match x with|.normal|.ret=>if s'.defers.isEmpty then tS P fn lh.length s' else none|_=>none)=some r->Out K' w' x e->After K μ w lh.length K' μ' w' ->
      Sim K' μ' s' a' w'->(e=.normal\/e=.ret)/\a'.defers=[]/\∃u,(results fn a'.tmps).run P w'=.ok u w'/\EndOK K μ w lh.length r (.returned u) w':=by
     intro x s' e K' μ' a' w' hx ho ha hs'
     have key:∀{o:Option aE},(if s'.defers.isEmpty then tS P fn lh.length s' else none)=o->o=some r->a'.defers=[]/\∃u,(results fn a'.tmps).run P w'=.ok u w'/\EndOK K μ w lh.length r (.returned u) w':=by
      intro o h1 h2
      subst h2
      split at h1
      ·rename_i hd
       obtain⟨u,hu,hE,_⟩:=AkF ha hs' h1
       exact⟨by rw[hs'.defs,List.isEmpty_iff.1 hd]; rfl,u,hu,hE⟩
      simp at h1
     cases x with
     |normal=>exact⟨.inl ho,key rfl hx⟩
     |ret=>exact⟨.inr ho,key rfl hx⟩
     |exit id=>simp at hx
     |pan d=>simp at hx
    have h':∃x s',AyK P (H f) call k pan code (Aa9 args lh)=some (x,s')/\(match x with|.normal|.ret=>if s'.defers.isEmpty then tS P fn lh.length s' else none|_=>none)=some r:=by
     split at h
     ·rename_i s' he; exact⟨_,s',he,h⟩
     ·rename_i s' he; exact⟨_,s',he,h⟩
     simp at h
    obtain⟨x,s',hex,hx⟩:=h'
    unfold AyK at hex
    split at hex
    ·rename_i hrc
     refine (callsD_of_wp (R:=λe w'=>EndOK K μ w lh.length r e w'/\∃u,e=.returned u) hfn hcode (iL ih hP code hdb hex hsim rfl ?_)).mono ?_
     ·intro e K' μ' a' w' ho ha hn hs' hsz
      obtain⟨he,hd,u,hu,hE⟩:=done hx ho ha hs'
      rcases he with rfl|rfl
      ·exact⟨hd,u,hu,hE,u,rfl⟩
      exact⟨hd,u,hu,hE,u,rfl⟩
     rintro e u' w' ⟨rfl,hE,hu⟩
     exact⟨hE,by rw[hrec,hrc]; rfl,hu⟩
    rename_i hrc
    split at hex
    ·rename_i id ops b
     split at hex
     ·rename_i o o1 hops
      have hdops:∀q∈ops.toList,∀t,q.dst=some t->t<(vs.toArray++Array.replicate (fn.ntmps-vs.toArray.size) Go.undef).size:=by
       intro q hq t ht
       simp only[dJ,Bool.and_eq_true,List.all_eq_true] at hdb
       have:=hdb.1 q hq
       rw[ht] at this
       simpa using this
      have hdbb:dJ (vs.toArray++Array.replicate (fn.ntmps-vs.toArray.size) Go.undef).size b=true:=by
       simp only[dJ,Bool.and_eq_true] at hdb
       exact hdb.2
      simp only[BcN,hops] at hrc
      obtain⟨hr0,d,hd0,ha1,hg1⟩:BaY o=true/\∃d,o.dst=some d/\o1.op=.assign (.tmp d)/\o1.guard=none:=by
       revert hrc
       simp only[Bool.and_eq_true]
       rintro⟨h1,h2⟩
       refine⟨h1,?_⟩
       split at h2
       ·rename_i d x e1 e2 e3
        simp only[beq_iff_eq] at h2
        subst h2
        exact⟨_,e1,e2,e3⟩
       simp at h2
      refine callsD_of_wpS hfn hcode ?_
      generalize hA0:({ tmps:=vs.toArray++Array.replicate (fn.ntmps-vs.toArray.size) Go.undef,defers:=[] }:Act)=a0 at hsim ⊢
      have hsz0:a0.tmps.size=(vs.toArray++Array.replicate (fn.ntmps-vs.toArray.size) Go.undef).size:=by rw[←hA0]
      rw[←hsz0] at hdbb hdops
      intro c₀ cs hc0
      refine wpS_seq (wpS_region ?_)
      have h0:ops[0]?=some o:=by rw[←Array.getElem?_toList,hops]; rfl
      have h1:ops[1]?=some o1:=by rw[←Array.getElem?_toList,hops]; rfl
      have hsize:ops.size=2:=by rw[←Array.length_toList,hops]; rfl
      rw[hsize,show List.range 2=[0,1] from rfl]
      simp only[wpOpsS,h0,h1]
      have wanted:∀{q:Oper} {t:Array Value},q.guard=none->Region.wanted q (yielded ops t)=true:=by
       intro q t hq
       simp[Region.wanted,hq]
      rw[wanted (An9 (a:={ tmps:=#[],defers:=[] }) (P:=P) (w:=w) hr0).2]
      simp only[if_true]
      rw[(An9 hr0).1]
      simp only
      have hdl:d<a0.tmps.size:=hdops o (by rw[hops]; simp) d hd0
      have hrun1:∀v,(execOp (Act.put a0 o.dst v).eval o1).run P w=.ok (.value v) w:=by
       intro v
       have:(Act.put a0 o.dst v).eval (.tmp d)=v:=by
        rw[hd0]
        show (Act.put a0 (some d) v).tmps.getD d Go.undef=v
        rw[Ag9,if_pos ⟨rfl,hdl⟩]
       simp[execOp,ha1,this]
      have fin:∀(v:Value) (cs':List Frame),RepV K μ w (AzI pan) v->(∃u',cs'={ c₀ with mode:=u' }::cs/\u'=AsQ pan pu) ->
        b.wpS P (bodyPostS P fn c₀ cs λe m w'=>EndOK K μ w lh.length r e w'/\m=(if AiM P f then AsQ pan pu else AbI pan pu)/\∃u,e=.returned u) ((Act.put a0 o.dst v).put o1.dst v) cs' w:=by
       intro v cs' hv hcs
       refine wpS_of_wp ?_
       have hs0:=hsim.keep (H f id)
       have hgood:∀{K:Col} {μ:Nat->Nat} {s:St} {a:Act} {w:World} {dst:Option Nat},RepV K μ w (AzI pan) v->Good K μ s a w dst (AzI pan) v:=by
        intro K μ s a w dst hv
        refine⟨hv,?_,?_,?_⟩<;>cases pan<;>simp[AzI,Go.AM.V.ids,C.ids]
       have hs1:=hs0.put (dst:=o.dst) (hdops o (by rw[hops]; simp)) (hgood hv)
       have hs2:=hs1.put (dst:=o1.dst) (by rw[mG]; exact hdops o1 (by rw[hops]; simp)) (hgood hv)
       have hnid:∀(q:Oper) (V:V) (s:St),(putDst q V s).nid=s.nid:=by intro q V s; unfold putDst mF; cases q.dst<;>rfl
       refine iL ih hP b (by rw[mG,mG]; exact hdbb) hex hs2 rfl ?_
       intro e K' μ' a' w' ho ha hn hs' hsz
       have hnid2:∀(dst:Option Nat) (V:V) (s:St),(mF dst V s).nid=s.nid:=by intro dst V s; cases dst<;>rfl
       simp only[hnid,hnid2] at ha
       obtain⟨he,hd,u,hu,hE⟩:=done hx ho ha hs'
       obtain⟨u',hcs,hu'⟩:=hcs
       have hm:u'=(if AiM P f then AsQ pan pu else AbI pan pu):=by
        rw[hrec,show BcN (.seq (.region id ops false) b)=true from by simp only[BcN,hops]; exact hrc]; exact hu'
       rcases he with rfl|rfl
       ·exact⟨hd,u',hcs,u,hu,hE,hm,u,rfl⟩
       exact⟨hd,u',hcs,u,hu,hE,hm,u,rfl⟩
      cases pan with
      |none=>
       have e:({ c₀ with mode:=.returning }:Frame)=c₀:=by cases c₀; simp only[AbI] at hc0; simp only[hc0]
       have:recoverD (c₀::cs)=none:=by simp only[recoverD,hc0,AbI]
       rw[this]
       simp only[wanted hg1,if_true,hrun1,Oper.upon_value]
       exact fin .nilIface (c₀::cs) (by simp[AzI,RepV,RepC,Rep]) ⟨.returning,by rw[e],rfl⟩
      |some d'=>
       have:recoverD (c₀::cs)=some (pu,{ c₀ with mode:=.panicking [⟨pu,true,false⟩] }::cs):=by simp only[recoverD,hc0,AbI]
       rw[this]
       simp only[wanted hg1,if_true,hrun1,Oper.upon_value]
       exact fin pu _ (show Rep K w d' pu from hpu d' rfl) ⟨.panicking [⟨pu,true,false⟩],rfl,rfl⟩
     simp at hex
    simp at hex
   simp at h
  simp at h
 simp at h
theorem AqU (hP:oB P) (H:Nat->Nat->List Nat) {call:Call} (ih:zH P call) (k:Nat) (pan:Option D) {f:Nat} {args:List C} {r:gF} {ids:List Nat} (h:mI (Ao7 P H call k pan) f args s=some (r,ids)) (hs:Sim K μ s a w)
  {vs:List Value} (hargs:bB K μ w args vs) {pu:Value} (hpu:∀d,pan=some d->Rep K w d pu) :
  Callee P f/\CallsD P f vs.toArray (AbI pan pu) w λe m w'=>m=(if AiM P f then AsQ pan pu else AbI pan pu)/\∃K' μ',After K μ w s.nid K' μ' w'/\Bd7 K' μ' s a w' s.nid r e/\∃u,e=.returned u:=by
 obtain⟨args',lh,r',h1,h2,h3,h4,h5,h6,h7⟩:=Ak1 h hs hargs
 obtain⟨q1,q2⟩:=AtH hP H ih k pan h1
 refine⟨q1,(q2 _ _ _ _ _ h2 h3 h4 h5 h6 (λd hd=>?_)).mono ?_⟩
 ·exact Rep.recolor (λb o h=>by rw[h]; rfl) _ _ (hpu d hd)
 rintro e m w' ⟨hE,hm,hu⟩
 obtain⟨K',μ',hA,hR⟩:=h7 e w' hE
 exact⟨hm,K',μ',hA,hR,hu⟩
theorem uW (hP:oB P) (H:Nat->Nat->List Nat) {call:Call} (ih:zH P call) (k:Nat) {fn:Func} {tmps:Array Value} {R:Ending->World->Prop} :
  ∀(ds:List (Nat×List Nat)) (pan:Option D) (pu:Value) (s:St) (K:Col) (μ:Nat->Nat) (w:World) {pan':Option D} {s':St},tL P H call k ds pan s=some (pan',s')->s.defers=[] ->
   Sim K μ s { tmps:=tmps,defers:=[] } w->(∀x∈ds,∀b∈x.2,b<s.nid)->(∀d,pan=some d->Rep K w d pu) ->
   (∀K' μ' w' pu',After K μ w s.nid K' μ' w'->s.nid<=s'.nid->Sim K' μ' s' { tmps:=tmps,defers:=[] } w'->(∀d,pan'=some d->Rep K' w' d pu')->Leaves P fn tmps R [] (AbI pan' pu') w') ->
   Leaves P fn tmps R (ds.map (AaV μ)) (AbI pan pu) w
 | [],pan,pu,s,K,μ,w,pan',s',h,_,hs,_,hpu,hend=>by
  simp only[tL,sJ,pJ] at h
  obtain⟨rfl,rfl⟩:=h
  exact hend K μ w pu (After.refl _ _ _ _) (Nat.le_refl _) hs hpu
 |(g,caps)::ds,pan,pu,s,K,μ,w,pan',s',h,hd0,hs,hin,hpu,hend=>by
  simp only[tL] at h
  split at h
  ·rename_i v s1 ids hc
   have hargs:bB K μ w (caps.map λb=>C.ptr b 0) (caps.map λb=>Value.pointer (some (ad (μ b) 0))):=by
    refine bB.of_get (by simp) λi c v hc hv=>?_
    simp only[List.getElem?_map,Option.map_eq_some_iff] at hc hv
    obtain⟨b,hb,rfl⟩:=hc
    obtain⟨b',hb',rfl⟩:=hv
    rw[hb,sJ] at hb'; subst hb'
    rfl
   obtain⟨⟨fg,hfg,hbg⟩,hcall⟩:=AqU hP H ih k pan hc hs hargs hpu
   have hmode:AbI pan pu≠.run:=by cases pan<;>simp[AbI]
   simp only[List.map_cons]
   refine leaves_cons (fv:=.func g) (f:=g) hmode ?_ (hcall.mono ?_)
   ·have hbn:fg.body.isNone=false:=by cases hb:fg.body<;>simp[hb] at hbg ⊢
    have hnm:(fg.name == "runtime.NumGoroutine")=false:=by
     have:=hP.func g fg hfg
     simp only[Aj6,Bool.and_eq_true,Bool.not_eq_true'] at this
     exact this.1
    simp[invoke,callFunc,hfg,hnm,hbn,-beq_iff_eq,-beq_eq_false_iff_ne,-Option.isNone_iff_eq_none]
   rintro e m w' ⟨hm,K',μ',hA,hR,u,rfl⟩
   obtain⟨hs',hn,hpl,hvi,hdf,_⟩:=hR
   have hset:Go.settle m=AbI (if AiM P g then none else pan) pu:=by
    subst hm
    cases hr:AiM P g<;>cases pan<;>simp[AbI,AsQ,Go.settle]
   show Leaves P fn tmps R (ds.map (AaV μ)) (Go.settle m) w'
   rw[hset]
   have hmap:ds.map (AaV μ)=ds.map (AaV μ'):=by
    refine List.map_congr_left λx hx=>?_
    unfold AaV
    congr 3
    refine List.map_congr_left λb hb=>?_
    rw[hA.mu b (hin x (List.mem_cons_of_mem _ hx) b hb)]
   rw[hmap]
   refine uW hP H ih k ds _ pu s1 K' μ' w' h (by rw[hdf,hd0]) hs' (λx hx b hb=>Nat.lt_of_lt_of_le (hin x (List.mem_cons_of_mem _ hx) b hb) hn) ?_ ?_
   ·intro d hd
    split at hd
    ·simp at hd
    exact Rep.step hA.step (by simp[iQ]) _ _ (hpu d hd)
   intro K2 μ2 w2 pu2 hA2 hn2 hs2 hp2
   exact hend K2 μ2 w2 pu2 (hA.trans hA2 hn) (by omega) hs2 hp2
  simp at h
theorem Au5 (hP:oB P) (H:Nat->Nat->List Nat) {call:Call} (ih:zH P call) (k:Nat) {fn:Func} {n:Nat} {x:AX} {s':St} {r:aE} {e:Exit} {a':Act} (h:finish P H call k fn n x s'=some r)
  (ho:Out K' w' x e) (ha:After K μ w n K' μ' w') (hn:n<=s'.nid) (hs':Sim K' μ' s' a' w'):bodyPostD P fn (λe w'=>EndOK K μ w n r e w') e a' w':=by
 have hs0:Sim K' μ' { s' with defers:=[] } { tmps:=a'.tmps,defers:=[] } w':=hs'.defs_nil
 have ret0:∀{s2:St} {K2:Col} {μ2:Nat->Nat} {w2:World},tS P fn n s2=some r->After K μ w n K2 μ2 w2->Sim K2 μ2 s2 { tmps:=a'.tmps,defers:=[] } w2->Leaves P fn a'.tmps (λe w'=>EndOK K μ w n r e w') [] .returning w2:=by
  intro s2 K2 μ2 w2 he ha2 hs2
  obtain⟨u,hu,hE,_⟩:=AkF ha2 hs2 he
  exact⟨u,hu,hE⟩
 have pan0:∀{d:D} {u:Value} {s2:St} {K2:Col} {μ2:Nat->Nat} {w2:World},AlN d n s2=some r->After K μ w n K2 μ2 w2->Sim K2 μ2 s2 { tmps:=a'.tmps,defers:=[] } w2->Rep K2 w2 d u->Leaves P fn a'.tmps (λe w'=>EndOK K μ w n r e w') [] (.panicking [⟨u,false,false⟩]) w2:=
  fun he ha2 hs2 hu=>AtY ha2 hs2 hu he
 have normal:∀{o:Option aE},(if s'.defers.isEmpty then tS P fn n s' else
   match tL P H call k s'.defers none { s' with defers:=[] } with
   |some (none,s')=>tS P fn n s'
   |_=>none)=o->o=some r->Leaves P fn a'.tmps (λe w'=>EndOK K μ w n r e w') a'.defers .returning w':=by
  intro o h1 h2
  subst h2
  rw[hs'.defs]
  split at h1
  ·rename_i hd
   rw[List.isEmpty_iff.1 hd]
   refine ret0 (s2:=s') h1 ha ?_
   have:=hs'.defs_nil
   rw[←List.isEmpty_iff.1 hd] at this
   exact this
  split at h1
  ·rename_i s2 hrun
   refine uW hP H ih k s'.defers none Go.undef _ K' μ' w' hrun rfl hs0 hs'.dids (by simp) ?_
   intro K2 μ2 w2 pu2 hA hn2 hs2 _
   exact ret0 h1 (ha.trans hA hn) hs2
  simp at h1
 cases x with
 |normal=>simp only[Out] at ho; subst ho; exact normal rfl h
 |ret=>simp only[Out] at ho; subst ho; exact normal rfl h
 |exit id=>simp[finish] at h
 |pan d=>
  obtain⟨u,rfl,hu⟩:=ho
  show Leaves P fn a'.tmps _ a'.defers (.panicking [⟨u,false,false⟩]) w'
  rw[hs'.defs]
  simp only[finish] at h
  split at h
  ·rename_i hd
   rw[List.isEmpty_iff.1 hd]
   refine pan0 (s2:=s') h ha ?_ hu
   have:=hs'.defs_nil
   rw[←List.isEmpty_iff.1 hd] at this
   exact this
  split at h
  ·rename_i s2 hrun
   refine uW hP H ih k s'.defers (some d) u _ K' μ' w' hrun rfl hs0 hs'.dids (by intro d' e; simp only[sJ] at e; subst e; exact hu) ?_
   intro K2 μ2 w2 pu2 hA hn2 hs2 _
   exact ret0 h (ha.trans hA hn) hs2
  ·rename_i d' s2 hrun
   refine uW hP H ih k s'.defers (some d) u _ K' μ' w' hrun rfl hs0 hs'.dids (by intro d' e; simp only[sJ] at e; subst e; exact hu) ?_
   intro K2 μ2 w2 pu2 hA hn2 hs2 hp2
   exact pan0 h (ha.trans hA hn) hs2 (hp2 d' rfl)
  simp at h
theorem AtG (hP:oB P) {E:Nat->Option Call} (hE:∀f g,E f=some g->∀args lh r,g f args lh=some r->Callee P f/\CallOK P f args lh r) (H:Nat->Nat->List Nat) {call:Call} (ih:zH P call) (k:Nat):pH P (AlF P E H call k):=by
 intro f args lh r h
 simp only[AlF] at h
 split at h
 ·rename_i g hg
  exact hE f g hg args lh r h
 split at h
 ·rename_i fn hfn
  split at h
  ·rename_i code hcode
   split at h
   ·rename_i hlen
    refine⟨⟨fn,hfn,by rw[hcode]; rfl⟩,?_⟩
    intro K μ w vs hr hi hh hb hgl
    have hfo:=hP.func f fn hfn
    simp only[Aj6,hcode,Bool.and_eq_true] at hfo
    have hsim:=Am8 (n:=fn.ntmps-vs.toArray.size) hr hi hh hb hgl
    have hdb:=gU (m:=(vs.toArray++Array.replicate (fn.ntmps-vs.toArray.size) Go.undef).size) (by simp; omega) code hfo.2
    split at h
    ·rename_i x s' hex
     refine calls_of_wp_defers (R:=λe w'=>EndOK K μ w lh.length r e w') hfn hcode (iL ih hP code hdb hex hsim rfl ?_)
     intro e K' μ' a' w' ho ha hn hs' hsz
     exact Au5 hP H ih k h ho ha hn hs'
    simp at h
   simp at h
  simp at h
 simp at h
theorem CallOK.of_still {f:Nat} {args:List C} {lh:List (List C)} {r:aE} (h:CallOK P f (args.map C.still) lh r):CallOK P f args lh r:=by
 intro K μ w vs hr hi hh hb hg
 refine h K μ w vs hr.still ?_ hh hb hg
 intro c hc b hbb
 simp only[List.mem_map] at hc
 obtain⟨c',hc',rfl⟩:=hc
 rw[C.still_ids] at hbb
 exact hi c' hc' b hbb
omit [cR] in
theorem AvY {f g:Nat} (h:g=f+yZ):Nat.blt g yZ=false:=by
 have h1:yZ<=g:=by rw[h]; exact Nat.le_add_left _ _
 cases hb:Nat.blt g yZ with
 |false=>rfl
 |true=>exact absurd (Nat.lt_of_lt_of_le (Nat.blt_eq.mp hb) h1) (Nat.lt_irrefl _)
omit [cR] in
theorem Ay9 {f g:Nat} (h:g=f+yZ):g-yZ=f:=by rw[h]; exact Nat.add_sub_cancel _ _
theorem Bf4 (hs:Sim K μ s a w) {fn:Func} {v:V} (h:Bj8 P s fn.results.toList=some v) :
  ∃u,(results fn a.tmps).run P w=.ok u w/\RepV K μ w v u/\(∀b∈v.ids,b<s.nid)/\nA v:=by
 unfold Bj8 at h
 split at h
 ·rename_i p t hres
  split at h
  ·rename_i b off n hp ht hn
   split at h
   ·rename_i cs hb0
    obtain⟨cs0,hb,hbm,rfl⟩:=xU hb0
    obtain⟨vs,hrv,hcv⟩:=(hs.heap b cs0 hb).2.2.vals hbm
    split at h
    ·rename_i hle
     simp only[Option.map_eq_some_iff] at h
     obtain⟨ds,hds,rfl⟩:=h
     have hpr:=(hs.tm p _ hp).2
     simp only[RepV,RepC] at hpr
     obtain⟨hl0,hsp⟩:=lM hds
     have hnh:∀i,i<n->(fA cs0)[off+i]?≠some .hid:=by
      intro i hi e
      obtain⟨y,hy,_⟩:=hsp i C.hid (by rw[List.getElem?_take,if_pos hi,rD]; exact e)
      simp[C.told] at hy
     have hl:=Ac6 (P:=P) (w:=w) ht hn (μ b) off ((vs.drop off).take n) (by have:=hrv.length; simp; omega)
      (λi v hv=>by
       rw[List.getElem?_take] at hv
       split at hv
       ·rename_i hin; rw[rD] at hv; exact (hcv _ v hv (hnh i hin)).1
       simp at hv)
     have h1:∀u∈(vs.drop off).take n,fB u=true:=by
      intro u hu
      obtain⟨i,hi⟩:=List.getElem?_of_mem hu
      rw[List.getElem?_take] at hi
      split at hi
      ·rename_i hin; rw[rD] at hi; exact (hcv _ u hi (hnh i hin)).2.1
      simp at hi
     have htold:∀{l l':List C} {us:List Value},aZ C.told l=some l'->bB K μ w l us->bB K μ w l' us/\∀c∈l',∀i∈c.ids,∃c0∈l,i∈c0.ids:=by
      intro l
      induction l with
      |nil=>
       intro l' us e hr
       simp only[aZ,sJ] at e; subst e
       cases hr
       exact⟨.nil,by simp⟩
      |cons c l ih=>
       intro l' us e hr
       simp only[aZ] at e
       split at e
       ·rename_i y ys hy hys
        simp only[sJ] at e; subst e
        cases hr with
        |cons r1 r2=>
         obtain⟨q1,q2⟩:=ih hys r2
         have hyc:y=c.still:=by cases c<;>simp only[C.told,reduceCtorEq,sJ] at hy<;>exact hy.symm
         subst hyc
         refine⟨.cons (C.still_rep r1) q1,λx hx i hi=>?_⟩
         rcases List.mem_cons.1 hx with rfl|hx
         ·exact⟨c,by simp,by rw[C.still_ids] at hi; exact hi⟩
         obtain⟨c0,h0,h1⟩:=q2 x hx i hi
         exact⟨c0,by simp[h0],h1⟩
       simp at e
     obtain⟨g1,g2⟩:=htold hds ((hrv.drop off).take n)
     have hres':fn.results=#[.cell p t]:=by apply Array.ext'; simpa using hres
     refine⟨.agg ((vs.drop off).take n).toArray,?_,⟨_,rfl,g1,h1⟩,?_,by simp[nA]⟩
     ·have e1:(Ad6 a.tmps (.cell p t)).run P w=.ok (.agg ((vs.drop off).take n).toArray) w:=by
       simp only[Ad6,hpr,asAddr,Sem.run_bind,Sem.run_pure,Result.andThen_ok]; exact hl
      exact AxU hres' e1
     intro i hi
     simp only[V.ids,List.mem_flatMap] at hi
     obtain⟨c,hc,hi⟩:=hi
     obtain⟨c0,h0,hi⟩:=g2 c hc i hi
     exact hs.flat_ids hb (List.mem_of_mem_drop (List.mem_of_mem_take h0)) i hi
    simp at h
   simp at h
  simp at h
 simp at h
theorem AqZ {n:Nat} {s':St} {a':Act} {fn:Func} {r:aE} (ha:After K μ w n K' μ' w') (hs':Sim K' μ' s' a' w') (h:AhD P fn n s'=some r) :
  ∃u,(results fn a'.tmps).run P w'=.ok u w'/\EndOK K μ w n r (.returned u) w':=by
 unfold AhD at h
 split at h
 ·rename_i v hv
  split at h
  ·rename_i ids lh' hob
   split at h
   ·rename_i v' hv'
    simp only[sJ] at h; subst h
    obtain⟨u,hu,hru,hvi,hpl⟩:=Bf4 hs' hv
    obtain⟨g1,g2,g3,g4,g5,g6⟩:=AuS ha hs' hob
    obtain⟨k1,k2,k3⟩:=V.into_rep (K':=λb o=>hO ids (K' b o)) (μ':=λi=>μ' (ids.getD i 0)) (λb o h=>by rw[h]; rfl)
     (λi b h=>by simp[List.getD,h]) hv' hru hpl
    exact⟨u,hu,⟨_,_,g1,g2,g3,g4,g5,k3,by rw[g6]; exact k2,u,rfl,k1⟩⟩
   simp at h
  simp at h
 simp at h
theorem AtI (hP:oB P) (H:Nat->Nat->List Nat) {call:Call} (ih:zH P call) (k:Nat) {g f:Nat} {args:List C} {lh:List (List C)} {r:aE} (h:AlG P H call k g f args lh=some r) :
  Callee P f/\CallOK P f args lh r:=by
 unfold AlG at h
 split at h
 ·rename_i fn hfn
  split at h
  ·rename_i code hcode
   split at h
   ·rename_i hlen
    refine⟨⟨fn,hfn,by rw[hcode]; rfl⟩,?_⟩
    intro K μ w vs hr hi hh hb hgl
    have hfo:=hP.func f fn hfn
    simp only[Aj6,hcode,Bool.and_eq_true] at hfo
    have hsim:=Am8 (n:=fn.ntmps-vs.toArray.size) hr hi hh hb hgl
    have hdb:=gU (m:=(vs.toArray++Array.replicate (fn.ntmps-vs.toArray.size) Go.undef).size) (by simp; omega) code hfo.2
    have h':∃x s',iK P (H g) call k code (Aa9 args lh)=some (x,s')/\(x=.normal\/x=.ret)/\s'.defers=[]/\AhD P fn lh.length s'=some r:=by
     split at h
     ·rename_i s' he
      split at h
      ·rename_i hd; exact⟨_,s',he,.inl rfl,List.isEmpty_iff.1 hd,h⟩
      simp at h
     ·rename_i s' he
      split at h
      ·rename_i hd; exact⟨_,s',he,.inr rfl,List.isEmpty_iff.1 hd,h⟩
      simp at h
     simp at h
    obtain⟨x,s',hex,hx,hd,hend⟩:=h'
    refine calls_of_wp_defers (R:=λe w'=>EndOK K μ w lh.length r e w') hfn hcode (iL ih hP code hdb hex hsim rfl ?_)
    intro e K' μ' a' w' ho ha hn hs' hsz
    obtain⟨u,hu,hE⟩:=AqZ ha hs' hend
    have he:e=.normal\/e=.ret:=by
     rcases hx with rfl|rfl
     ·exact .inl ho
     exact .inr ho
    have hdd:a'.defers=[]:=by rw[hs'.defs,hd]; rfl
    rcases he with rfl|rfl
    ·show Leaves P fn a'.tmps _ a'.defers .returning w'
     rw[hdd]; exact⟨u,hu,hE⟩
    show Leaves P fn a'.tmps _ a'.defers .returning w'
    rw[hdd]; exact⟨u,hu,hE⟩
   simp at h
  simp at h
 simp at h
omit [cR] in
theorem Ao9 {E:Nat->Option Call} (H:Nat->Nat->List Nat) (f:Nat) (args:List C) (lh:List (List C)):zO P E H 0 f args lh=none:=rfl
omit [cR] in
theorem Ah7 {E:Nat->Option Call} (H:Nat->Nat->List Nat) (k:Nat) {f:Nat} (hf:Nat.blt f yZ=true) (args:List C) (lh:List (List C)) :
 zO P E H (k+1) f args lh=AlF P E H (zO P E H k) k f (if (H f 999999).isEmpty then args.map C.still else args) lh:=by rw[zO,hf]
omit [cR] in
theorem Ao8 {E:Nat->Option Call} (H:Nat->Nat->List Nat) (k:Nat) {f g:Nat} (h1:Nat.blt g yZ=false) (h2:g-yZ=f) (args:List C) (lh:List (List C)) :
 zO P E H (k+1) g args lh=AlG P H (zO P E H k) k g f (args.map C.still) lh:=by rw[zO,h1,h2]
theorem Bg4 (hP:oB P) {E:Nat->Option Call} (hE:∀f g,E f=some g->∀args lh r,g f args lh=some r->Callee P f/\CallOK P f args lh r) (H:Nat->Nat->List Nat) {k:Nat} (ih:zH P (zO P E H k)):pH P (AbR (zO P E H (k+1))):=by
 intro f args lh r h
 have ih:=AtG hP hE H ih k
 unfold AbR at h
 split at h
 ·rename_i hf
  rw[Ah7 H k hf] at h
  have:=ih _ _ _ _ h
  split at this
  ·exact⟨this.1,this.2.of_still⟩
  exact this
 simp at h
theorem BdB (hP:oB P) {E:Nat->Option Call} (H:Nat->Nat->List Nat) {k:Nat} (ih:zH P (zO P E H k)) {f g:Nat} (h1:Nat.blt g yZ=false) (h2:g-yZ=f) {args:List C} {lh:List (List C)} {r:aE} (h:zO P E H (k+1) g args lh=some r) :
  Callee P f/\CallOK P f args lh r:=by
 rw[Ao8 H k h1 h2] at h
 have:=AtI hP H ih k h
 exact⟨this.1,this.2.of_still⟩
theorem Aw0 {call:Call} (h:∀f g args lh r,g=f+yZ->call g args lh=some r->Callee P f/\CallOK P f args lh r):pH P (ArN call):=
 fun f args lh r e=>h f (f+yZ) args lh r rfl e
theorem AbO (hP:oB P) {E:Nat->Option Call} (hE:∀f g,E f=some g->∀args lh r,g f args lh=some r->Callee P f/\CallOK P f args lh r) (H:Nat->Nat->List Nat) :
  ∀k,zH P (zO P E H k)
 |0=>⟨λf args lh r h=>by unfold AbR at h; split at h<;>simp[Ao9] at h,Aw0 λf g args lh r _ h=>by simp[Ao9] at h⟩
 |k+1=>⟨Bg4 hP hE H (AbO hP hE H k),Aw0 λf g args lh r hg h=>BdB hP H (AbO hP hE H k) (AvY hg) (Ay9 hg) h⟩
end
end Go.AM
namespace Go.AM
open Go Go.RowKit
variable [cR]
def colRo (w:World):Col:=λb _=>if b<w.heap.size then .ro else .other
theorem AqP {w w':World} {K':Col} (h:Step iQ (colRo w) w K' w'):Below w.heap.size w w':=
 ⟨h.os,h.tape,h.output,h.size,λb hb=>h.block b hb λoff hm=>by
  simp only[colRo,hb,if_true] at hm
  exact hm.1 rfl⟩
def Av9 (w:World):Prop:=∀x∈cR.tab,∀i v,x.2[i]?=some v->w.cell? (ad x.1 i)=some v
theorem Av9.glob {w:World} (h:Av9 w):AjM (colRo w) w:=by
 intro x hx i v hv
 have:=h x hx i v hv
 rw[Nat.zero_add]
 exact⟨by simp[colRo,block_lt this],this⟩
section
variable {P:Program} {f:Nat} {args:List C} {w:World} {vs:List Value}
theorem BbP {v:V} (h:CallOK P f args [] (.ret v [])) (hargs:bB (colRo w) (λ_=>0) w args vs) (hids:∀c∈args,c.ids=[]) (hg:Av9 w) :
  Calls P f vs.toArray w λe w'=>Below w.heap.size w w'/\∃u K' μ',e=.returned u/\RepV K' μ' w' v u:=by
 refine (h (colRo w) (λ_=>0) w vs hargs (λc hc b hb=>by rw[hids c hc] at hb; simp at hb) (λi cells hi=>by simp at hi)
  (λb off hb=>by simp only[colRo]; rw[if_neg (by omega)]) hg.glob).mono ?_
 rintro e w' ⟨K',μ',hst,_,_,_,_,_,_,u,rfl,hu⟩
 exact⟨AqP hst,u,K',μ',rfl,hu⟩
theorem calls_true (h:CallOK P f args [] (.ret (.d (.bool true)) [])) (hargs:bB (colRo w) (λ_=>0) w args vs) (hids:∀c∈args,c.ids=[]) (hg:Av9 w) :
  Calls P f vs.toArray w λe w'=>e=.returned (.bool true)/\Below w.heap.size w w':=by
 refine (BbP h hargs hids hg).mono ?_
 rintro e w' ⟨hb,u,K',μ',rfl,hu⟩
 simp only[RepV,RepC,Rep] at hu
 subst hu
 exact⟨rfl,hb⟩
end
end Go.AM
namespace Go.AM
open Go
def Evt (p:Nat->Prop):Prop:=∃k₀,∀k,k₀<=k->p k
theorem Evt.of {p:Nat->Prop} (h:∀k,p k):Evt p:=⟨0,λk _=>h k⟩
theorem Evt.and {p q:Nat->Prop} (h:Evt p) (h':Evt q):Evt λk=>p k/\q k:=by
 obtain⟨a,ha⟩:=h; obtain⟨b,hb⟩:=h'
 exact⟨max a b,λk hk=>⟨ha k (by omega),hb k (by omega)⟩⟩
theorem Evt.imp {p q:Nat->Prop} (h:Evt p) (hq:∀k,p k->q k):Evt q:=by
 obtain⟨a,ha⟩:=h; exact⟨a,λk hk=>hq k (ha k hk)⟩
theorem Evt.succ {p:Nat->Prop} (h:Evt λk=>p (k+1)):Evt p:=by
 obtain⟨a,ha⟩:=h
 refine⟨a+1,λk hk=>?_⟩
 obtain⟨j,rfl⟩:∃j,k=j+1:=⟨k-1,by omega⟩
 exact ha j (by omega)
structure Ctx where
 P:Program
 E:Nat->Option Call
 H:Nat->Nat->List Nat
abbrev Ctx.raw (X:Ctx) (k:Nat):Call:=zO X.P X.E X.H k
abbrev Ctx.call (X:Ctx) (k:Nat):Call:=AbR (X.raw k)
def aval (X:Ctx) (f:Nat) (args:List C) (lh:List (List C)) (r:aE):Prop:=Evt λk=>X.call k f args lh=some r
structure awp (X:Ctx) (f:Nat) (c:Code) (Q:AX->St->Prop) (s:St):Prop where
 ex:∃x s',(Evt λk=>iK X.P (X.H f) (X.raw k) k c s=some (x,s'))/\Q x s'
structure pL (X:Ctx) (ops:Array Oper) (l:List Oper) (Q:AX->St->Prop) (s:St):Prop where
 ex:∃x s',(Evt λk=>∀fs,∃fs',AiC X.P (X.call k) ops l s fs=some (x,s',fs'))/\Q x s'
structure nU (X:Ctx) (ops:Array Oper) (vs:List Nat) (base:Nat) (pre:List Fp) (l:List Oper) (i:Nat) (Q:AX->St->Prop) (s:St):Prop where
 ex:∃x s' fs,(Evt λk=>sX X.P (X.call k) ops false vs base l i s=some (x,s',fs))/\(AfP x.isPan ops base (pre++fs)&&decide (base<=s'.nid))=true/\Q x s'
structure cG (X:Ctx) (f:Nat) (c:Code) (clean:St->Option St) (Q:AX->St->Prop) (s:St):Prop where
 ex:∃x s',(∃m₀,Evt λk=>∀m,m₀<=m->iter (iK X.P (X.H f) (X.raw k) k c) clean m s=some (x,s'))/\Q x s'
inductive lE (X:Ctx) (f:Nat) (b:Code) (Q:AX->St->Prop):AX->St->Prop where
 |normal {s:St}:awp X f b Q s->lE X f b Q .normal s
 |exit {id:Nat} {s:St}:Q (.exit id) s->lE X f b Q (.exit id) s
 |ret {s:St}:Q .ret s->lE X f b Q .ret s
 |pan {d:D} {s:St}:Q (.pan d) s->lE X f b Q (.pan d) s
def yM (h:List Nat) (n:Nat) (s:St):Option St:=match h with
 | []=>some s
 |_::ks=>aH ks n s
theorem Ad7 {h:List Nat} {n:Nat} {s s':St} (hs:yM h n s=some s'):settle h n (some (.normal,s))=some (.normal,s'):=by
 cases h with
 |nil=>simp only[yM,sJ] at hs; subst hs; rfl
 |cons k ks=>simp only[yM] at hs; simp only[settle,hs]
inductive aK (id:Nat) (hk:List Nat) (n:Nat) (Q:AX->St->Prop):AX->St->Prop where
 |here {s s':St}:yM hk n s=some s'->Q .normal s'->aK id hk n Q (.exit id) s
 |there {id':Nat} {s:St}:(id'==id)=false->Q (.exit id') s->aK id hk n Q (.exit id') s
 |normal {s s':St}:yM hk n s=some s'->Q .normal s'->aK id hk n Q .normal s
 |ret {s:St}:Q .ret s->aK id hk n Q .ret s
 |pan {d:D} {s:St}:Q (.pan d) s->aK id hk n Q (.pan d) s
inductive fQ (hk:List Nat) (n:Nat) (Q:AX->St->Prop):AX->St->Prop where
 |normal {s s':St}:yM hk n s=some s'->Q .normal s'->fQ hk n Q .normal s
 |exit {id:Nat} {s:St}:Q (.exit id) s->fQ hk n Q (.exit id) s
 |ret {s:St}:Q .ret s->fQ hk n Q .ret s
 |pan {d:D} {s:St}:Q (.pan d) s->fQ hk n Q (.pan d) s
theorem fQ.settled {hk:List Nat} {n:Nat} {Q:AX->St->Prop} {x:AX} {s:St} (h:fQ hk n Q x s):∃s',settle hk n (some (x,s))=some (x,s')/\Q x s':=by
 cases h with
 |normal h1 h2=>exact⟨_,Ad7 h1,h2⟩
 |exit h=>exact⟨_,rfl,h⟩
 |ret h=>exact⟨_,rfl,h⟩
 |pan h=>exact⟨_,rfl,h⟩
theorem aK.settled {id:Nat} {hk:List Nat} {n:Nat} {Q:AX->St->Prop} {x:AX} {s:St} (h:aK id hk n Q x s):∃x' s',settle hk n (leaves id (some (x,s)))=some (x',s')/\Q x' s':=by
 cases h with
 |here h1 h2=>exact⟨_,_,by simp only[leaves,if_true]; exact Ad7 h1,h2⟩
 |there hn h=>
  refine⟨_,_,?_,h⟩
  simp only[leaves]
  rw[if_neg (by simpa using hn)]; rfl
 |normal h1 h2=>exact⟨_,_,Ad7 h1,h2⟩
 |ret h=>exact⟨_,_,rfl,h⟩
 |pan h=>exact⟨_,_,rfl,h⟩
section
variable {X:Ctx} {f:Nat} {Q:AX->St->Prop} {s:St}
theorem AvU (h:Q .normal s):awp X f .skip Q s:=⟨_,_,.of λ_=>rfl,h⟩
theorem Ba7 (h:Q .ret s):awp X f .ret Q s:=⟨_,_,.of λ_=>rfl,h⟩
theorem AvT {id:Nat} (h:Q (.exit id) s):awp X f (.exit id) Q s:=⟨_,_,.of λ_=>rfl,h⟩
theorem ArK {id:Nat} (h:Q .normal s):awp X f (.label id) Q s:=⟨_,_,.of λ_=>rfl,h⟩
theorem AtN {a b:Code} (h:awp X f a (lE X f b Q) s):awp X f (.seq a b) Q s:=by
 obtain⟨x,s',h1,h2⟩:=h
 cases x with
 |normal=>
  cases h2 with|normal h2=>
  obtain⟨x2,s2,h3,h4⟩:=h2
  exact⟨x2,s2,(h1.and h3).imp λk ⟨p,q⟩=>by simp only[iK,p,q],h4⟩
 |exit id=>cases h2 with|exit h2=>exact⟨_,s',h1.imp λk p=>by simp only[iK,p],h2⟩
 |ret=>cases h2 with|ret h2=>exact⟨_,s',h1.imp λk p=>by simp only[iK,p],h2⟩
 |pan d=>cases h2 with|pan h2=>exact⟨_,s',h1.imp λk p=>by simp only[iK,p],h2⟩
theorem AvR {o:Operand} {a b:Code} {c:Bool} (hc:ev s.tmps o=some (.c (.d (.bool c)))) (h:c=true->awp X f a (fQ (X.H f (uS a b)) s.nid Q) s) (h':c=false->awp X f b (fQ (X.H f (uS a b)) s.nid Q) s):awp X f (.cond o a b) Q s:=by
 cases c with
 |true=>
  obtain⟨x,s',h1,h2⟩:=h rfl
  obtain⟨s2,h3,h4⟩:=h2.settled
  exact⟨x,s2,h1.imp λk p=>by simp only[iK,hc,p,h3],h4⟩
 |false=>
  obtain⟨x,s',h1,h2⟩:=h' rfl
  obtain⟨s2,h3,h4⟩:=h2.settled
  exact⟨x,s2,h1.imp λk p=>by simp only[iK,hc,p,h3],h4⟩
theorem xQ {id:Nat} {c:Code} (h:awp X f c (aK id (X.H f (1000000+id)) s.nid Q) s):awp X f (.block id c) Q s:=by
 obtain⟨x,s',h1,h2⟩:=h
 obtain⟨x2,s2,h3,h4⟩:=h2.settled
 exact⟨x2,s2,h1.imp λk p=>by simp only[iK,p,h3],h4⟩
theorem ArL {c:Code} (h:awp X f c Q s):awp X f (.scope c) Q s:=by
 obtain⟨x,s',h1,h2⟩:=h
 exact⟨x,s',h1.imp λk p=>by simp only[iK,p],h2⟩
theorem AmH {id:Nat} {ops:Array Oper} {s0:St} (hM:isM (X.H f id)=false) (hz:frz (X.H f id) s=some s0) (h:pL X ops ops.toList Q { s0 with tmps:=uC (X.H f id) s0.tmps }):awp X f (.region id ops false) Q s:=by
 obtain⟨x,s',h1,h2⟩:=h
 refine⟨x,s',h1.imp λk p=>?_,h2⟩
 obtain⟨fs',hp⟩:=p []
 simp only[iK,hz,hM,fJ,if_false,hp]
theorem ArJ {id:Nat} {ops:Array Oper} {s0:St} (hM:isM (X.H f id)=false) (hns:(X.H f id).contains 4999999=false) (hz:frz (X.H f id) s=some s0) (h:nU X ops (rI ops) s0.nid [] ops.toList 0 Q { s0 with tmps:=uC (X.H f id) s0.tmps,nid:=s0.nid+ops.size }):awp X f (.region id ops true) Q s:=by
 obtain⟨x,s',fs,h1,h2,h3⟩:=h
 refine⟨x,s',h1.imp λk p=>?_,h3⟩
 simp only[iK,hz,hM,if_true,hns,AaW,p]
 simp only[List.nil_append] at h2
 rw[if_pos h2]
def noF (ks:List Nat):Bool:=ks.all λk=>!Nat.ble 7000000 k||Nat.ble 15000000 k
theorem AnW:∀{ks:List Nat} {s:St},noF ks=true->frz ks s=some s
 | [],_,_=>rfl
 |k::r,s,h=>by
  simp only[noF,List.all_cons,Bool.and_eq_true,Bool.or_eq_true,Bool.not_eq_true'] at h
  rcases h.1 with h1|h1
  ·simp only[frz,h1]
   exact AnW h.2
  have h2:Nat.ble 7000000 k=true:=Nat.ble_eq_true_of_le (by have:=Nat.le_of_ble_eq_true h1; omega)
  have h3:Nat.ble 13000000 k=true:=Nat.ble_eq_true_of_le (by have:=Nat.le_of_ble_eq_true h1; omega)
  simp only[frz,h2,AkM,h3]
  exact AnW h.2
theorem AuB:∀{ks:List Nat},noF ks=true->isM ks=false
 | [],_=>rfl
 |k::r,h=>by
  simp only[noF,List.all_cons,Bool.and_eq_true] at h
  have ih:=AuB (ks:=r) h.2
  unfold isM at ih ⊢
  rw[List.contains_cons,ih,Bool.or_false]
  cases hb:(14000000==k) with
  |false=>rfl
  |true=>
   have:k=14000000:=(beq_iff_eq.1 hb).symm
   subst this
   exact absurd h.1 (by decide)
theorem AoG {id:Nat} {ops:Array Oper} (hz:noF (X.H f id)=true) (h:pL X ops ops.toList Q { s with tmps:=uC (X.H f id) s.tmps }):awp X f (.region id ops false) Q s:=AmH (AuB hz) (AnW hz) h
theorem AvS {id:Nat} {ops:Array Oper} (hz:(noF (X.H f id)&&!(X.H f id).contains 4999999)=true) (h:nU X ops (rI ops) s.nid [] ops.toList 0 Q { s with tmps:=uC (X.H f id) s.tmps,nid:=s.nid+ops.size }):awp X f (.region id ops true) Q s:=by
 simp only[Bool.and_eq_true,Bool.not_eq_true'] at hz
 exact ArJ (AuB hz.1) hz.2 (AnW hz.1) h
theorem AjW {c:Code} {Q':AX->St->Prop} (h:awp X f c Q s) (hq:∀x s',Q x s'->Q' x s'):awp X f c Q' s:=by
 obtain⟨x,s',h1,h2⟩:=h
 exact⟨x,s',h1,hq x s' h2⟩
theorem AjU {ops:Array Oper} (h:Q .normal s):pL X ops [] Q s:=⟨_,_,.of λ_ fs=>⟨fs,rfl⟩,h⟩
theorem BbL {ops:Array Oper} {o:Oper} {l:List Oper} (hw:wantedAt ops s.tmps o=some false) (h:pL X ops l Q (putDst o (.c .undef) s)):pL X ops (o::l) Q s:=by
 obtain⟨x,s',h1,h2⟩:=h
 refine⟨x,s',h1.imp λk p fs=>?_,h2⟩
 obtain⟨fs',hp⟩:=p (eR.none::fs)
 exact⟨fs',by simp only[AiC,hw,hp]⟩
theorem AtM {ops:Array Oper} {o:Oper} {l:List Oper} {v:V} {s1:St} {ft:eR} (hw:wantedAt ops s.tmps o=some true) (hop:Evt λk=>cV X.P (X.call k) s.nid o s=some (.val v s1,ft))
  (h:pL X ops l Q (putDst o v s1)):pL X ops (o::l) Q s:=by
 obtain⟨x,s',h1,h2⟩:=h
 refine⟨x,s',(hop.and h1).imp λk ⟨q,p⟩ fs=>?_,h2⟩
 obtain⟨fs',hp⟩:=p (ft::fs)
 exact⟨fs',by simp only[AiC,hw,q,hp]⟩
theorem AjV {ops:Array Oper} {o:Oper} {l:List Oper} {v:V} {s1:St} {ft:eR} (hw:wantedAt ops s.tmps o=some true) (hop:∀call,cV X.P call s.nid o s=some (.val v s1,ft))
 (h:pL X ops l Q (putDst o v s1)):pL X ops (o::l) Q s:=AtM hw (.of λ_=>hop _) h
theorem BdI {ops:Array Oper} {o:Oper} {l:List Oper} {d:D} {s1:St} {ft:eR} (hw:wantedAt ops s.tmps o=some true) (hop:Evt λk=>cV X.P (X.call k) s.nid o s=some (.pan d s1,ft))
  (h:Q (.pan d) s1):pL X ops (o::l) Q s:=
 ⟨_,_,hop.imp λk q fs=>⟨ft::fs,by simp only[AiC,hw,q]⟩,h⟩
theorem AvO {ops:Array Oper} {vs:List Nat} {base i:Nat} {pre:List Fp} (hok:(AfP false ops base pre&&decide (base<=s.nid))=true) (h:Q .normal s):nU X ops vs base pre [] i Q s:=
 ⟨_,_,[],.of λ_=>rfl,by rw[List.append_nil]; exact hok,h⟩
theorem BbK {ops:Array Oper} {vs:List Nat} {base i:Nat} {pre:List Fp} {o:Oper} {l:List Oper} {s1:St} (hw:wantedAt ops s.tmps o=some false) (hp:vG o.dst (.c .undef) s=some s1)
  (h:nU X ops vs base (pre++[Fp.fill ⟨(eT ops o).map .tmp,kJ o.dst (.c .undef),[],false⟩ s1]) l (i+1) Q s1):nU X ops vs base pre (o::l) i Q s:=by
 obtain⟨x,s',fs,h1,h2,h3⟩:=h
 refine⟨x,s',Fp.fill ⟨(eT ops o).map .tmp,kJ o.dst (.c .undef),[],false⟩ s1::fs,h1.imp λk p=>by simp only[sX,hw,hp,p],?_,h3⟩
 rw[List.append_assoc] at h2; exact h2
theorem AtL {ops:Array Oper} {vs:List Nat} {base i:Nat} {pre:List Fp} {o:Oper} {l:List Oper} {v:V} {s1 s2:St} {ft:Fp} (hw:wantedAt ops s.tmps o=some true)
  (hop:Evt λk=>eI X.P (X.call k) ops vs (base+i) o s=some (.val v s1,ft)) (hp:vG o.dst v s1=some s2)
  (h:nU X ops vs base (pre++[ft.fill s2]) l (i+1) Q s2):nU X ops vs base pre (o::l) i Q s:=by
 obtain⟨x,s',fs,h1,h2,h3⟩:=h
 refine⟨x,s',ft.fill s2::fs,(hop.and h1).imp λk ⟨q,p⟩=>by simp only[sX,Ay6,Al8 q,hw,q,hp,p],?_,h3⟩
 rw[List.append_assoc] at h2; exact h2
theorem AvP {ops:Array Oper} {vs:List Nat} {base i:Nat} {pre:List Fp} {o:Oper} {l:List Oper} {v:V} {s1 s2:St} {ft:Fp} (hw:wantedAt ops s.tmps o=some true)
 (hop:∀call,eI X.P call ops vs (base+i) o s=some (.val v s1,ft)) (hp:vG o.dst v s1=some s2)
 (h:nU X ops vs base (pre++[ft.fill s2]) l (i+1) Q s2):nU X ops vs base pre (o::l) i Q s:=AtL hw (.of λ_=>hop _) hp h
theorem BdG {ops:Array Oper} {vs:List Nat} {base i:Nat} {pre:List Fp} {o:Oper} {l:List Oper} {v:V} {s1 s2:St} (hw:wantedAt ops s.tmps o=some true)
  (hop:AcO X.P o s=some (v,s1)) (hp:vG o.dst v s1=some s2)
  (h:nU X ops vs base (pre++[Fp.fill (yG X.P ops o s v) s2]) l (i+1) Q s2):nU X ops vs base pre (o::l) i Q s:=by
 obtain⟨x,s',fs,h1,h2,h3⟩:=h
 refine⟨x,s',Fp.fill (yG X.P ops o s v) s2::fs,h1.imp λk p=>by simp only[sX,Ay6,hop,hw,hp,p],?_,h3⟩
 rw[List.append_assoc] at h2; exact h2
theorem BdH {ops:Array Oper} {vs:List Nat} {base i:Nat} {pre:List Fp} {o:Oper} {l:List Oper} {d d0:D} {s1 s0:St} {ft ft0:Fp} (hw:wantedAt ops s.tmps o=some true)
  (hop0:Evt λk=>eI X.P (X.call k) ops vs (base+i) o s=some (.pan d0 s0,ft0)) (hw':wantedAt ops (pF (iP ops i) s).tmps o=some true)
  (hop:Evt λk=>eI X.P (X.call k) ops vs (base+i) o (pF (iP ops i) s)=some (.pan d s1,ft)) (hok:(AfP true ops base (pre++[ft])&&decide (base<=s1.nid))=true) (h:Q (.pan d) s1):nU X ops vs base pre (o::l) i Q s:=by
 refine⟨.pan d,s1,[ft],(hop0.and hop).imp λk p=>?_,hok,h⟩
 obtain⟨q,p⟩:=p
 rw[sX]
 simp only[Ay6,Al8 q,hw,q]
 rw[hw',p]
theorem eH {c:Code} (h:cG X f c (aH (X.H f (kR c)) s.nid) Q s):awp X f (.loop c) Q s:=by
 obtain⟨x,s',⟨m₀,a,h1⟩,h2⟩:=h
 exact⟨x,s',⟨max m₀ a,λk hk=>by simp only[iK]; exact h1 k (by omega) k (by omega)⟩,h2⟩
theorem AyP {c:Code} {clean:St->Option St} {s1:St} (hc:clean s=some s1) (h:awp X f c (λx s'=>match x with|.normal=>cG X f c clean Q s' | x=>Q x s') s1):cG X f c clean Q s:=by
 obtain⟨x,s',h1,h2⟩:=h
 cases x with
 |normal=>
  obtain⟨x2,s2,⟨m₀,h3⟩,h4⟩:=h2
  refine⟨x2,s2,⟨m₀+1,(h1.and h3).imp λk ⟨p,q⟩ m hm=>?_⟩,h4⟩
  obtain⟨j,rfl⟩:∃j,m=j+1:=⟨m-1,by omega⟩
  simp only[iter,hc,p]
  exact q j (by omega)
 |_=>
  refine⟨_,s',⟨1,h1.imp λk p m hm=>?_⟩,h2⟩
  obtain⟨j,rfl⟩:∃j,m=j+1:=⟨m-1,by omega⟩
  simp only[iter,hc,p]
structure xH (X:Ctx) (fn:Func) (n:Nat) (r:aE) (x:AX) (s:St):Prop where
 ex:Evt λk=>finish X.P X.H (X.raw k) k fn n x s=some r
structure rdef (X:Ctx) (ds:List (Nat×List Nat)) (pan:Option D) (s:St) (pan':Option D) (s':St):Prop where
 ex:Evt λk=>tL X.P X.H (X.raw k) k ds pan s=some (pan',s')
theorem xH.ret {fn:Func} {n:Nat} {r:aE} (hd:s.defers=[]) (h:tS X.P fn n s=some r):xH X fn n r .ret s:=
 ⟨.of λk=>by simp only[finish,hd,List.isEmpty_nil,if_true,h]⟩
theorem xH.normal {fn:Func} {n:Nat} {r:aE} (hd:s.defers=[]) (h:tS X.P fn n s=some r):xH X fn n r .normal s:=
 ⟨.of λk=>by simp only[finish,hd,List.isEmpty_nil,if_true,h]⟩
theorem xH.pan {fn:Func} {n:Nat} {r:aE} {d:D} (hd:s.defers=[]) (h:AlN d n s=some r):xH X fn n r (.pan d) s:=
 ⟨.of λk=>by simp only[finish,hd,List.isEmpty_nil,if_true,h]⟩
def BjQ (X:Ctx) (pan:Option D) (f:Nat) (args:List C) (lh:List (List C)) (r:aE):Prop:=Evt λk=>Ao7 X.P X.H (X.raw k) k pan f args lh=some r
theorem rdef.nil {pan:Option D}:rdef X [] pan s pan s:=⟨.of λ_=>rfl⟩
theorem rdef.cons {g:Nat} {caps ids:List Nat} {l:List (Nat×List Nat)} {pan pan':Option D} {s':St} {args':List C} {lh lh' lh'':List (List C)} {v v':V} (hr:rH s.heap 64 ((caps.map λb=>C.ptr b 0).flatMap C.ids) []=some ids) (hi:aZ (C.into ids) (caps.map λb=>.ptr b 0)=some args')
  (hb:oO s.heap ids=some lh) (hv:BjQ X pan g args' lh (.ret v lh')) (hk:aZ (aZ (C.back (ids++bE s.nid (lh'.length-ids.length)))) lh'=some lh'') (hv':V.back (ids++bE s.nid (lh'.length-ids.length)) v=some v')
  (h:rdef X l (if AiM X.P g then none else pan) { s with tmps:=unviewIn (ids++bE s.nid (lh'.length-ids.length)) s.tmps,heap:=dO (ids++bE s.nid (lh'.length-ids.length)) lh'' s.heap,nid:=s.nid+(lh'.length-ids.length) } pan' s') :
  rdef X ((g,caps)::l) pan s pan' s':=
 ⟨(hv.and h.ex).imp λk ⟨p,q⟩=>by simp only[tL,mI,hr,hi,hb,p,hk,hv']; exact q⟩
theorem Bg6 {fn:Func} {code:Code} {args args':List C} {lh:List (List C)} {r:aE} (hE:X.E f=none) (hf:X.P.funcs[f]?=some fn) (hb:fn.body=some code) (hst:(if (X.H f 999999).isEmpty then args.map C.still else args)=args') (hl:args'.length=fn.params.size+fn.nfree)
  (h:awp X f code (xH X fn lh.length r) (Aa9 args' lh)) (hlow:Nat.blt f yZ=true:=by rfl):aval X f args lh r:=by
 obtain⟨x,s',h1,h2⟩:=h
 refine Evt.succ ((h1.and h2.ex).imp λk ⟨p,q⟩=>?_)
 simp only[Ctx.call,Ctx.raw,AbR,hlow,Ah7 X.H k hlow,hst,AlF,hE,hf,hb,hl,if_true]
 simp only[p]
 exact q
structure Bk8 (X:Ctx) (fn:Func) (n:Nat) (r:aE) (x:AX) (s:St):Prop where
 ex:(x=.normal\/x=.ret)/\s.defers=[]/\tS X.P fn n s=some r
theorem C.still_still:∀l:List C,(l.map C.still).map C.still=l.map C.still
 | []=>rfl
 |c::l=>by
  have ih:=C.still_still l
  simp only[List.map_cons,ih]
  cases c<;>rfl
theorem Ae0 {args:List C} {lh:List (List C)} {r:aE} (h:aval X f (args.map C.still) lh r) (hH:(X.H f 999999).isEmpty=true):aval X f args lh r:=by
 obtain⟨k₀,h⟩:=h
 refine⟨k₀+1,λk hk=>?_⟩
 obtain⟨j,rfl⟩:∃j,k=j+1:=⟨k-1,by omega⟩
 have:=h (j+1) (by omega)
 simp only[Ctx.call,Ctx.raw,AbR] at this ⊢
 split at this
 ·rename_i hlow
  simp only[Ah7 X.H j hlow,hH,if_true] at this ⊢
  rw[C.still_still] at this
  exact this
 simp at this
theorem aval_ext {g:Call} {args args':List C} {lh:List (List C)} {r:aE} (hE:X.E f=some g) (hst:(if (X.H f 999999).isEmpty then args.map C.still else args)=args') (h:g f args' lh=some r) (hlow:Nat.blt f yZ=true:=by rfl):aval X f args lh r:=
 Evt.succ (.of λk=>by simp only[Ctx.call,Ctx.raw,AbR,hlow,Ah7 X.H k hlow,hst,AlF,hE,h])
theorem BdP (call:Call) (f:Nat) (args:List C) (lh:List (List C)):ArN call f args lh=call (f+yZ) args lh:=rfl
theorem BeY (X:Ctx) (k:Nat) {f g:Nat} (h1:Nat.blt g yZ=false) (h2:g-yZ=f) (args:List C) (lh:List (List C)):X.raw (k+1) g args lh=AlG X.P X.H (X.raw k) k g f (args.map C.still) lh:=
 Ao8 X.H k h1 h2 args lh
def Ba4 (X:Ctx) (f:Nat) (args:List C) (lh:List (List C)) (r:aE):Prop:=Evt λk=>ArN (X.raw k) f args lh=some r
structure AyM (X:Ctx) (fn:Func) (n:Nat) (r:aE) (x:AX) (s:St):Prop where
 ex:(x=.normal\/x=.ret)/\s.defers=[]/\AhD X.P fn n s=some r
theorem BdE {g:Nat} {fn:Func} {code:Code} {args args':List C} {lh:List (List C)} {r:aE} (hg:g=f+yZ) (hf:X.P.funcs[f]?=some fn) (hb:fn.body=some code) (hst:args.map C.still=args') (hl:args'.length=fn.params.size+fn.nfree)
  (h:awp X g code (AyM X fn lh.length r) (Aa9 args' lh)):Ba4 X f args lh r:=by
 obtain⟨x,s',h1,⟨hx,hd,h2⟩⟩:=h
 refine Evt.succ (h1.imp λk p=>?_)
 rw[BdP,←hg,BeY X k (AvY hg) (Ay9 hg)]
 simp only[AlG,hf,hb,hst,hl,if_true,p]
 rcases hx with rfl|rfl<;>simp only[hd,List.isEmpty_nil,if_true,h2]
theorem AkH {o:Oper} {c:Go.Call} {fo:Operand} {g:Nat} {caps ids:List Nat} {args args':List C} {lh lh' lh'':List (List C)} {v v':V} (ho:o.op=.call c) (hc:c.callee=.value fo) (hf:ev s.tmps fo=some (.c (.fn g caps)))
  (ha:oM X.P s.tmps c.args.toList c.argTypes.toList=some args) (hr:rH s.heap 64 ((args++caps.map λb=>C.ptr b 0).flatMap C.ids) []=some ids) (hi:aZ (C.into ids) (args++caps.map λb=>.ptr b 0)=some args')
  (hb:oO s.heap ids=some lh) (hv:aval X g args' lh (.ret v lh')) (hk:aZ (aZ (C.back (ids++bE s.nid (lh'.length-ids.length)))) lh'=some lh'') (hv':V.back (ids++bE s.nid (lh'.length-ids.length)) v=some v') :
  Evt λk=>cV X.P (X.call k) s.nid o s=some (.val v' { s with tmps:=unviewIn (ids++bE s.nid (lh'.length-ids.length)) s.tmps,heap:=dO (ids++bE s.nid (lh'.length-ids.length)) lh'' s.heap,nid:=s.nid+(lh'.length-ids.length) },⟨ids,ids,[]⟩):=
 hv.imp λk p=>by simp only[cV,ho,hc,hf,ha,mI,hr,hi,hb,p,hk,hv']
theorem Bc2 {o:Oper} {c:Go.Call} {fo:Operand} {g:Nat} {x:D} {ids:List Nat} {args args':List C} {lh lh' lh'':List (List C)} {v v':V} (ho:o.op=.call c) (hc:c.callee=.value fo) (hf:ev s.tmps fo=some (.c (.bfn g x)))
  (ha:oM X.P s.tmps c.args.toList c.argTypes.toList=some args) (hr:rH s.heap 64 ((.d x::args).flatMap C.ids) []=some ids) (hi:aZ (C.into ids) (.d x::args)=some args')
  (hb:oO s.heap ids=some lh) (hv:aval X g args' lh (.ret v lh')) (hk:aZ (aZ (C.back (ids++bE s.nid (lh'.length-ids.length)))) lh'=some lh'') (hv':V.back (ids++bE s.nid (lh'.length-ids.length)) v=some v') :
  Evt λk=>cV X.P (X.call k) s.nid o s=some (.val v' { s with tmps:=unviewIn (ids++bE s.nid (lh'.length-ids.length)) s.tmps,heap:=dO (ids++bE s.nid (lh'.length-ids.length)) lh'' s.heap,nid:=s.nid+(lh'.length-ids.length) },⟨ids,ids,[]⟩):=
 hv.imp λk p=>by simp only[cV,ho,hc,hf,ha,mI,hr,hi,hb,p,hk,hv']
end
end Go.AM
namespace Go.AM
open Go
section
variable {P:Program} {call:Call} {id:Nat} {o:Oper} {s:St}
theorem Au4 {t:TypeId} {x i:Operand} {l:List UInt8} {k:IntKind} {n:Int} {b:UInt8} (ho:o.op=.index t x i) (ht:P.underlying t=some .string) (hx:ev s.tmps x=some (.c (.d (.str l))))
  (hi:ev s.tmps i=some (.c (.d (.int k n)))) (h0:0<=n) (hb:l[n.toNat]?=some b):cV P call id o s=some (.val (.d (AbQ b)) s,⟨cO o s.tmps,[],[]⟩):=by
 simp only[cV,ho,evR,ht,hx,hi,h0,if_true,hb]
theorem Au3 {t e:TypeId} {x i:Operand} {sz:Nat} {xs:List D} {k:IntKind} {n:Int} {d:D} (ho:o.op=.indexAddr t x i) (ht:mW P t=some e) (hz:some sz=tsz P e) (hx:(ev s.tmps x).bind V.toD=some (.list sz xs))
  (hi:ev s.tmps i=some (.c (.d (.int k n)))) (h0:0<=n) (hb:xs[n.toNat]?=some d):cV P call id o s=some (.val (.rptr d.cells) s,⟨cO o s.tmps,[],[]⟩):=by
 obtain⟨v,hv,hd⟩:=Option.bind_eq_some_iff.1 hx
 cases v with
 |c y=>
  cases y with
  |arr b n k=>simp[V.toD,C.toD] at hd
  |_=>simp only[cV,ho,evR,ht,hv,hi,hd,h0,hz,and_self,if_true,hb]
 |_=>simp only[cV,ho,evR,ht,hv,hi,hd,h0,hz,and_self,if_true,hb]
theorem AeA {t:TypeId} {x:Operand} {lo hi:Option Operand} {l:List UInt8} {a b:Nat} (ho:o.op=.slice t x lo hi none) (ht:P.underlying t=some .string) (hx:evT P t s.tmps x=some (.c (.d (.str l))))
  (hl:gB s.tmps lo 0=some a) (hh:gB s.tmps hi l.length=some b) (h1:a<=b) (h2:b<=l.length) :
  cV P call id o s=some (.val (.d (.str ((l.take b).drop a))) s,⟨cO o s.tmps,[],[]⟩):=by
 simp only[cV,ho,evR,hx,AuH,ht,V.toD,C.toD,hl,hh,Ah3,h1,h2,and_self,if_true,Option.map_some]
theorem qB {tm:List (Nat×V)} {x:Operand} {k:IntKind} {n:Int} {d:Nat} (hx:ev tm x=some (.c (.d (.int k n)))) (h:0<=n):gB tm (some x) d=some n.toNat:=by
 simp only[gB,hx,h,if_true]
theorem AcY {t e:TypeId} {x:Operand} {lo hi:Option Operand} {v:V} {sz:Nat} {xs:List D} {a b:Nat} (ho:o.op=.slice t x lo hi none) (ht:P.underlying t=some (.slice e)) (hz:tsz P e=some sz) (hx:evT P t s.tmps x=some v) (hv:v.toD=some (.list sz xs))
  (hl:gB s.tmps lo 0=some a) (hh:gB s.tmps hi xs.length=some b) (h1:a<=b) (h2:b<=xs.length) :
  cV P call id o s=some (.val (.d (.list sz ((xs.take b).drop a))) s,⟨cO o s.tmps,[],[]⟩):=by
 simp[cV,ho,evR,hx,AdI hv,ht,hv,hl,hh,Ah3,h1,h2,hz]
theorem Bc1 {t u:TypeId} {x y:Operand} {a b:List UInt8} (ho:o.op=.binOp .add t x y u) (hx:evT P t s.tmps x=some (.c (.d (.str a)))) (hy:evT P t s.tmps y=some (.c (.d (.str b)))) (h:a.length+b.length<=room) :
  cV P call id o s=some (.val (.d (.str (a++b))) s,⟨cO o s.tmps,[],[]⟩):=by
 simp only[cV,ho,evR,hx,hy,AvV,BbA,h,if_true]
theorem Be9 {src dst e:TypeId} {x:Operand} {a:List UInt8} (ho:o.op=.convert src dst x) (hs:P.underlying src=some .string) (hd:P.underlying dst=some (.slice e)) (he:P.underlying e=some (.int .u8)) (hz:tsz P e=some 1)
  (hx:evT P src s.tmps x=some (.c (.d (.str a)))) (h:a.length<=room):cV P call id o s=some (.val (.c (.own 1 (a.map AbQ))) s,⟨cO o s.tmps,[],[]⟩):=by
 simp only[cV,ho,evR,hx,Aw2,hs,hd,he,h,hz,and_self,if_true]
theorem Ar2 {c:Go.Call} {t u e:TypeId} {x y:Operand} {n z:Nat} {yv:V} {ys:List D} (ho:o.op=.call c) (hc:c.callee=.builtin .append) (ha:c.args.toList=[x,y]) (hat:c.argTypes.toList=[t,u]) (ht:mW P t=some e) (hn:tsz P e=some n) (hu:gV P u=true)
  (hb:P.bytesOf e<=1024/\lF P e n=true) (hx:evT P t s.tmps x=some (.c (.nilsl z))) (hy:evT P u s.tmps y=some yv) (hys:appended yv=some (n,ys)) (hl:ys.length<=4294967296) :
  cV P call id o s=some (.val (.c (.own n ys)) s,bT x s.tmps):=by
 simp only[cV,ho,hc,ha,hat,jE,ht,hn,hu,hx,hy,hys,bJ,hb,and_self,if_true,hl]
theorem Ap6 {c:Go.Call} {t u e:TypeId} {x y:Operand} {n w:Nat} {yv:V} {xs ys zs:List D} (ho:o.op=.call c) (hc:c.callee=.builtin .append) (ha:c.args.toList=[x,y]) (hat:c.argTypes.toList=[t,u]) (ht:mW P t=some e) (hn:tsz P e=some n) (hu:gV P u=true)
  (hb:P.bytesOf e<=1024/\lF P e n=true) (hx:evT P t s.tmps x=some (.view (.tmp w) n xs)) (hw:look w s.tmps=some (.c (.own n zs))) (hy:evT P u s.tmps y=some yv) (hys:appended yv=some (n,ys)) (hl:xs.length+ys.length<=4294967296) :
  cV P call id o s=some (.val (.c (.own n (xs++ys))) { s with tmps:=plainAt w s.tmps },bT x s.tmps):=by
 simp only[cV,ho,hc,ha,hat,jE,ht,hn,hu,hx,hy,hys,bJ,hb,and_self,if_true,hw,hl]
theorem Ap5 {c:Go.Call} {t u e:TypeId} {x y:Operand} {n b off:Nat} {yv:V} {xs ys zs:List D} {cells:List C} (ho:o.op=.call c) (hc:c.callee=.builtin .append) (ha:c.args.toList=[x,y]) (hat:c.argTypes.toList=[t,u]) (ht:mW P t=some e) (hn:tsz P e=some n) (hu:gV P u=true)
  (hb:P.bytesOf e<=1024/\lF P e n=true) (hx:evT P t s.tmps x=some (.view (.cell b off) n xs)) (hw:xM b s.heap=some cells) (hw':cells[off]?=some (.own n zs)) (hy:evT P u s.tmps y=some yv) (hys:appended yv=some (n,ys)) (hl:xs.length+ys.length<=4294967296) :
  cV P call id o s=some (.val (.c (.own n (xs++ys))) { s with heap:=upd b (cells.set off (.d (.list n xs))) s.heap },bT x s.tmps):=by
 simp only[cV,ho,hc,ha,hat,jE,ht,hn,hu,hx,hy,hys,bJ,hb,and_self,if_true,hw,hw',hl]
end
section
variable {X:Ctx} {Q:AX->St->Prop} {s:St}
theorem Bg7 {ops:Array Oper} {vs:List Nat} {base i:Nat} {pre:List Fp} {o:Oper} {l:List Oper} {v:V} {s1 s2:St} {ft:eR} (hw:wantedAt ops s.tmps o=some true) (hm:aR o=false)
  (hop:Evt λk=>cV X.P (X.call k) s.nid o s=some (.val v s1,ft)) (hp:vG o.dst (gS vs o.dst v) (afterApp o s1)=some s2)
  (h:nU X ops vs base (pre++[(rC ops o s (gS vs o.dst v) s1 ft).fill s2]) l (i+1) Q s2):nU X ops vs base pre (o::l) i Q s:=
 AtL hw (hop.imp λk p=>by simp only[eI,hm,fJ,if_false,eE,p]) hp h
end
end Go.AM
namespace Go.AM
open Go
section
variable {X:Ctx} {f:Nat} {Q:AX->St->Prop} {tm tm':List (Nat×V)} {hp:List (Nat×List C)} {nid:Nat} {df:List (Nat×List Nat)} {pn:Option D}
def Ac5 {α:Type}:List Nat->List (Nat×V)->(List (Nat×V)->α)->α
 | [],_,k=>k []
 |t::r,tm,k=>match look t tm with
  |some (.view _ sz xs)=>Ac5 r tm λl=>k ((t,.d (.list sz xs))::l)
  |some v=>Ac5 r tm λl=>k ((t,v)::l)
  |none=>Ac5 r tm k
theorem uB {α:Type}:∀(ks:List Nat) (tm:List (Nat×V)) (k:List (Nat×V)->α),Ac5 ks tm k=k (uC ks tm)
 | [],_,_=>rfl
 |t::r,tm,k=>by
  simp only[Ac5,uC]
  cases h:look t tm with
  |none=>simp only[uB]
  |some v=>cases v<;>simp only[uB]
theorem oQ:∀tm:List (Nat×V),unviewIn [] tm=tm
 | []=>rfl
 |(t,v)::r=>by
  cases v with
  |view l sz xs=>cases l<;>simp[unviewIn,oQ r]
  |_=>simp[unviewIn,oQ r]
theorem lK {fn:Func} {code:Code} {args args':List C} {lh:List (List C)} {r:aE} {n:Nat} (hE:X.E f=none) (hf:X.P.funcs[f]?=some fn) (hb:fn.body=some code) (hst:(if (X.H f 999999).isEmpty then args.map C.still else args)=args') (hl:args'.length=fn.params.size+fn.nfree)
  (ht:nT 0 (args'.map λc=>V.c c.plain)=tm) (hh:nT 0 lh=hp) (hn:lh.length=n) (h:awp X f code (xH X fn n r) ⟨tm,hp,n,[],none⟩) (hlow:Nat.blt f yZ=true:=by rfl):aval X f args lh r:=
 Bg6 hE hf hb hst hl (by unfold Aa9; rw[ht,hh,hn]; exact h) hlow
theorem AvN {g:Nat} {fn:Func} {code:Code} {args args':List C} {lh:List (List C)} {r:aE} {n:Nat} (hg:g=f+yZ) (hf:X.P.funcs[f]?=some fn) (hb:fn.body=some code) (hst:args.map C.still=args') (hl:args'.length=fn.params.size+fn.nfree)
  (ht:nT 0 (args'.map λc=>V.c c.plain)=tm) (hh:nT 0 lh=hp) (hn:lh.length=n) (h:awp X g code (AyM X fn n r) ⟨tm,hp,n,[],none⟩):Ba4 X f args lh r:=
 BdE hg hf hb hst hl (by unfold Aa9; rw[ht,hh,hn]; exact h)
end
end Go.AM
namespace Go.AM
open Go
section
variable {X:Ctx} {f:Nat} {Q:AX->St->Prop} {s:St}
inductive cL (R:St->Prop) (Q:AX->St->Prop):AX->St->Prop where
 |normal {s:St}:R s->cL R Q .normal s
 |exit {id:Nat} {s:St}:Q (.exit id) s->cL R Q (.exit id) s
 |ret {s:St}:Q .ret s->cL R Q .ret s
 |pan {d:D} {s:St}:Q (.pan d) s->cL R Q (.pan d) s
end
end Go.AM
namespace Go.AM
open Go
section
variable {X:Ctx} {f:Nat} {Q:AX->St->Prop} {tm tm':List (Nat×V)} {hp hp':List (Nat×List C)} {nid nid':Nat} {df df':List (Nat×List Nat)} {pn pn':Option D}
end
end Go.AM
namespace Go.AM
open Go
def Aq8 {α:Type} (d:Nat) (b:Bool):List (Nat×V)->(List (Nat×V)->α)->α
 | [],k=>k []
 |(j,v)::r,k=>if j=d then k ((j,.d (.bool b))::r) else Aq8 d b r λl=>k ((j,v)::l)
theorem Ah0 {α:Type} {d:Nat} {b:Bool}:∀{tm:List (Nat×V)} {k:List (Nat×V)->α},look d tm=some (.c (.d (.bool b)))->Aq8 d b tm k=k tm
 | [],_,h=>by simp[look] at h
 |(j,v)::r,k,h=>by
  simp only[look] at h
  simp only[Aq8]
  by_cases hj:j=d
  ·rw[if_pos hj] at h ⊢
   simp only[sJ] at h
   rw[h]
  rw[if_neg hj] at h ⊢
  rw[Ah0 h]
section
variable {X:Ctx} {f:Nat} {Q:AX->St->Prop} {tm tm0 tm1:List (Nat×V)} {hp:List (Nat×List C)} {nid:Nat} {df:List (Nat×List Nat)} {pn:Option D}
def AlA {α:Type} (l:Loc):List (Nat×V)->(List (Nat×V)->α)->α
 | [],k=>k []
 |(t,v)::r,k=>match v with
  |.view l' sz xs=>AlA l r λr=>k ((t,if l'=l then .d (.list sz xs) else .view l' sz xs)::r)
  |v=>AlA l r λr=>k ((t,v)::r)
theorem AqI {α:Type} {l:Loc}:∀{tm:List (Nat×V)} {k:List (Nat×V)->α},AlA l tm k=k (unview l tm)
 | [],_=>rfl
 |(t,v)::r,k=>by cases v<;>simp only[AlA,unview,AqI]
end
section
variable {X:Ctx} {f:Nat} {Q:AX->St->Prop} {tm tm' tm1 tm2:List (Nat×V)} {hp hp':List (Nat×List C)} {nid:Nat} {df:List (Nat×List Nat)} {pn:Option D}
end
section
variable {X:Ctx} {f:Nat} {Q:AX->St->Prop} {tm:List (Nat×V)} {hp:List (Nat×List C)} {nid:Nat} {df:List (Nat×List Nat)} {pn:Option D}
end
end Go.AM
namespace Go.AM
open Go
abbrev Str:=List UInt8
def lget {α:Type} (l:List α) (i:Int):Option α:=if 0<=i then l[i.toNat]? else none
def sget (s:Str) (i:Int):Option Int:=if 0<=i then (s[i.toNat]?).map λb=>(b.toNat:Int) else none
def sfrom (s:Str) (lo:Int):Option Str:=if 0<=lo/\lo.toNat<=s.length then some (s.drop lo.toNat) else none
def sto (s:Str) (hi:Int):Option Str:=if 0<=hi/\hi.toNat<=s.length then some (s.take hi.toNat) else none
def smid (s:Str) (lo hi:Int):Option Str:=if 0<=lo/\lo<=hi/\hi.toNat<=s.length then some ((s.take hi.toNat).drop lo.toNat) else none
def lfrom {α:Type} (s:List α) (lo:Int):Option (List α):=if 0<=lo/\lo.toNat<=s.length then some (s.drop lo.toNat) else none
def lto {α:Type} (s:List α) (hi:Int):Option (List α):=if 0<=hi/\hi.toNat<=s.length then some (s.take hi.toNat) else none
def AfH {α:Type} (s:List α) (lo hi:Int):Option (List α):=if 0<=lo/\lo<=hi/\hi.toNat<=s.length then some ((s.take hi.toNat).drop lo.toNat) else none
def lapp {α:Type} (l m:List α):Option (List α):=if l.length+m.length<=4294967296 then some (l++m) else none
def scat (a b:Str):Option Str:=if a.length+b.length<=1099511627776 then some (a++b) else none
def u8I (b:UInt8):Int:=b.toNat
def sbytes (s:Str):Option (List Int):=if s.length<=1099511627776 then some (s.map u8I) else none
def BiK (l:List Int):Str:=l.map λn=>UInt8.ofNat n.toNat
def w64 (x:Int):Int:=IntKind.i64.wrap x
theorem AkR {α:Type} {c:Bool} {a b:Option α} {r:α} (h:(if c=true then a else b)=some r):(c=true/\a=some r)\/(c=false/\b=some r):=by
 cases c with
 |true=>exact .inl ⟨rfl,h⟩
 |false=>exact .inr ⟨rfl,h⟩
theorem AfK {α β:Type} {x:Option α} {k:α->Option β} {r:β} (h:(x>>=k)=some r):∃y,x=some y/\k y=some r:=by
 cases x with
 |none=>cases h
 |some y=>exact⟨y,rfl,h⟩
def Ad4:Call:=λ_ _ _=>none
theorem yI (f:Nat) (args:List C) (s:St):mI Ad4 f args s=none:=by
 unfold mI
 split
 ·rfl
 split<;>rfl
theorem vM {P:Program} {id:Nat} {o:Oper} {s:St} {r:gF×eR} (h:cV P Ad4 id o s=some r) (call:Call):cV P call id o s=some r:=by
 unfold cV at h ⊢
 cases ho:o.op with
 |call c=>
  simp only[ho] at h ⊢
  cases hc:c.callee with
  |value f=>
   simp only[hc] at h
   split at h
   ·rw[yI] at h; simp at h
   ·rw[yI] at h; simp at h
   simp at h
  |builtin b=>cases b<;>(simp only[hc] at h ⊢; exact h)
  |invoke a b=>simp[hc] at h
 |makeMap t r=>cases r<;>(simp only[ho] at h ⊢; exact h)
 |_=>simp only[ho] at h ⊢; exact h
def qX {α β:Type}:List α->(List α->β)->β
 | [],k=>k []
 |x::r,k=>qX r λr=>k (x::r)
theorem iM {α β:Type}:∀{l:List α} {k:List α->β},qX l k=k l
 | [],_=>rfl
 |x::r,k=>by simp only[qX,iM]
def ApZ {α:Type} (dst:Option Nat) (v:V) (tm:List (Nat×V)) (k:List (Nat×V)->Option α):Option α:=match dst with
 |none=>qX tm k
 |some d=>match v with
  |.c (.own sz xs)=>AlA (.tmp d) tm λr=>k ((d,.c (.own sz xs))::r)
  |v=>qX tm λtm=>k ((d,v)::tm)
theorem Al3 {α:Type} {dst:Option Nat} {v:V} {s:St} {k:List (Nat×V)->Option α}:ApZ dst v s.tmps k=k (mF dst v s).tmps:=by
 cases dst with
 |none=>simp only[ApZ,mF,iM]
 |some d=>
  cases v with
  |c x=>cases x<;>simp only[ApZ,mF,oK,AqI,iM]
  |_=>simp only[ApZ,mF,oK,iM]
theorem vH (dst:Option Nat) (v:V) (s:St):mF dst v s=⟨(mF dst v s).tmps,s.heap,s.nid,s.defers,s.pan⟩:=by
 cases dst<;>rfl
def tR {β:Type}:List (Nat×List C)->(List (Nat×List C)->β)->β
 | [],k=>k []
 |(b,cs)::r,k=>qX cs λcs=>tR r λr=>k ((b,cs)::r)
theorem pN {β:Type}:∀{l:List (Nat×List C)} {k:List (Nat×List C)->β},tR l k=k l
 | [],_=>rfl
 |(b,cs)::r,k=>by simp only[tR,iM,pN]
def yK (o:Oper):Bool:=match o.op with
 |.defer _|.makeMap _ _|.insert _ _ _ _|.mapUpdate _ _ _ _=>true
 |_=>false
theorem AlO {P:Program} {call:Call} {id:Nat} {o:Oper} {tm:List (Nat×V)} {hp:List (Nat×List C)} {nid:Nat} {df:List (Nat×List Nat)} {pn:Option D} {v:V} {s':St} {ft:eR} (hc:call=Ad4) (hid:aR o=true->id=nid)
  (h:cV P call id o ⟨tm,hp,nid,df,pn⟩=some (.val v s',ft)) (hd:yK o=false) :
  s'=⟨s'.tmps,s'.heap,(match aR o with|true=>nid+1|false=>nid),df,pn⟩:=by
 subst hc
 unfold cV at h
 cases ho:o.op with
 |assign x=>
  simp only[ho] at h
  simp only[aR,ho]
  split at h
  ·split at h
   ·simp only[sJ,pJ,gF.val.injEq] at h
    obtain⟨⟨_,rfl⟩,_⟩:=h; rfl
   ·simp at h
  ·simp only[sJ,pJ,gF.val.injEq] at h
   obtain⟨⟨_,rfl⟩,_⟩:=h; rfl
  ·simp only[sJ,pJ,gF.val.injEq] at h
   obtain⟨⟨_,rfl⟩,_⟩:=h; rfl
  ·simp only[sJ,pJ,gF.val.injEq] at h
   obtain⟨⟨_,rfl⟩,_⟩:=h; rfl
  ·simp only[sJ,pJ,gF.val.injEq] at h
   obtain⟨⟨_,rfl⟩,_⟩:=h; rfl
  simp at h
 |store t x y=>
  simp only[ho] at h
  simp only[aR,ho]
  repeat' (first|(split at h)|(simp at h; done))
  all_goals first
   |(simp at h; done)
   |(simp only[sJ,pJ,gF.val.injEq] at h; obtain⟨⟨_,rfl⟩,_⟩:=h; rfl)
 |defer c=>simp[yK,ho] at hd
 |makeMap t r=>simp[yK,ho] at hd
 |insert t m k x=>simp[yK,ho] at hd
 |mapUpdate t m k x=>simp[yK,ho] at hd
 |panic x=>
  simp only[ho] at h
  split at h<;>simp at h
 |call c=>
  simp only[ho] at h
  simp only[aR,ho]
  split at h
  ·split at h
   ·split at h
    ·rename_i hap
     simp only[sJ,pJ,gF.val.injEq] at h
     obtain⟨⟨_,rfl⟩,_⟩:=h
     unfold jE at hap
     repeat' (first|(split at hap)|(simp at hap; done))
     all_goals first
      |(simp at hap; done)
      |(simp only[sJ,pJ] at hap; obtain⟨_,rfl⟩:=hap; rfl)
    ·simp at h
   ·simp at h
  ·split at h
   ·split at h
    ·rename_i hap
     simp only[sJ,pJ,gF.val.injEq] at h
     obtain⟨⟨_,rfl⟩,_⟩:=h
     unfold AlJ at hap
     repeat' (first|(split at hap)|(simp at hap; done))
     all_goals first
      |(simp at hap; done)
      |(simp only[sJ,pJ] at hap; obtain⟨_,rfl⟩:=hap; rfl)
    ·simp at h
   ·simp at h
  ·split at h
   ·simp only[sJ,pJ,gF.val.injEq] at h
    obtain⟨⟨_,rfl⟩,_⟩:=h; rfl
   ·simp at h
  ·split at h
   ·rw[yI] at h; simp at h
   ·rw[yI] at h; simp at h
   ·simp at h
  simp at h
 |makeSlice t l c=>
  simp only[ho] at h
  split at h
  ·rename_i hev
   simp only[sJ,pJ,gF.val.injEq] at h
   obtain⟨⟨_,rfl⟩,_⟩:=h
   have hm:aR o=false:=by
    cases hs:qT l c with
    |false=>simp[aR,ho,hs]
    |true=>
     exfalso
     simp only[evR,ho,hs,if_true] at hev
     repeat' (first|(split at hev)|(simp at hev; done))
   rw[hm]
  ·split at h
   ·rename_i hev _
    simp only[sJ,pJ,gF.val.injEq] at h
    obtain⟨⟨_,rfl⟩,_⟩:=h
    by_cases hm:aR o=true
    ·rw[hm,hid hm]
    haveI:cR:=⟨[]⟩
    exact absurd hev (Ag6 (by simpa using hm))
   ·simp at h
  simp at h
 |buildSlice t n ps=>
  simp only[ho] at h
  split at h
  ·rename_i hev
   simp only[sJ,pJ,gF.val.injEq] at h
   obtain⟨⟨_,rfl⟩,_⟩:=h
   have hm:aR o=false:=by
    cases hs:AlS ps.toList with
    |none=>simp[aR,ho,hs]
    |some gs=>
     exfalso
     simp only[evR,ho,hs,BiP] at hev
     repeat' (first|(split at hev)|(simp at hev; done))
   rw[hm]
  ·split at h
   ·rename_i hev _
    simp only[sJ,pJ,gF.val.injEq] at h
    obtain⟨⟨_,rfl⟩,_⟩:=h
    by_cases hm:aR o=true
    ·rw[hm,hid hm]
    haveI:cR:=⟨[]⟩
    exact absurd hev (Ag6 (by simpa using hm))
   ·simp at h
  simp at h
 |_=>
  simp only[ho] at h
  split at h
  ·rename_i hev
   simp only[sJ,pJ,gF.val.injEq] at h
   obtain⟨⟨_,rfl⟩,_⟩:=h
   first
    |(simp only[aR,ho]; done)
    |(exfalso; simp only[evR,ho] at hev; repeat' (first|(split at hev)|(simp at hev; done)))
    |rfl
  ·split at h
   ·rename_i hev _
    simp only[sJ,pJ,gF.val.injEq] at h
    obtain⟨⟨_,rfl⟩,_⟩:=h
    by_cases hm:aR o=true
    ·rw[hm,hid hm]
    haveI:cR:=⟨[]⟩
    exact absurd hev (Ag6 (by simpa using hm))
   ·simp at h
  simp at h
def Am4 {α:Type} (P:Program) (ops:Array Oper):Nat->List Oper->List (Nat×V)->List (Nat×List C)->Nat->List (Nat×List Nat)->Option D->(List Oper->List (Nat×V)->List (Nat×List C)->Nat->List (Nat×List Nat)->Option D->Option α)->Option α
 |0,l,tm,hp,nid,df,pn,k=>k l tm hp nid df pn
 |_+1,[],_,_,_,_,_,_=>none
 |n+1,o::l,tm,hp,nid,df,pn,k=>match wantedAt ops tm o with
  |none=>none
  |some false=>ApZ o.dst (.c .undef) tm λtm=>Am4 P ops n l tm hp nid df pn k
  |some true=>match yK o with
   |true=>none
   |false=>match cV P Ad4 nid o ⟨tm,hp,nid,df,pn⟩ with
    |some (.val v s',_)=>ApZ o.dst v s'.tmps λtm=>tR s'.heap λhp=>match aR o with
     |true=>Am4 P ops n l tm hp (nid+1) df pn k
     |false=>Am4 P ops n l tm hp nid df pn k
    |_=>none
section
variable {X:Ctx} {f:Nat} {Q:AX->St->Prop} {tm tm':List (Nat×V)} {hp hp':List (Nat×List C)} {nid nid':Nat} {df:List (Nat×List Nat)} {pn:Option D}
theorem AeK {α:Type} {ops:Array Oper}:∀{n:Nat} {l:List Oper} {tm:List (Nat×V)} {hp:List (Nat×List C)} {nid:Nat} {df:List (Nat×List Nat)} {pn:Option D} {k:List Oper->List (Nat×V)->List (Nat×List C)->Nat->List (Nat×List Nat)->Option D->Option α} {a:α},
  Am4 X.P ops n l tm hp nid df pn k=some a->∃l' tm' hp' nid' df' pn',k l' tm' hp' nid' df' pn'=some a/\(pL X ops l' Q ⟨tm',hp',nid',df',pn'⟩->pL X ops l Q ⟨tm,hp,nid,df,pn⟩)
 |0,l,tm,hp,nid,df,pn,k,a,h=>by
  simp only[Am4] at h
  exact⟨l,tm,hp,nid,df,pn,h,λh=>h⟩
 |n+1,[],tm,hp,nid,df,pn,k,a,h=>by simp[Am4] at h
 |n+1,o::l,tm,hp,nid,df,pn,k,a,h=>by
  simp only[Am4] at h
  split at h
  ·simp at h
  ·rename_i hw
   rw[show tm=(⟨tm,hp,nid,df,pn⟩:St).tmps from rfl,Al3] at h
   obtain⟨l',tm',hp',nid',df',pn',h1,h2⟩:=AeK h
   refine⟨l',tm',hp',nid',df',pn',h1,λhh=>BbL hw ?_⟩
   have:=h2 hh
   rw[putDst,vH]
   exact this
  rename_i hw
  split at h
  ·simp at h
  rename_i hd
  split at h
  ·rename_i v s' ft hev
   have hr:=AlO rfl (λ_=>rfl) hev hd
   rw[Al3,pN] at h
   cases hm:aR o with
   |true=>
    simp only[hm] at h hr
    obtain⟨l',tm',hp',nid',df',pn',h1,h2⟩:=AeK h
    refine⟨l',tm',hp',nid',df',pn',h1,λhh=>AjV hw (λcall=>vM hev call) ?_⟩
    have:=h2 hh
    rw[putDst,vH]
    rw[hr] at this ⊢
    exact this
   |false=>
    simp only[hm] at h hr
    obtain⟨l',tm',hp',nid',df',pn',h1,h2⟩:=AeK h
    refine⟨l',tm',hp',nid',df',pn',h1,λhh=>AjV hw (λcall=>vM hev call) ?_⟩
    have:=h2 hh
    rw[putDst,vH]
    rw[hr] at this ⊢
    exact this
  simp at h
def ApA (l:List Oper) (tm:List (Nat×V)) (hp:List (Nat×List C)) (nid:Nat) (df:List (Nat×List Nat)) (pn:Option D):Option (List Oper×List (Nat×V)×List (Nat×List C)×Nat×List (Nat×List Nat)×Option D):=some (l,tm,hp,nid,df,pn)
variable {df':List (Nat×List Nat)} {pn':Option D}
theorem on (n:Nat) {ops:Array Oper} {l l':List Oper} (h:Am4 X.P ops n l tm hp nid df pn ApA=some (l',tm',hp',nid',df',pn')) (hh:pL X ops l' Q ⟨tm',hp',nid',df',pn'⟩):pL X ops l Q ⟨tm,hp,nid,df,pn⟩:=by
 obtain⟨_,_,_,_,_,_,h1,h2⟩:=AeK (Q:=Q) h
 simp only[ApA,sJ,pJ] at h1
 obtain⟨rfl,rfl,rfl,rfl,rfl,rfl⟩:=h1
 exact h2 hh
theorem rn (n:Nat) {id:Nat} {ops:Array Oper} {l':List Oper} (h:Ac5 (X.H f id) tm (λtm=>Am4 X.P ops n ops.toList tm hp nid df pn ApA)=some (l',tm',hp',nid',df',pn')) (hh:pL X ops l' Q ⟨tm',hp',nid',df',pn'⟩) (hz:noF (X.H f id)=true:=by rfl) :
  awp X f (.region id ops false) Q ⟨tm,hp,nid,df,pn⟩:=by
 rw[uB] at h
 exact AoG hz (on n h hh)
theorem rnF (n:Nat) {id:Nat} {ops:Array Oper} {l':List Oper} {tm0:List (Nat×V)} {hp0:List (Nat×List C)} {nid0:Nat} (hz:frz (X.H f id) ⟨tm,hp,nid,df,pn⟩=some ⟨tm0,hp0,nid0,df,pn⟩) (h:Ac5 (X.H f id) tm0 (λtm=>Am4 X.P ops n ops.toList tm hp0 nid0 df pn ApA)=some (l',tm',hp',nid',df',pn')) (hh:pL X ops l' Q ⟨tm',hp',nid',df',pn'⟩) (hM:isM (X.H f id)=false:=by rfl) :
  awp X f (.region id ops false) Q ⟨tm,hp,nid,df,pn⟩:=by
 rw[uB] at h
 exact AmH hM hz (on n h hh)
theorem ra {id:Nat} {ops:Array Oper} {b:Code} (h:Ac5 (X.H f id) tm (λtm=>Am4 X.P ops ops.size ops.toList tm hp nid df pn ApA)=some ([],tm',hp',nid',df',pn')) (hh:awp X f b Q ⟨tm',hp',nid',df',pn'⟩) (hz:noF (X.H f id)=true:=by rfl) :
  awp X f (.seq (.region id ops false) b) Q ⟨tm,hp,nid,df,pn⟩:=
 AtN (rn _ h (AjU (.normal hh)) hz)
theorem rz {ops:Array Oper} {b:Code} (hh:awp X f b Q ⟨tm,hp,nid,df,pn⟩):pL X ops [] (lE X f b Q) ⟨tm,hp,nid,df,pn⟩:=AjU (.normal hh)
theorem ct {o:Operand} {a b:Code} {c:Bool} (hc:ev tm o=some (.c (.d (.bool c)))) (e:c=true) (h:awp X f a (fQ (X.H f (uS a b)) nid Q) ⟨tm,hp,nid,df,pn⟩):awp X f (.cond o a b) Q ⟨tm,hp,nid,df,pn⟩:=
 AvR hc (λ_=>h) (λe'=>by rw[e] at e'; cases e')
theorem cf {o:Operand} {a b:Code} {c:Bool} (hc:ev tm o=some (.c (.d (.bool c)))) (e:c=false) (h:awp X f b (fQ (X.H f (uS a b)) nid Q) ⟨tm,hp,nid,df,pn⟩):awp X f (.cond o a b) Q ⟨tm,hp,nid,df,pn⟩:=
 AvR hc (λe'=>by rw[e] at e'; cases e') (λ_=>h)
theorem gt {ops:Array Oper} {o q:Oper} {l:List Oper} {j d:Nat} {want b:Bool} (hg:o.guard=some (j,want)) (hq:ops[j]?=some q) (hd:q.dst=some d) (hl:look d tm=some (.c (.d (.bool b)))) (e:b=true)
  (e1:Aq8 d true tm some=some tm') (h:pL X ops (o::l) Q ⟨tm',hp,nid,df,pn⟩):pL X ops (o::l) Q ⟨tm,hp,nid,df,pn⟩:=by
 have _:=hg; have _:=hq; have _:=hd
 subst e
 rw[Ah0 hl,sJ] at e1
 rw[e1]; exact h
theorem gf {ops:Array Oper} {o q:Oper} {l:List Oper} {j d:Nat} {want b:Bool} (hg:o.guard=some (j,want)) (hq:ops[j]?=some q) (hd:q.dst=some d) (hl:look d tm=some (.c (.d (.bool b)))) (e:b=false)
  (e1:Aq8 d false tm some=some tm') (h:pL X ops (o::l) Q ⟨tm',hp,nid,df,pn⟩):pL X ops (o::l) Q ⟨tm,hp,nid,df,pn⟩:=by
 have _:=hg; have _:=hq; have _:=hd
 subst e
 rw[Ah0 hl,sJ] at e1
 rw[e1]; exact h
theorem fZ {α:Type} {l:List α} {i:Int} {x:α} (h:lget l i=some x):0<=i/\l[i.toNat]?=some x:=by
 unfold lget at h
 split at h
 ·exact⟨by assumption,h⟩
 cases h
def EvO (X:Ctx) (o:Oper) (s:St) (v:V) (s1:St) (ft:eR):Prop:=Evt λk=>cV X.P (X.call k) s.nid o s=some (.val v s1,ft)
theorem po {ops:Array Oper} {o:Oper} {l:List Oper} {v:V} {tm1:List (Nat×V)} {hp1:List (Nat×List C)} {ft:eR} {nid1:Nat} (hop:EvO X o ⟨tm,hp,nid,df,pn⟩ v ⟨tm1,hp1,nid1,df,pn⟩ ft) (hw:wantedAt ops tm o=some true)
  (hk:ApZ o.dst v tm1 (λtm=>tR hp1 λhp=>some (tm,hp))=some (tm',hp')) (h:pL X ops l Q ⟨tm',hp',nid1,df,pn⟩):pL X ops (o::l) Q ⟨tm,hp,nid,df,pn⟩:=by
 refine AtM (s:=⟨tm,hp,nid,df,pn⟩) hw hop ?_
 rw[show tm1=(⟨tm1,hp1,nid1,df,pn⟩:St).tmps from rfl,Al3,pN] at hk
 simp only[sJ,pJ] at hk
 obtain⟨rfl,rfl⟩:=hk
 rw[putDst,vH]
 exact h
def AcT {β:Type}:List Lc->(List Lc->β)->β
 | [],k=>k []
 |x::r,k=>match x with
  |.tmp a=>AcT r λr=>k (.tmp a::r)
  |.blk a=>AcT r λr=>k (.blk a::r)
  |.nid=>AcT r λr=>k (.nid::r)
  |.defs=>AcT r λr=>k (.defs::r)
  |.vb a=>AcT r λr=>k (.vb a::r)
  |.vt a=>AcT r λr=>k (.vt a::r)
theorem ArQ {β:Type}:∀{l:List Lc} {k:List Lc->β},AcT l k=k l
 | [],_=>rfl
 |x::r,k=>by cases x<;>simp only[AcT,ArQ]
def fpK {β:Type} (f:Fp) (k:Fp->β):β:=match f with
 |⟨rd,wr,refs,all⟩=>AcT rd λrd=>AcT wr λwr=>qX refs λrefs=>match all with
  |true=>k ⟨rd,wr,refs,true⟩
  |false=>k ⟨rd,wr,refs,false⟩
theorem ApG {β:Type} {f:Fp} {k:Fp->β}:fpK f k=k f:=by
 obtain⟨rd,wr,refs,all⟩:=f
 simp only[fpK,ArQ,iM]
 cases all<;>rfl
theorem AaM {dst:Option Nat} {v:V} {tm1:List (Nat×V)} {hp1:List (Nat×List C)} {s2:St} (h:vG dst v ⟨tm1,hp1,nid,df,pn⟩=some s2):s2=⟨s2.tmps,s2.heap,nid,df,pn⟩:=by
 cases dst with
 |none=>simp only[vG,sJ] at h; subst h; rfl
 |some d=>
  simp only[vG] at h
  split at h
  ·simp only[sJ] at h; subst h; rfl
  simp at h
theorem pd {ops:Array Oper} {vs:List Nat} {base i i':Nat} {pre pre':List Fp} {o:Oper} {l:List Oper} {v:V} {tm1:List (Nat×V)} {hp1:List (Nat×List C)} {ft:eR} {nid1:Nat} (hop:EvO X o ⟨tm,hp,nid,df,pn⟩ v ⟨tm1,hp1,nid1,df,pn⟩ ft) (hw:wantedAt ops tm o=some true) (hm:aR o=false)
  (hk:(vG o.dst (gS vs o.dst v) (afterApp o ⟨tm1,hp1,nid1,df,pn⟩)).bind (λs2=>qX s2.tmps λtm=>tR s2.heap λhp=>some (tm,hp))=some (tm',hp'))
  (hf:fpK ((rC ops o ⟨tm,hp,nid,df,pn⟩ (gS vs o.dst v) ⟨tm1,hp1,nid1,df,pn⟩ ft).fill ⟨tm',hp',nid1,df,pn⟩) (λfp=>qX (pre++[fp]) some)=some pre') (hi:i+1=i')
  (h:nU X ops vs base pre' l i' Q ⟨tm',hp',nid1,df,pn⟩):nU X ops vs base pre (o::l) i Q ⟨tm,hp,nid,df,pn⟩:=by
 rw[ApG,iM,sJ] at hf
 subst hi hf
 rw[Option.bind_eq_some_iff] at hk
 obtain⟨s2,h2,hk⟩:=hk
 rw[iM,pN] at hk
 simp only[sJ,pJ] at hk
 have hs2:=AaM h2
 obtain⟨rfl,rfl⟩:=hk
 rw[←hs2] at h
 exact Bg7 (s:=⟨tm,hp,nid,df,pn⟩) hw hm hop h2 h
def AfM {α:Type} (P:Program) (ops:Array Oper) (vs:List Nat) (base:Nat) (nid:Nat) (df:List (Nat×List Nat)) (pn:Option D):Nat->List Oper->Nat->List Fp->List (Nat×V)->List (Nat×List C)->(List Oper->Nat->List Fp->List (Nat×V)->List (Nat×List C)->Option α)->Option α
 |0,l,i,pre,tm,hp,k=>qX pre λpre=>k l i pre tm hp
 |_+1,[],_,_,_,_,_=>none
 |n+1,o::l,i,pre,tm,hp,k=>match wantedAt ops tm o with
  |none=>none
  |some false=>match vG o.dst (.c .undef) ⟨tm,hp,nid,df,pn⟩ with
   |some s1=>qX s1.tmps λtm=>tR s1.heap λhp=>fpK (Fp.fill ⟨(eT ops o).map .tmp,kJ o.dst (.c .undef),[],false⟩ ⟨tm,hp,nid,df,pn⟩) λfp=>AfM P ops vs base nid df pn n l (i+1) (pre++[fp]) tm hp k
   |none=>none
  |some true=>match yK o with
   |true=>none
   |false=>match eI P Ad4 ops vs (base+i) o ⟨tm,hp,nid,df,pn⟩ with
    |some (.val v s1,ft)=>match vG o.dst v s1 with
     |some s2=>qX s2.tmps λtm=>tR s2.heap λhp=>fpK (ft.fill ⟨tm,hp,nid,df,pn⟩) λfp=>AfM P ops vs base nid df pn n l (i+1) (pre++[fp]) tm hp k
     |none=>none
    |_=>none
theorem AmO {P:Program} {ops:Array Oper} {vs:List Nat} {id:Nat} {o:Oper} {tm:List (Nat×V)} {hp:List (Nat×List C)} {nid:Nat} {df:List (Nat×List Nat)} {pn:Option D} {v:V} {s1:St} {ft:Fp}
  (h:eI P Ad4 ops vs id o ⟨tm,hp,nid,df,pn⟩=some (.val v s1,ft)) (hd:yK o=false):s1=⟨s1.tmps,s1.heap,nid,df,pn⟩:=by
 unfold eI at h
 split at h
 ·unfold Aa2 at h
  split at h
  ·split at h
   ·split at h
    ·simp at h
    ·simp only[sJ,pJ,gF.val.injEq] at h
     obtain⟨⟨_,rfl⟩,_⟩:=h; rfl
   ·simp at h
  simp at h
 rename_i hm
 unfold eE at h
 split at h
 ·rename_i hev
  simp only[sJ,pJ,gF.val.injEq] at h
  obtain⟨⟨_,rfl⟩,_⟩:=h
  have:=AlO rfl (λe=>absurd e hm) hev hd
  simp only[Bool.not_eq_true] at hm
  simp only[hm] at this
  rw[this]; rfl
 ·simp at h
 simp at h
theorem Ai2 {P:Program} {ops:Array Oper} {vs:List Nat} {id:Nat} {o:Oper} {s s1:St} {v:V} {ft:Fp} (h:eI P Ad4 ops vs id o s=some (.val v s1,ft)) (call:Call):eI P call ops vs id o s=some (.val v s1,ft):=by
 unfold eI at h ⊢
 split at h
 ·rename_i hm
  rw[if_pos hm]; exact h
 rename_i hm
 rw[if_neg hm]
 unfold eE at h ⊢
 split at h
 ·rename_i hev
  rw[vM hev call]; exact h
 ·simp at h
 simp at h
theorem AfN {α:Type} {ops:Array Oper} {vs:List Nat} {base:Nat}:∀{n:Nat} {l:List Oper} {i:Nat} {pre:List Fp} {tm:List (Nat×V)} {hp:List (Nat×List C)} {k:List Oper->Nat->List Fp->List (Nat×V)->List (Nat×List C)->Option α} {a:α},
  AfM X.P ops vs base nid df pn n l i pre tm hp k=some a->∃l' i' pre' tm' hp',k l' i' pre' tm' hp'=some a/\(nU X ops vs base pre' l' i' Q ⟨tm',hp',nid,df,pn⟩->nU X ops vs base pre l i Q ⟨tm,hp,nid,df,pn⟩)
 |0,l,i,pre,tm,hp,k,a,h=>by
  simp only[AfM,iM] at h
  exact⟨l,i,pre,_,_,h,λh=>h⟩
 |n+1,[],i,pre,tm,hp,k,a,h=>by simp[AfM] at h
 |n+1,o::l,i,pre,tm,hp,k,a,h=>by
  simp only[AfM,iM,pN,ApG] at h
  split at h
  ·simp at h
  ·rename_i hw
   split at h
   ·rename_i s1 hp
    have hr:=AaM hp
    obtain⟨l',i',pre',tm',hp',h1,h2⟩:=AfN h
    refine⟨l',i',pre',tm',hp',h1,λhh=>BbK hw hp ?_⟩
    have:=h2 hh
    rw[←hr] at this
    exact this
   simp at h
  rename_i hw
  split at h
  ·simp at h
  rename_i hd
  split at h
  ·rename_i v s1 ft hop
   have hr1:=AmO hop hd
   split at h
   ·rename_i s2 hp
    have hr:s2=⟨s2.tmps,s2.heap,nid,df,pn⟩:=by
     rw[hr1] at hp
     exact AaM hp
    obtain⟨l',i',pre',tm',hp',h1,h2⟩:=AfN h
    refine⟨l',i',pre',tm',hp',h1,λhh=>AvP hw (λcall=>Ai2 hop call) hp ?_⟩
    have:=h2 hh
    rw[←hr] at this
    exact this
   simp at h
  simp at h
def Ai1 (l:List Oper) (i:Nat) (pre:List Fp) (tm:List (Nat×V)) (hp:List (Nat×List C)):Option (List Oper×Nat×List Fp×List (Nat×V)×List (Nat×List C)):=some (l,i,pre,tm,hp)
theorem don (n:Nat) {ops:Array Oper} {vs:List Nat} {base i i':Nat} {pre pre':List Fp} {l l':List Oper} (h:AfM X.P ops vs base nid df pn n l i pre tm hp Ai1=some (l',i',pre',tm',hp'))
  (hh:nU X ops vs base pre' l' i' Q ⟨tm',hp',nid,df,pn⟩):nU X ops vs base pre l i Q ⟨tm,hp,nid,df,pn⟩:=by
 obtain⟨_,_,_,_,_,h1,h2⟩:=AfN (Q:=Q) h
 simp only[Ai1,sJ,pJ] at h1
 obtain⟨rfl,rfl,rfl,rfl,rfl⟩:=h1
 exact h2 hh
theorem drn (n:Nat) {id i' m:Nat} {ops:Array Oper} {pre':List Fp} {l':List Oper} (hn:nid+ops.size=m)
  (h:Ac5 (X.H f id) tm (λtm=>AfM X.P ops (rI ops) nid m df pn n ops.toList 0 [] tm hp Ai1)=some (l',i',pre',tm',hp')) (hh:nU X ops (rI ops) nid pre' l' i' Q ⟨tm',hp',m,df,pn⟩) (hz:(noF (X.H f id)&&!(X.H f id).contains 4999999)=true:=by rfl) :
  awp X f (.region id ops true) Q ⟨tm,hp,nid,df,pn⟩:=by
 rw[uB] at h
 subst hn
 exact AvS hz (don n h hh)
theorem BkC (n:Nat) {id i' m:Nat} {ops:Array Oper} {pre':List Fp} {l':List Oper} {tm0:List (Nat×V)} {hp0:List (Nat×List C)} {nid0:Nat} (hz:frz (X.H f id) ⟨tm,hp,nid,df,pn⟩=some ⟨tm0,hp0,nid0,df,pn⟩) (hn:nid0+ops.size=m)
  (h:Ac5 (X.H f id) tm0 (λtm=>AfM X.P ops (rI ops) nid0 m df pn n ops.toList 0 [] tm hp0 Ai1)=some (l',i',pre',tm',hp')) (hh:nU X ops (rI ops) nid0 pre' l' i' Q ⟨tm',hp',m,df,pn⟩) (hns:(X.H f id).contains 4999999=false:=by rfl) (hM:isM (X.H f id)=false:=by rfl) :
  awp X f (.region id ops true) Q ⟨tm,hp,nid,df,pn⟩:=by
 rw[uB] at h
 subst hn
 exact ArJ hM hns hz (don n h hh)
def Lc.code:Lc->Nat
 |.tmp x=>6*x
 |.blk b=>6*b+1
 |.nid=>2
 |.defs=>3
 |.vb b=>6*b+4
 |.vt u=>6*u+5
def wT:List Lc->Nat
 | []=>0
 |x::r=>Nat.lor (Nat.shiftLeft 1 x.code) (wT r)
theorem Am1 {x:Lc}:∀{l:List Lc},x∈l->(wT l).testBit x.code=true
 | [],h=>by simp at h
 |y::r,h=>by
  show ((1 <<< y.code) ||| wT r).testBit x.code=true
  rw[Nat.testBit_or]
  rcases List.mem_cons.1 h with rfl|h
  ·simp
  rw[Am1 h]; simp
theorem AvL {l m:List Lc} (h:Nat.beq (Nat.land (wT l) (wT m)) 0=true):apart l m=true:=by
 have h:=Nat.eq_of_beq_eq_true h
 simp only[apart,List.all_eq_true,Bool.not_eq_true']
 intro x hx
 cases hc:m.contains x with
 |false=>rfl
 |true=>
  rw[List.contains_iff_mem] at hc
  have h1:(wT l &&& wT m).testBit x.code=true:=by rw[Nat.testBit_and,Am1 hx,Am1 hc]; rfl
  rw[show wT l &&& wT m=0 from h] at h1
  simp at h1
structure FpM where
 r:Nat
 w:Nat
 all:Bool
def Fp.toM (f:Fp):FpM:=⟨wT f.reads,wT f.writes,f.all⟩
def FpM.apart (f g:FpM):Bool:=match f.all,g.all with
 |false,false=>Nat.beq (Nat.land f.w (Nat.lor g.r g.w)) 0&&Nat.beq (Nat.land g.w f.r) 0
 |_,_=>false
theorem AkZ:∀l m:List Lc,wT (l++m)=Nat.lor (wT l) (wT m)
 | [],m=>by show wT m=0 |||wT m; simp
 |x::l,m=>by
  show (1 <<< x.code) ||| wT (l++m)=((1 <<< x.code) ||| wT l) ||| wT m
  rw[AkZ l m]
  exact (Nat.or_assoc ..).symm
theorem FpM.apart_ok {f g:Fp} (h:f.toM.apart g.toM=true):f.apart g=true:=by
 unfold FpM.apart Fp.toM at h
 simp only at h
 split at h
 ·rename_i hf hg
  simp only[Bool.and_eq_true] at h
  simp only[Fp.apart,hf,hg,Bool.not_false,Bool.true_and,Bool.and_eq_true]
  exact⟨AvL (by rw[AkZ]; exact h.1),AvL h.2⟩
 simp at h
def AtV (acc:List Nat):List Edge->Nat->Nat
 | [],m=>m
 |e::r,m=>AtV acc r (match Region.binds .any e with
  |true=>Nat.lor (Nat.lor (Nat.shiftLeft 1 e.on) (acc.getD e.on 0)) m
  |false=>m)
def AfJ:List Oper->List Nat->List Nat
 | [],acc=>acc
 |o::r,acc=>AfJ r (acc++[AtV acc o.after.toList 0])
def Ao2 (m:Nat) (l:List Nat):Prop:=∀i,m.testBit i=true->i∈l
theorem As4 {accM:List Nat} {acc:List (List Nat)} (ha:∀j,Ao2 (accM.getD j 0) (acc.getD j [])):∀(es:List Edge) (m:Nat) (l:List Nat),Ao2 m l ->
  Ao2 (AtV accM es m) (es.foldl (λl e=>if Region.binds .any e then e.on::(acc.getD e.on []++l) else l) l)
 | [],m,l,h=>h
 |e::es,m,l,h=>by
  simp only[AtV,List.foldl_cons]
  refine As4 ha es _ _ ?_
  cases hb:Region.binds .any e with
  |false=>simpa using h
  |true=>
   simp only[if_true]
   intro i hi
   rw[show Nat.lor (Nat.lor (Nat.shiftLeft 1 e.on) (accM.getD e.on 0)) m=((1 <<< e.on) ||| accM.getD e.on 0) ||| m from rfl,Nat.testBit_or,Nat.testBit_or] at hi
   simp only[Bool.or_eq_true] at hi
   rcases hi with (hi|hi)|hi
   ·have:i=e.on:=by
     rw[Nat.testBit_shiftLeft] at hi
     simp only[Bool.and_eq_true,decide_eq_true_eq] at hi
     have h2:=hi.2
     by_cases hz:i-e.on=0
     ·omega
     rw[Nat.testBit_one_eq_true_iff_self_eq_zero] at h2
     exact absurd h2 hz
    rw[this]; simp
   ·exact List.mem_cons_of_mem _ (List.mem_append_left _ (ha _ _ hi))
   exact List.mem_cons_of_mem _ (List.mem_append_right _ (h _ hi))
theorem AmI:∀(ops:List Oper) (accM:List Nat) (acc:List (List Nat)),accM.length=acc.length->(∀j,Ao2 (accM.getD j 0) (acc.getD j [])) ->
  ∀j,Ao2 ((AfJ ops accM).getD j 0) ((iV ops acc).getD j [])
 | [],accM,acc,_,h=>by simpa[AfJ,iV] using h
 |o::r,accM,acc,hl,h=>by
  simp only[AfJ,iV]
  refine AmI r _ _ (by simp[hl]) ?_
  intro j
  have he:=As4 h o.after.toList 0 [] (by intro i hi; simp at hi)
  by_cases hj:j<accM.length
  ·simp only[List.getD_eq_getElem?_getD]
   rw[List.getElem?_append_left hj,List.getElem?_append_left (hl▸hj),←List.getD_eq_getElem?_getD,←List.getD_eq_getElem?_getD]
   exact h j
  by_cases hj':j=accM.length
  ·subst hj'
   simp only[List.getD_eq_getElem?_getD,List.getElem?_append_right (Nat.le_refl _),Nat.sub_self]
   rw[List.getElem?_append_right (by omega)]
   simpa[hl] using he
  intro i hi
  simp only[List.getD_eq_getElem?_getD] at hi
  rw[List.getElem?_eq_none (by simp; omega)] at hi
  simp at hi
def AzC (o:Oper) (f:Fp):Bool:=
 !f.all&&f.writes.all λl=>match l,o.dst with
  |.tmp y,some x=>Nat.beq y x
  |_,_=>false
theorem BcE {o:Oper} {f:Fp} (h:AzC o f=true):loose o f=true:=by
 simp only[AzC,loose,Bool.and_eq_true,List.all_eq_true] at h ⊢
 refine⟨h.1,λl hl=>?_⟩
 have:=h.2 l hl
 split at this
 ·rename_i y x hx
  rw[hx]
  simp only[beq_iff_eq,Lc.tmp.injEq]
  exact Nat.eq_of_beq_eq_true this
 simp at this
def Ak4 (pn:Bool) (ops:Array Oper) (base:Nat) (fs:List Fp):Bool:=
 let bs:=AfJ ops.toList []
 let ms:=fs.map Fp.toM
 let k:=fs.length
 ((List.range ops.size).all λj=>
  ((ops.getD j default).after.toList.all λe=>!Region.binds .any e||Nat.blt e.on j) &&
  (List.range j).all λi=>
   (bs.getD j 0).testBit i ||
   (match Nat.blt j k with
    |true=>match ms[i]?,ms[j]? with
     |some a,some b=>a.apart b||pn&&Nat.beq (j+1) k&&AzC (ops.getD i default) (fs.getD i default)
     |_,_=>false
    |false=>!(Nat.beq (i+1) k))) &&
 (List.range k).all λi=>!aR (ops.getD i default) ||
  (List.range k).all λj=>i==j||(bs.getD j 0).testBit i||!(fs.getD j default).refs.contains (base+i)
theorem AiZ {pn:Bool} {ops:Array Oper} {base:Nat} {fs:List Fp} (h:Ak4 pn ops base fs=true):AfP pn ops base fs=true:=by
 have hb:=AmI ops.toList [] [] rfl (by intro j i hi; simp at hi)
 have blt:∀{a b:Nat},Nat.blt a b=true->a<b:=λh=>Nat.le_of_ble_eq_true h
 unfold Ak4 at h
 unfold AfP
 simp only[Bool.and_eq_true,List.all_eq_true,List.mem_range,Bool.or_eq_true,Bool.not_eq_true'] at h ⊢
 refine⟨λj hj=>⟨λe he=>?_,λi hi=>?_⟩,λi hi=>?_⟩
 ·rcases (h.1 j hj).1 e he with h1|h1
  ·exact .inl h1
  ·exact .inr (by simpa using blt h1)
 ·rcases (h.1 j hj).2 i hi with h1|h1
  ·exact .inl (by rw[List.contains_iff_mem]; exact hb j i h1)
  ·right
   split at h1
   ·rename_i hjk
    rw[if_pos (blt hjk)]
    split at h1
    ·rename_i a b ha hb'
     rw[List.getElem?_map,Option.map_eq_some_iff] at ha hb'
     obtain⟨fa,hfa,rfl⟩:=ha
     obtain⟨fb,hfb,rfl⟩:=hb'
     rcases Bool.or_eq_true _ _ |>.mp h1 with h1|h1
     ·have:=FpM.apart_ok h1
      rw[Bool.or_eq_true]; left
      simpa[List.getD_eq_getElem?_getD,hfa,hfb] using this
     simp only[Bool.and_eq_true] at h1
     rw[Bool.or_eq_true]; right
     simp only[Bool.and_eq_true,decide_eq_true_eq]
     exact⟨⟨h1.1.1,Nat.eq_of_beq_eq_true h1.1.2⟩,BcE h1.2⟩
    simp at h1
   rename_i hjk
   have hk:¬j<fs.length:=by
    intro hlt
    have:Nat.blt j fs.length=true:=Nat.ble_eq_true_of_le hlt
    rw[hjk] at this; simp at this
   rw[if_neg hk]
   simp only[decide_eq_true_eq]
   intro e
   rw[e] at h1
   simp at h1
 rcases h.2 i hi with h1|h1
 ·exact .inl h1
 refine .inr λj hj=>?_
 rcases h1 j hj with (h2|h2)|h2
 ·exact .inl (.inl h2)
 ·exact .inl (.inr (by rw[List.contains_iff_mem]; exact hb j i h2))
 exact .inr h2
theorem dz {ops:Array Oper} {vs:List Nat} {base i:Nat} {pre:List Fp} {b:Code} (hok:(Ak4 false ops base pre&&Nat.ble base nid)=true) (hh:awp X f b Q ⟨tm,hp,nid,df,pn⟩):nU X ops vs base pre [] i (lE X f b Q) ⟨tm,hp,nid,df,pn⟩:=by
 simp only[Bool.and_eq_true] at hok
 exact AvO (by simp only[Bool.and_eq_true,decide_eq_true_eq]; exact⟨AiZ hok.1,Nat.le_of_ble_eq_true hok.2⟩) (.normal hh)
theorem dz' {ops:Array Oper} {vs:List Nat} {base i:Nat} {pre:List Fp} (hok:(Ak4 false ops base pre&&Nat.ble base nid)=true) (hh:Q .normal ⟨tm,hp,nid,df,pn⟩):nU X ops vs base pre [] i Q ⟨tm,hp,nid,df,pn⟩:=by
 simp only[Bool.and_eq_true] at hok
 exact AvO (by simp only[Bool.and_eq_true,decide_eq_true_eq]; exact⟨AiZ hok.1,Nat.le_of_ble_eq_true hok.2⟩) hh
theorem dgt {ops:Array Oper} {vs:List Nat} {base i:Nat} {pre:List Fp} {o q:Oper} {l:List Oper} {j d:Nat} {want b:Bool} (hg:o.guard=some (j,want)) (hq:ops[j]?=some q) (hd:q.dst=some d) (hl:look d tm=some (.c (.d (.bool b)))) (e:b=true)
  (e1:Aq8 d true tm some=some tm') (h:nU X ops vs base pre (o::l) i Q ⟨tm',hp,nid,df,pn⟩):nU X ops vs base pre (o::l) i Q ⟨tm,hp,nid,df,pn⟩:=by
 have _:=hg; have _:=hq; have _:=hd
 subst e
 rw[Ah0 hl,sJ] at e1
 rw[e1]; exact h
theorem dgf {ops:Array Oper} {vs:List Nat} {base i:Nat} {pre:List Fp} {o q:Oper} {l:List Oper} {j d:Nat} {want b:Bool} (hg:o.guard=some (j,want)) (hq:ops[j]?=some q) (hd:q.dst=some d) (hl:look d tm=some (.c (.d (.bool b)))) (e:b=false)
  (e1:Aq8 d false tm some=some tm') (h:nU X ops vs base pre (o::l) i Q ⟨tm',hp,nid,df,pn⟩):nU X ops vs base pre (o::l) i Q ⟨tm,hp,nid,df,pn⟩:=by
 have _:=hg; have _:=hq; have _:=hd
 subst e
 rw[Ah0 hl,sJ] at e1
 rw[e1]; exact h
theorem BhP {o:Oper} {t:TypeId} {x i:Operand} {u:Str} {k:IntKind} {n y:Int} (hy:sget u n=some y) (ho:o.op=.index t x i) (ht:X.P.underlying t=some .string) (hx:ev tm x=some (.c (.d (.str u)))) (hi:ev tm i=some (.c (.d (.int k n)))) :
  EvO X o ⟨tm,hp,nid,df,pn⟩ (.d (.int .u8 y)) ⟨tm,hp,nid,df,pn⟩ ⟨cO o tm,[],[]⟩:=by
 unfold sget at hy
 split at hy
 ·rename_i h0
  rw[Option.map_eq_some_iff] at hy
  obtain⟨b,hb,rfl⟩:=hy
  exact .of λ_=>Au4 (s:=⟨tm,hp,nid,df,pn⟩) ho ht hx hi h0 hb
 cases hy
theorem nB {α:Type} {g:α->D} (g':α->D) (hg:∀a,g a=g' a) {u:List α} {y:α} {n:Int} {o:Oper} {t e:TypeId} {x i:Operand} {k:IntKind} {sz:Nat} (hy:lget u n=some y)
  (ho:o.op=.indexAddr t x i) (ht:mW X.P t=some e) (hz:some sz=tsz X.P e) (hx:(ev tm x).bind V.toD=some (.list sz (u.map g))) (hi:ev tm i=some (.c (.d (.int k n)))) :
  EvO X o ⟨tm,hp,nid,df,pn⟩ (.rptr (g' y).cells) ⟨tm,hp,nid,df,pn⟩ ⟨cO o tm,[],[]⟩:=by
 obtain⟨h0,hy⟩:=fZ hy
 rw[←hg]
 exact .of λ_=>Au3 (s:=⟨tm,hp,nid,df,pn⟩) (d:=g y) ho ht hz hx hi h0 (by simp[hy])
theorem Be8 {o:Oper} {t:TypeId} {x lo:Operand} {u y:Str} {k:IntKind} {n:Int} (hy:sfrom u n=some y)
  (ho:o.op=.slice t x (some lo) none none) (ht:X.P.underlying t=some .string) (hx:evT X.P t tm x=some (.c (.d (.str u)))) (hi:ev tm lo=some (.c (.d (.int k n)))) :
  EvO X o ⟨tm,hp,nid,df,pn⟩ (.d (.str y)) ⟨tm,hp,nid,df,pn⟩ ⟨cO o tm,[],[]⟩:=by
 unfold sfrom at hy
 split at hy
 ·rename_i hb
  simp only[sJ] at hy; subst hy
  have:=λcall=>AeA (P:=X.P) (call:=call) (id:=nid) (s:=⟨tm,hp,nid,df,pn⟩) (a:=n.toNat) (b:=u.length) ho ht hx (qB hi hb.1) rfl hb.2 (Nat.le_refl _)
  rw[List.take_length] at this
  exact .of λ_=>this _
 cases hy
theorem BjY {o:Oper} {t:TypeId} {x hh:Operand} {u y:Str} {k:IntKind} {n:Int} (hy:sto u n=some y)
  (ho:o.op=.slice t x none (some hh) none) (ht:X.P.underlying t=some .string) (hx:evT X.P t tm x=some (.c (.d (.str u)))) (hi:ev tm hh=some (.c (.d (.int k n)))) :
  EvO X o ⟨tm,hp,nid,df,pn⟩ (.d (.str y)) ⟨tm,hp,nid,df,pn⟩ ⟨cO o tm,[],[]⟩:=by
 unfold sto at hy
 split at hy
 ·rename_i hb
  simp only[sJ] at hy; subst hy
  exact .of λ_=>AeA (s:=⟨tm,hp,nid,df,pn⟩) (a:=0) (b:=n.toNat) ho ht hx rfl (qB hi hb.1) (Nat.zero_le _) hb.2
 cases hy
theorem BhQ {o:Oper} {t:TypeId} {x lo hh:Operand} {u y:Str} {k k':IntKind} {n m:Int} (hy:smid u n m=some y)
  (ho:o.op=.slice t x (some lo) (some hh) none) (ht:X.P.underlying t=some .string) (hx:evT X.P t tm x=some (.c (.d (.str u)))) (hi:ev tm lo=some (.c (.d (.int k n)))) (hi':ev tm hh=some (.c (.d (.int k' m)))) :
  EvO X o ⟨tm,hp,nid,df,pn⟩ (.d (.str y)) ⟨tm,hp,nid,df,pn⟩ ⟨cO o tm,[],[]⟩:=by
 unfold smid at hy
 split at hy
 ·rename_i hb
  simp only[sJ] at hy; subst hy
  exact .of λ_=>AeA (s:=⟨tm,hp,nid,df,pn⟩) (a:=n.toNat) (b:=m.toNat) ho ht hx (qB hi hb.1) (qB hi' (by omega)) (by omega) hb.2.2
 cases hy
theorem BhO {o:Oper} {t t':TypeId} {x y:Operand} {a b r:Str} (hy:scat a b=some r)
  (ho:o.op=.binOp .add t x y t') (hx:evT X.P t tm x=some (.c (.d (.str a)))) (hy':evT X.P t tm y=some (.c (.d (.str b)))) :
  EvO X o ⟨tm,hp,nid,df,pn⟩ (.d (.str r)) ⟨tm,hp,nid,df,pn⟩ ⟨cO o tm,[],[]⟩:=by
 unfold scat at hy
 split at hy
 ·simp only[sJ] at hy; subst hy
  exact .of λ_=>Bc1 (s:=⟨tm,hp,nid,df,pn⟩) ho hx hy' (by assumption)
 cases hy
theorem AlL {α:Type} {g:α->D} {u y:List α} {o:Oper} {t e:TypeId} {x lo:Operand} {v:V} {k:IntKind} {n:Int} {sz:Nat} (hy:lfrom u n=some y)
  (ho:o.op=.slice t x (some lo) none none) (ht:X.P.underlying t=some (.slice e)) (hz:tsz X.P e=some sz) (hx:evT X.P t tm x=some v) (hv:v.toD=some (.list sz (u.map g))) (hi:ev tm lo=some (.c (.d (.int k n)))) :
  EvO X o ⟨tm,hp,nid,df,pn⟩ (.d (.list sz (y.map g))) ⟨tm,hp,nid,df,pn⟩ ⟨cO o tm,[],[]⟩:=by
 unfold lfrom at hy
 split at hy
 ·rename_i hb
  simp only[sJ] at hy; subst hy
  have:=λcall=>AcY (P:=X.P) (call:=call) (id:=nid) (s:=⟨tm,hp,nid,df,pn⟩) (a:=n.toNat) (b:=u.length) (lo:=some lo) (hi:=none) ho ht hz hx hv (qB hi hb.1) (by simp[gB]) hb.2 (by simp)
  rw[show u.length=(u.map g).length from (List.length_map ..).symm,List.take_length,←List.map_drop] at this
  exact .of λ_=>this _
 cases hy
theorem Bg9 {α:Type} {g:α->D} {u y:List α} {o:Oper} {t e:TypeId} {x hh:Operand} {v:V} {k:IntKind} {n:Int} {sz:Nat} (hy:lto u n=some y)
  (ho:o.op=.slice t x none (some hh) none) (ht:X.P.underlying t=some (.slice e)) (hz:tsz X.P e=some sz) (hx:evT X.P t tm x=some v) (hv:v.toD=some (.list sz (u.map g))) (hi:ev tm hh=some (.c (.d (.int k n)))) :
  EvO X o ⟨tm,hp,nid,df,pn⟩ (.d (.list sz (y.map g))) ⟨tm,hp,nid,df,pn⟩ ⟨cO o tm,[],[]⟩:=by
 unfold lto at hy
 split at hy
 ·rename_i hb
  simp only[sJ] at hy; subst hy
  have:=λcall=>AcY (P:=X.P) (call:=call) (id:=nid) (s:=⟨tm,hp,nid,df,pn⟩) (a:=0) (b:=n.toNat) (lo:=none) (hi:=some hh) ho ht hz hx hv rfl (qB hi hb.1) (Nat.zero_le _) (by simpa using hb.2)
  rw[List.drop_zero,←List.map_take] at this
  exact .of λ_=>this _
 cases hy
theorem As6 {α:Type} {g:α->D} {u y:List α} {o:Oper} {t e:TypeId} {x lo hh:Operand} {v:V} {k k':IntKind} {n m:Int} {sz:Nat} (hy:AfH u n m=some y)
  (ho:o.op=.slice t x (some lo) (some hh) none) (ht:X.P.underlying t=some (.slice e)) (hz:tsz X.P e=some sz) (hx:evT X.P t tm x=some v) (hv:v.toD=some (.list sz (u.map g))) (hi:ev tm lo=some (.c (.d (.int k n)))) (hi':ev tm hh=some (.c (.d (.int k' m)))) :
  EvO X o ⟨tm,hp,nid,df,pn⟩ (.d (.list sz (y.map g))) ⟨tm,hp,nid,df,pn⟩ ⟨cO o tm,[],[]⟩:=by
 unfold AfH at hy
 split at hy
 ·rename_i hb
  simp only[sJ] at hy; subst hy
  have:=λcall=>AcY (P:=X.P) (call:=call) (id:=nid) (s:=⟨tm,hp,nid,df,pn⟩) (a:=n.toNat) (b:=m.toNat) ho ht hz hx hv (qB hi hb.1) (qB hi' (by omega)) (by omega) (by simpa using hb.2.2)
  rw[←List.map_take,←List.map_drop] at this
  exact .of λ_=>this _
 cases hy
theorem nC {α:Type} {g:α->D} {u:List α} {o:Oper} {c:Go.Call} {t e:TypeId} {x:Operand} {v:V} {sz:Nat}
  (ho:o.op=.call c) (hc:c.callee=.builtin .len) (ha:c.args.toList=[x]) (hat:c.argTypes.toList=[t]) (ht:X.P.underlying t=some (.slice e)) (hx:ev tm x=some v) (hv:v.toD=some (.list sz (u.map g))) :
  EvO X o ⟨tm,hp,nid,df,pn⟩ (.d (.int .i64 u.length)) ⟨tm,hp,nid,df,pn⟩ eR.none:=
 .of λ_=>by simp only[cV,evR,ho,hc,ha,hat,hx,bJ,AdI hv,ht,List.length_map]
theorem BgE {o:Oper} {src dst e:TypeId} {x:Operand} {a:Str} {y:List Int} (hy:sbytes a=some y)
  (ho:o.op=.convert src dst x) (hs:X.P.underlying src=some .string) (hdd:X.P.underlying dst=some (.slice e)) (he:X.P.underlying e=some (.int .u8)) (hz:tsz X.P e=some 1) (hx:evT X.P src tm x=some (.c (.d (.str a)))) :
  EvO X o ⟨tm,hp,nid,df,pn⟩ (.c (.own 1 (y.map (D.int .u8)))) ⟨tm,hp,nid,df,pn⟩ ⟨cO o tm,[],[]⟩:=by
 unfold sbytes at hy
 split at hy
 ·rename_i hb
  simp only[sJ] at hy; subst hy
  have:=λcall=>Be9 (P:=X.P) (call:=call) (id:=nid) (s:=⟨tm,hp,nid,df,pn⟩) ho hs hdd he hz hx hb
  rw[show a.map AbQ=(a.map u8I).map (D.int .u8) from by rw[List.map_map]; rfl] at this
  exact .of λ_=>this _
 cases hy
theorem xF:∀a:List Int,xE (a.map (D.int .u8))=some (BiK a)
 | []=>rfl
 |n::a=>by
  show (xE (a.map (D.int .u8))).map (UInt8.ofNat n.toNat::·)=_
  rw[xF a]; rfl
theorem BhK {o:Oper} {src dst e:TypeId} {x:Operand} {v:V} {a:List Int}
  (ho:o.op=.convert src dst x) (hs:X.P.underlying src=some (.slice e)) (hdd:X.P.underlying dst=some .string) (he:X.P.underlying e=some (.int .u8)) (hx:evT X.P src tm x=some v) (hv:v.toD=some (.list 1 (a.map (D.int .u8)))) :
  EvO X o ⟨tm,hp,nid,df,pn⟩ (.d (.str (BiK a))) ⟨tm,hp,nid,df,pn⟩ ⟨cO o tm,[],[]⟩:=by
 have hcv:Aw2 X.P src dst v=some (.d (.str (BiK a))):=by
  unfold Aw2
  rw[hs,hdd]
  cases v with
  |c y=>
   cases y with
   |d z=>simp only[V.toD,C.toD,sJ] at hv; subst hv; simp only[he,V.toD,C.toD,xF,Option.map_some]
   |own z ys=>simp only[V.toD,C.toD,sJ,D.list.injEq] at hv; obtain⟨rfl,rfl⟩:=hv; simp only[he,V.toD,C.toD,xF,Option.map_some]
   |full z ys=>simp only[V.toD,C.toD,sJ,D.list.injEq] at hv; obtain⟨rfl,rfl⟩:=hv; simp only[he,V.toD,C.toD,xF,Option.map_some]
   |nilsl z=>
    simp only[V.toD,C.toD,sJ,D.list.injEq] at hv
    obtain⟨rfl,h⟩:=hv
    have:a=[]:=by cases a<;>simp_all
    subst this
    simp only[he,V.toD,C.toD,xE,Option.map_some]
    rfl
   |_=>simp[V.toD,C.toD] at hv
  |view l z ys=>simp only[V.toD,sJ,D.list.injEq] at hv; obtain⟨rfl,rfl⟩:=hv; simp only[he,V.toD,xF,Option.map_some]
  |vagg cs=>simp[V.toD] at hv
  |_=>simp[V.toD] at hv
 exact .of λ_=>by simp only[cV,ho,evR,hx,hcv]
theorem BaF {α:Type} {g:α->D} {u m y:List α} {o:Oper} {c:Go.Call} {t s e:TypeId} {x z:Operand} {n w:Nat} {zs:List D} {zv:V} {ms:List D} (hy:lapp u m=some y) (hm:ms=m.map g)
  (ho:o.op=.call c) (hc:c.callee=.builtin .append) (ha:c.args.toList=[x,z]) (hat:c.argTypes.toList=[t,s]) (ht:mW X.P t=some e) (hn:tsz X.P e=some n) (hu:gV X.P s=true)
  (hb:(Nat.ble (X.P.bytesOf e) 1024&&lF X.P e n)=true) (hx:evT X.P t tm x=some (.view (.tmp w) n (u.map g))) (hw:look w tm=some (.c (.own n zs))) (hz:evT X.P s tm z=some zv) (hzz:appended zv=some (n,ms)) :
  EvO X o ⟨tm,hp,nid,df,pn⟩ (.c (.own n (y.map g))) ⟨plainAt w tm,hp,nid,df,pn⟩ (bT x tm):=by
 subst hm
 unfold lapp at hy
 split at hy
 ·rename_i hl
  simp only[sJ] at hy; subst hy
  simp only[Bool.and_eq_true] at hb
  have:=λcall=>Ap6 (P:=X.P) (call:=call) (id:=nid) (s:=⟨tm,hp,nid,df,pn⟩) ho hc ha hat ht hn hu ⟨Nat.le_of_ble_eq_true hb.1,hb.2⟩ hx hw hz hzz (by simpa using hl)
  rw[←List.map_append] at this
  exact .of λ_=>this _
 cases hy
theorem Ag1 {α:Type} {g:α->D} {u m y:List α} {o:Oper} {c:Go.Call} {t s e:TypeId} {x z:Operand} {n b off:Nat} {zs:List D} {cells:List C} {zv:V} {ms:List D} (hy:lapp u m=some y) (hm:ms=m.map g)
  (ho:o.op=.call c) (hc:c.callee=.builtin .append) (ha:c.args.toList=[x,z]) (hat:c.argTypes.toList=[t,s]) (ht:mW X.P t=some e) (hn:tsz X.P e=some n) (hu:gV X.P s=true)
  (hb:(Nat.ble (X.P.bytesOf e) 1024&&lF X.P e n)=true) (hx:evT X.P t tm x=some (.view (.cell b off) n (u.map g))) (hw:xM b hp=some cells) (hw':cells[off]?=some (.own n zs)) (hz:evT X.P s tm z=some zv) (hzz:appended zv=some (n,ms)) :
  EvO X o ⟨tm,hp,nid,df,pn⟩ (.c (.own n (y.map g))) ⟨tm,upd b (cells.set off (.d (.list n (u.map g)))) hp,nid,df,pn⟩ (bT x tm):=by
 subst hm
 unfold lapp at hy
 split at hy
 ·rename_i hl
  simp only[sJ] at hy; subst hy
  simp only[Bool.and_eq_true] at hb
  have:=λcall=>Ap5 (P:=X.P) (call:=call) (id:=nid) (s:=⟨tm,hp,nid,df,pn⟩) ho hc ha hat ht hn hu ⟨Nat.le_of_ble_eq_true hb.1,hb.2⟩ hx hw hw' hz hzz (by simpa using hl)
  rw[←List.map_append] at this
  exact .of λ_=>this _
 cases hy
theorem BhJ {α:Type} {g:α->D} {m y:List α} {o:Oper} {c:Go.Call} {t s e:TypeId} {x z:Operand} {n k:Nat} {zv:V} {ms:List D} (hy:lapp [] m=some y) (hm:ms=m.map g)
  (ho:o.op=.call c) (hc:c.callee=.builtin .append) (ha:c.args.toList=[x,z]) (hat:c.argTypes.toList=[t,s]) (ht:mW X.P t=some e) (hn:tsz X.P e=some n) (hu:gV X.P s=true)
  (hb:(Nat.ble (X.P.bytesOf e) 1024&&lF X.P e n)=true) (hx:evT X.P t tm x=some (.c (.nilsl k))) (hz:evT X.P s tm z=some zv) (hzz:appended zv=some (n,ms)) :
  EvO X o ⟨tm,hp,nid,df,pn⟩ (.c (.own n (y.map g))) ⟨tm,hp,nid,df,pn⟩ (bT x tm):=by
 subst hm
 unfold lapp at hy
 split at hy
 ·rename_i hl
  simp only[List.nil_append,sJ] at hy; subst hy
  simp only[Bool.and_eq_true] at hb
  exact .of λ_=>Ar2 (s:=⟨tm,hp,nid,df,pn⟩) ho hc ha hat ht hn hu ⟨Nat.le_of_ble_eq_true hb.1,hb.2⟩ hx hz hzz (by simpa using hl)
 cases hy
theorem oA {o:Oper} {c:Go.Call} {fo:Operand} {g:Nat} {args args':List C} {v v':V} (hv:aval X g args' [] (.ret v []))
  (ho:o.op=.call c) (hc:c.callee=.value fo) (hf:ev tm fo=some (.c (.fn g [])))
  (ha:oM X.P tm c.args.toList c.argTypes.toList=some args) (hi:args.flatMap C.ids=[]) (hj:aZ (C.into []) args=some args) (hst:args.map C.still=args') (hH:(X.H g 999999).isEmpty=true) (hb:V.back [] v=some v') :
  EvO X o ⟨tm,hp,nid,df,pn⟩ v' ⟨tm,hp,nid,df,pn⟩ ⟨[],[],[]⟩:=by
 have:=AkH (X:=X) (s:=⟨tm,hp,nid,df,pn⟩) (ids:=[]) (lh:=[]) (lh':=[]) (lh'':=[]) ho hc hf (by simpa using ha) (by simp[hi,rH]) (by simpa using hj) rfl (Ae0 (hst▸hv) hH) rfl (by simpa[bE] using hb)
 refine this.imp λk p=>?_
 rw[p]
 simp[bE,oQ,dO]
theorem Be4 {o:Oper} {c:Go.Call} {fo:Operand} {g:Nat} {x:D} {args args':List C} {v v':V} (hv:aval X g args' [] (.ret v []))
  (ho:o.op=.call c) (hc:c.callee=.value fo) (hf:ev tm fo=some (.c (.bfn g x)))
  (ha:oM X.P tm c.args.toList c.argTypes.toList=some args) (hi:args.flatMap C.ids=[]) (hj:aZ (C.into []) (.d x::args)=some (.d x::args)) (hst:(C.d x::args).map C.still=args') (hH:(X.H g 999999).isEmpty=true) (hb:V.back [] v=some v') :
  EvO X o ⟨tm,hp,nid,df,pn⟩ v' ⟨tm,hp,nid,df,pn⟩ ⟨[],[],[]⟩:=by
 have:=Bc2 (X:=X) (s:=⟨tm,hp,nid,df,pn⟩) (ids:=[]) (lh:=[]) (lh':=[]) (lh'':=[]) ho hc hf ha (by simp[hi,rH,C.ids]) hj rfl (Ae0 (hst▸hv) hH) rfl (by simpa[bE] using hb)
 refine this.imp λk p=>?_
 rw[p]
 simp[bE,oQ,dO]
theorem Be3 {o:Oper} {c:Go.Call} {fo:Operand} {g:Nat} {args:List C} {v v':V} (hv:aval X g args [] (.ret v []))
  (ho:o.op=.call c) (hc:c.callee=.value fo) (hf:ev tm fo=some (.c (.fn g [])))
  (ha:oM X.P tm c.args.toList c.argTypes.toList=some args) (hi:args.flatMap C.ids=[]) (hj:aZ (C.into []) args=some args) (hb:V.back [] v=some v') :
  EvO X o ⟨tm,hp,nid,df,pn⟩ v' ⟨tm,hp,nid,df,pn⟩ ⟨[],[],[]⟩:=by
 have:=AkH (X:=X) (s:=⟨tm,hp,nid,df,pn⟩) (ids:=[]) (lh:=[]) (lh':=[]) (lh'':=[]) ho hc hf (by simpa using ha) (by simp[hi,rH]) (by simpa using hj) rfl hv rfl (by simpa[bE] using hb)
 refine this.imp λk p=>?_
 rw[p]
 simp[bE,oQ,dO]
def AX.isOut:AX->Bool
 |.ret=>true
 |.pan _=>true
 |_=>false
theorem lE.out {b:Code} {x:AX} {s:St} (hx:x.isOut=true) (h:Q x s):lE X f b Q x s:=by
 cases x<;>first|exact .ret h|exact .pan h|simp[AX.isOut] at hx
theorem fQ.out {hk:List Nat} {n:Nat} {x:AX} {s:St} (hx:x.isOut=true) (h:Q x s):fQ hk n Q x s:=by
 cases x<;>first|exact .ret h|exact .pan h|simp[AX.isOut] at hx
theorem aK.out {id:Nat} {hk:List Nat} {n:Nat} {x:AX} {s:St} (hx:x.isOut=true) (h:Q x s):aK id hk n Q x s:=by
 cases x<;>first|exact .ret h|exact .pan h|simp[AX.isOut] at hx
theorem cL.out {A:St->Prop} {x:AX} {s:St} (hx:x.isOut=true) (h:Q x s):cL A Q x s:=by
 cases x<;>first|exact .ret h|exact .pan h|simp[AX.isOut] at hx
inductive jY (X:Ctx) (fn:Func) (n:Nat) {ρ σ:Type} (E:ρ->aE) (st:σ->St):Except ρ σ->AX->St->Prop where
 |ok {a:σ} {s:St}:s=st a->jY X fn n E st (.ok a) .normal s
 |err {r:ρ} {x:AX} {s:St}:x.isOut=true->xH X fn n (E r) x s->jY X fn n E st (.error r) x s
theorem uQ (fn:Func) (n:Nat) {ρ σ:Type} (E:ρ->aE) (st:σ->St) {res:Except ρ σ} {a:Code} {s:St} (h1:awp X f a (jY X fn n E st res) s) (h2:∀y,res=.ok y->Q .normal (st y))
  (h3:∀r x s',res=.error r->x.isOut=true->xH X fn n (E r) x s'->Q x s'):awp X f a Q s:=by
 refine AjW h1 ?_
 intro x s' hq
 cases hq with
 |ok e=>subst e; exact h2 _ rfl
 |err hx e=>exact h3 _ _ _ rfl hx e
inductive iW {σ:Type} (st:σ->St) (y:σ):AX->St->Prop where
 |ok {s:St}:s=st y->iW st y .normal s
theorem hU {σ:Type} (st:σ->St) {y:σ} {a:Code} {s:St} (h1:awp X f a (iW st y) s) (h2:Q .normal (st y)):awp X f a Q s:=by
 refine AjW h1 ?_
 intro x s' hq
 cases hq with
 |ok e=>subst e; exact h2
theorem cB {c:Code} {clean:St->Option St} {s s1:St} (hc:clean s=some s1) (hc1:clean s1=some s1) (h:cG X f c clean Q s1):cG X f c clean Q s:=by
 obtain⟨x,s',⟨m₀,h1⟩,h2⟩:=h
 refine⟨x,s',⟨m₀+1,h1.imp λk p m hm=>?_⟩,h2⟩
 obtain⟨j,rfl⟩:∃j,m=j+1:=⟨m-1,by omega⟩
 have:=p (j+1) (by omega)
 simp only[iter,hc1] at this
 simp only[iter,hc]
 exact this
theorem Ba5 {c:Code} {clean:St->Option St} {s s1:St} (hc:clean s=some s1) (h:awp X f c (cL (cG X f c clean Q) Q) s1):cG X f c clean Q s:=by
 refine AyP hc (AjW h ?_)
 intro x s' hq
 cases hq with
 |normal h=>exact h
 |exit h=>exact h
 |ret h=>exact h
 |pan h=>exact h
def AwL {β:Type} (n:Nat):List (Nat×List C)->(List (Nat×List C)->β)->β
 | [],k=>k []
 |(b,cs)::r,k=>match decide (b<n) with
  |true=>qX cs λcs=>AwL n r λr=>k ((b,cs)::r)
  |false=>AwL n r k
theorem Ap9 {β:Type} {n:Nat}:∀{l:List (Nat×List C)} {k:List (Nat×List C)->β},AwL n l k=k (l.filter (·.1<n))
 | [],_=>rfl
 |(b,cs)::r,k=>by
  simp only[AwL,List.filter_cons,iM]
  cases h:decide (b<n) with
  |true=>simp only[Ap9,if_true]
  |false=>simp only[Ap9,fJ,if_false]
def AuP:List Nat->Bool
 | []=>true
 |k::r=>!Nat.ble 15000000 k&&AuP r
theorem Ba9:∀{ks:List Nat} {s:St},AuP ks=true->BdR ks s=some []
 | [],_,_=>rfl
 |k::r,s,h=>by
  simp only[AuP,Bool.and_eq_true,Bool.not_eq_true'] at h
  simp only[BdR,h.1]
  exact Ba9 h.2
def AtR {α:Type} (ks:List Nat) (n:Nat) (tm:List (Nat×V)) (hp:List (Nat×List C)) (df:List (Nat×List Nat)) (k:List (Nat×V)->List (Nat×List C)->Option α):Option α:=
 match AuP ks with
 |false=>none
 |true=>Ac5 ks (demT ks tm) λtm=>AwL n (demH ks hp) λhp=>match tm.all (λx=>x.2.below n)&&hp.all (λx=>x.2.all (C.below n))&&df.all (λx=>x.2.all (· < n)) with
  |true=>k tm hp
  |false=>none
def Bi7 (tm:List (Nat×V)) (hp:List (Nat×List C)):Option (List (Nat×V)×List (Nat×List C)):=some (tm,hp)
theorem ArP {α:Type} {ks:List Nat} {n:Nat} {k:List (Nat×V)->List (Nat×List C)->Option α} {a:α} (h:AtR ks n tm hp df k=some a) :
  ∃tm' hp',k tm' hp'=some a/\aH ks n ⟨tm,hp,nid,df,pn⟩=some ⟨tm',hp',n,df,pn⟩:=by
 unfold AtR at h
 split at h
 ·simp at h
 rename_i hnc
 rw[uB,Ap9] at h
 split at h
 ·rename_i hc
  refine⟨_,_,h,?_⟩
  unfold aH cleanO
  rw[Ba9 hnc]
  simp only
  rw[if_pos hc]
 simp at h
theorem lg {ks:List Nat} {n:Nat} {c:Code} (hc:AtR ks n tm hp df Bi7=some (tm',hp')) (h:awp X f c (cL (cG X f c (aH ks n) Q) Q) ⟨tm',hp',n,df,pn⟩):cG X f c (aH ks n) Q ⟨tm,hp,nid,df,pn⟩:=by
 obtain⟨_,_,h1,h2⟩:=ArP (nid:=nid) (pn:=pn) hc
 simp only[Bi7,sJ,pJ] at h1
 obtain⟨rfl,rfl⟩:=h1
 exact Ba5 h2 h
theorem lgX {ks:List Nat} {n:Nat} {c:Code} (hc:aH ks n ⟨tm,hp,nid,df,pn⟩=some ⟨tm',hp',nid',df,pn⟩) (h:awp X f c (cL (cG X f c (aH ks n) Q) Q) ⟨tm',hp',nid',df,pn⟩):cG X f c (aH ks n) Q ⟨tm,hp,nid,df,pn⟩:=
 Ba5 hc h
def AhT {α:Type} (hk:List Nat) (n:Nat) (tm:List (Nat×V)) (hp:List (Nat×List C)) (nid:Nat) (df:List (Nat×List Nat)) (k:List (Nat×V)->List (Nat×List C)->Nat->Option α):Option α:=match hk with
 | []=>k tm hp nid
 |_::ks=>AtR ks n tm hp df λtm hp=>k tm hp n
def AzV (tm:List (Nat×V)) (hp:List (Nat×List C)) (nid:Nat):Option (List (Nat×V)×List (Nat×List C)×Nat):=some (tm,hp,nid)
theorem AeR {hk:List Nat} {n:Nat} (h:AhT hk n tm hp nid df AzV=some (tm',hp',nid')):yM hk n ⟨tm,hp,nid,df,pn⟩=some ⟨tm',hp',nid',df,pn⟩:=by
 unfold AhT at h
 split at h
 ·simp only[AzV,sJ,pJ] at h
  obtain⟨rfl,rfl,rfl⟩:=h; rfl
 obtain⟨_,_,h1,h2⟩:=ArP (nid:=nid) (pn:=pn) h
 simp only[AzV,sJ,pJ] at h1
 obtain⟨rfl,rfl,rfl⟩:=h1
 exact h2
theorem eh {id:Nat} {hk:List Nat} {n:Nat} (hs:AhT hk n tm hp nid df AzV=some (tm',hp',nid')) (h:Q .normal ⟨tm',hp',nid',df,pn⟩):aK id hk n Q (.exit id) ⟨tm,hp,nid,df,pn⟩:=.here (AeR hs) h
theorem en {id:Nat} {hk:List Nat} {n:Nat} (hs:AhT hk n tm hp nid df AzV=some (tm',hp',nid')) (h:Q .normal ⟨tm',hp',nid',df,pn⟩):aK id hk n Q .normal ⟨tm,hp,nid,df,pn⟩:=.normal (AeR hs) h
theorem cn {hk:List Nat} {n:Nat} (hs:AhT hk n tm hp nid df AzV=some (tm',hp',nid')) (h:Q .normal ⟨tm',hp',nid',df,pn⟩):fQ hk n Q .normal ⟨tm,hp,nid,df,pn⟩:=.normal (AeR hs) h
theorem ehX {id:Nat} {k:Nat} {ks:List Nat} {n:Nat} (hs:aH ks n ⟨tm,hp,nid,df,pn⟩=some ⟨tm',hp',nid',df,pn⟩) (h:Q .normal ⟨tm',hp',nid',df,pn⟩):aK id (k::ks) n Q (.exit id) ⟨tm,hp,nid,df,pn⟩:=.here hs h
inductive BbF (i:Nat) (hk:List Nat) (n:Nat) {α σ:Type} (st1:α->St) (st2:σ->St):Except α σ->AX->St->Prop where
 |ok {y:σ} {s:St}:s=st2 y->BbF i hk n st1 st2 (.ok y) .normal s
 |ext {a:α} {s:St}:yM hk n s=some (st1 a)->BbF i hk n st1 st2 (.error a) (.exit i) s
theorem Ba6 (i:Nat) (hk:List Nat) (n:Nat) {α σ:Type} (st1:α->St) (st2:σ->St) {res:Except α σ} {a:Code} {s:St} (h1:awp X f a (BbF i hk n st1 st2 res) s) (h2:∀y,res=.ok y->Q .normal (st2 y))
  (h3:∀y s',res=.error y->yM hk n s'=some (st1 y)->Q (.exit i) s'):awp X f a Q s:=by
 refine AjW h1 ?_
 intro x s' hq
 cases hq with
 |ok e=>subst e; exact h2 _ rfl
 |ext e=>exact h3 _ _ rfl e
theorem ex1 {i:Nat} {hk:List Nat} {n:Nat} {α σ:Type} {st1:α->St} {st2:σ->St} {a:α} (hs:AhT hk n tm hp nid df AzV=some (tm',hp',nid')) (h:(⟨tm',hp',nid',df,pn⟩:St)=st1 a):BbF i hk n st1 st2 (.error a) (.exit i) ⟨tm,hp,nid,df,pn⟩:=.ext (h▸AeR hs)
def aM:List Nat->Code->Code
 | [],c=>c
 |i::r,.seq a b=>aM r (if i=0 then a else b)
 |i::r,.cond _ a b=>aM r (if i=0 then a else b)
 |_::r,.block _ c=>aM r c
 |_::r,.loop c=>aM r c
 |_::r,.scope c=>aM r c
 |_,c=>c
def aQ (fn:Func):Code:=fn.body.getD .skip
end
end Go.AM
namespace Go.AM
open Go
section
variable {X:Ctx} {f:Nat} {Q:AX->St->Prop} {tm tm':List (Nat×V)} {hp hp':List (Nat×List C)} {nid nid':Nat} {df df':List (Nat×List Nat)} {pn:Option D}
def EvP (X:Ctx) (o:Oper) (s:St) (d:D) (s1:St) (ft:eR):Prop:=Evt λk=>cV X.P (X.call k) s.nid o s=some (.pan d s1,ft)
theorem Ag2 {o:Oper} {c:Go.Call} {fo:Operand} {g:Nat} {caps ids:List Nat} {args args' args'':List C} {lh lh' lh'':List (List C)} {v v':V} (hv:aval X g args'' lh (.ret v lh'))
  (ho:o.op=.call c) (hc:c.callee=.value fo) (hf:ev tm fo=some (.c (.fn g caps)))
  (ha:oM X.P tm c.args.toList c.argTypes.toList=some args) (hr:rH hp 64 ((args++caps.map λb=>C.ptr b 0).flatMap C.ids) []=some ids) (hi:aZ (C.into ids) (args++caps.map λb=>.ptr b 0)=some args')
  (hst:args'.map C.still=args'') (hH:(X.H g 999999).isEmpty=true)
  (hb:oO hp ids=some lh) (hk:aZ (aZ (C.back (ids++bE nid (lh'.length-ids.length)))) lh'=some lh'') (hv':V.back (ids++bE nid (lh'.length-ids.length)) v=some v') (hn:nid+(lh'.length-ids.length)=nid') :
  EvO X o ⟨tm,hp,nid,df,pn⟩ v' ⟨unviewIn (ids++bE nid (lh'.length-ids.length)) tm,dO (ids++bE nid (lh'.length-ids.length)) lh'' hp,nid',df,pn⟩ ⟨ids,ids,[]⟩:=by
 subst hn hst
 exact AkH (X:=X) (s:=⟨tm,hp,nid,df,pn⟩) ho hc hf ha hr hi hb (Ae0 hv hH) hk hv'
theorem Bg8 {o:Oper} {c:Go.Call} {fo:Operand} {g:Nat} {caps ids:List Nat} {args args':List C} {lh lh' lh'':List (List C)} {v v':V} (hv:aval X g args' lh (.ret v lh'))
  (ho:o.op=.call c) (hc:c.callee=.value fo) (hf:ev tm fo=some (.c (.fn g caps)))
  (ha:oM X.P tm c.args.toList c.argTypes.toList=some args) (hr:rH hp 64 ((args++caps.map λb=>C.ptr b 0).flatMap C.ids) []=some ids) (hi:aZ (C.into ids) (args++caps.map λb=>.ptr b 0)=some args')
  (hb:oO hp ids=some lh) (hk:aZ (aZ (C.back (ids++bE nid (lh'.length-ids.length)))) lh'=some lh'') (hv':V.back (ids++bE nid (lh'.length-ids.length)) v=some v') (hn:nid+(lh'.length-ids.length)=nid') :
  EvO X o ⟨tm,hp,nid,df,pn⟩ v' ⟨unviewIn (ids++bE nid (lh'.length-ids.length)) tm,dO (ids++bE nid (lh'.length-ids.length)) lh'' hp,nid',df,pn⟩ ⟨ids,ids,[]⟩:=by
 subst hn
 exact AkH (X:=X) (s:=⟨tm,hp,nid,df,pn⟩) ho hc hf ha hr hi hb hv hk hv'
theorem Az1 {o:Oper} {c:Go.Call} {fo:Operand} {g:Nat} {caps ids:List Nat} {args args' args'':List C} {lh lh' lh'':List (List C)} {d:D} (hv:aval X g args'' lh (.pan d lh'))
  (ho:o.op=.call c) (hc:c.callee=.value fo) (hf:ev tm fo=some (.c (.fn g caps)))
  (ha:oM X.P tm c.args.toList c.argTypes.toList=some args) (hr:rH hp 64 ((args++caps.map λb=>C.ptr b 0).flatMap C.ids) []=some ids) (hi:aZ (C.into ids) (args++caps.map λb=>.ptr b 0)=some args')
  (hst:args'.map C.still=args'') (hH:(X.H g 999999).isEmpty=true)
  (hb:oO hp ids=some lh) (hk:aZ (aZ (C.back ids)) lh'=some lh'') :
  EvP X o ⟨tm,hp,nid,df,pn⟩ d ⟨unviewIn ids tm,dO ids lh'' hp,nid,df,pn⟩ ⟨ids,ids,[]⟩:=by
 subst hst
 refine (Ae0 hv hH).imp λk p=>?_
 simp only[cV,ho,hc,hf,ha,mI,hr,hi,hb,p,hk]
theorem pp {ops:Array Oper} {o:Oper} {l:List Oper} {d:D} {tm1:List (Nat×V)} {hp1:List (Nat×List C)} {ft:eR} (hop:EvP X o ⟨tm,hp,nid,df,pn⟩ d ⟨tm1,hp1,nid,df,pn⟩ ft) (hw:wantedAt ops tm o=some true)
  (hk:(qX tm1 λtm=>tR hp1 λhp=>some (tm,hp))=some (tm',hp')) (h:Q (.pan d) ⟨tm',hp',nid,df,pn⟩):pL X ops (o::l) Q ⟨tm,hp,nid,df,pn⟩:=by
 rw[iM,pN] at hk
 simp only[sJ,pJ] at hk
 obtain⟨rfl,rfl⟩:=hk
 exact BdI (s:=⟨tm,hp,nid,df,pn⟩) hw hop h
theorem dp {ops:Array Oper} {vs:List Nat} {base i:Nat} {pre:List Fp} {o:Oper} {l:List Oper} {d d0:D} {tm0 tm1 tmd:List (Nat×V)} {hp0 hp1:List (Nat×List C)} {nid0:Nat} {ft ft0:eR} (hd:qX (tm.filter λp=>!(iP ops i).contains p.1) some=some tmd)
  (hop0:EvP X o ⟨tm,hp,nid,df,pn⟩ d0 ⟨tm0,hp0,nid0,df,pn⟩ ft0) (hop:EvP X o ⟨tmd,hp,nid,df,pn⟩ d ⟨tm1,hp1,nid,df,pn⟩ ft) (hw:wantedAt ops tm o=some true) (hw':wantedAt ops tmd o=some true) (hm:aR o=false)
  (hk:(qX tm1 λtm=>tR hp1 λhp=>some (tm,hp))=some (tm',hp')) (hok:(Ak4 true ops base (pre++[⟨[],[],[],true⟩])&&Nat.ble base nid)=true) (h:Q (.pan d) ⟨tm',hp',nid,df,pn⟩):nU X ops vs base pre (o::l) i Q ⟨tm,hp,nid,df,pn⟩:=by
 rw[iM,sJ] at hd
 rw[iM,pN] at hk
 simp only[sJ,pJ] at hk
 obtain⟨rfl,rfl⟩:=hk
 simp only[Bool.and_eq_true] at hok
 have hdr:pF (iP ops i) ⟨tm,hp,nid,df,pn⟩=⟨tmd,hp,nid,df,pn⟩:=by simp only[pF,hd]
 refine BdH (s:=⟨tm,hp,nid,df,pn⟩) (ft:=⟨[],[],[],true⟩) (ft0:=⟨[],[],[],true⟩) (d0:=d0) (s0:=⟨tm0,hp0,nid0,df,pn⟩) hw (hop0.imp λk p=>?_) (by rw[hdr]; exact hw') (hop.imp λk p=>?_) ?_ h
 ·simp only[eI,hm,fJ,if_false,eE,p]
 ·rw[hdr]; simp only[eI,hm,fJ,if_false,eE,p]
 simp only[Bool.and_eq_true,decide_eq_true_eq]
 exact⟨AiZ hok.1,Nat.le_of_ble_eq_true hok.2⟩
def AuM {κ α:Type} [BEq κ] (l:List (κ×α)) (k:κ) (v:α):List (κ×α):=match l with
 | []=>[(k,v)]
 |(k',v')::r=>if k==k' then (k,v)::r else (k',v')::AuM r k v
def yY {κ α:Type} [BEq κ] (l:List (κ×α)) (k:κ) (z:α):α:=match l with
 | []=>z
 |(k',v)::r=>if k==k' then v else yY r k z
def Am3 {κ α:Type} [BEq κ] (l:List (κ×α)) (k:κ):Bool:=match l with
 | []=>false
 |(k',_)::r=>if k==k' then true else Am3 r k
def AtX {α:Type} (g:α->D) (x:Str×α):D×D:=(.str x.1,g x.2)
def zJ {α:Type} (j:IntKind) (g:α->D) (x:Int×α):D×D:=(.int j x.1,g x.2)
theorem AqA {α:Type} {g:α->D} {k:Str} {v:α}:∀l:List (Str×α),Am6 (.str k) (g v) (l.map (AtX g))=some ((AuM l k v).map (AtX g))
 | []=>rfl
 |(k',v')::r=>by
  simp only[List.map_cons,AtX,Am6,AkG,AuM]
  cases h:k==k' with
  |true=>simp[AtX]
  |false=>
   have:=AqA (g:=g) (k:=k) (v:=v) r
   simp[this,AtX]
theorem Aq9 {α:Type} {j:IntKind} {g:α->D} {k:Int} {v:α}:∀l:List (Int×α),Am6 (.int j k) (g v) (l.map (zJ j g))=some ((AuM l k v).map (zJ j g))
 | []=>rfl
 |(k',v')::r=>by
  simp only[List.map_cons,zJ,Am6,AkG,AuM,if_true]
  cases h:k==k' with
  |true=>simp[zJ]
  |false=>
   have:=Aq9 (j:=j) (g:=g) (k:=k) (v:=v) r
   simp[this,zJ]
theorem BaJ {α:Type} {g:α->D} {k:Str} {z:α}:∀l:List (Str×α),∃r,AdB (.str k) ((l.map (AtX g)).map dmv)=some r/\(Am3 l k=true->r=some (.d (g (yY l k z))))/\(Am3 l k=false->r=none/\yY l k z=z)
 | []=>⟨none,rfl,by simp[Am3],λ_=>⟨rfl,rfl⟩⟩
 |(k',v')::r=>by
  simp only[List.map_cons,AtX,dmv,AdB,AkG,yY,Am3]
  cases h:k==k' with
  |true=>exact⟨_,rfl,by simp,by simp⟩
  |false=>
   obtain⟨q,h1,h2,h3⟩:=BaJ (g:=g) (k:=k) (z:=z) r
   exact⟨q,h1,by simpa using h2,by simpa using h3⟩
theorem BaI {α:Type} {j:IntKind} {g:α->D} {k:Int} {z:α}:∀l:List (Int×α),∃r,AdB (.int j k) ((l.map (zJ j g)).map dmv)=some r/\(Am3 l k=true->r=some (.d (g (yY l k z))))/\(Am3 l k=false->r=none/\yY l k z=z)
 | []=>⟨none,rfl,by simp[Am3],λ_=>⟨rfl,rfl⟩⟩
 |(k',v')::r=>by
  simp only[List.map_cons,zJ,dmv,AdB,AkG,yY,Am3,if_true]
  cases h:k==k' with
  |true=>exact⟨_,rfl,by simp,by simp⟩
  |false=>
   obtain⟨q,h1,h2,h3⟩:=BaI (j:=j) (g:=g) (k:=k) (z:=z) r
   exact⟨q,h1,by simpa using h2,by simpa using h3⟩
theorem BgS {α:Type} {g:α->D} {k:Str} {z:α} {e:TypeId} {ok:Bool} (hz:AqM X.P e=some (.d (g z))) (l:List (Str×α)):An4 X.P e ok (.str k) ((l.map (AtX g)).map dmv)=some (AiP ok (.d (g (yY l k z))) (Am3 l k)):=by
 obtain⟨r,h1,h2,h3⟩:=BaJ (g:=g) (k:=k) (z:=z) l
 unfold An4
 rw[h1]
 cases h:Am3 l k with
 |true=>rw[h2 h]; rfl
 |false=>obtain⟨rfl,e'⟩:=h3 h; rw[e']; simp only[hz,Option.map_some]
theorem BgR {α:Type} {j:IntKind} {g:α->D} {k:Int} {z:α} {e:TypeId} {ok:Bool} (hz:AqM X.P e=some (.d (g z))) (l:List (Int×α)):An4 X.P e ok (.int j k) ((l.map (zJ j g)).map dmv)=some (AiP ok (.d (g (yY l k z))) (Am3 l k)):=by
 obtain⟨r,h1,h2,h3⟩:=BaI (j:=j) (g:=g) (k:=k) (z:=z) l
 unfold An4
 rw[h1]
 cases h:Am3 l k with
 |true=>rw[h2 h]; rfl
 |false=>obtain⟨rfl,e'⟩:=h3 h; rw[e']; simp only[hz,Option.map_some]
theorem Be7 {α:Type} {g:α->D} {o:Oper} {t kt e:TypeId} {m k:Operand} {b:Nat} {l:List (Str×α)} {s:Str} (z:α) (ho:o.op=.lookup t m k false) (hm:AzE X.P t=some (kt,e)) (hx:ev tm m=some (.c (.mp b))) (hy:(ev tm k).bind V.toD=some (.str s)) (hk:Ax3 X.P kt (.str s)=true)
  (hb:look b hp=some [.mdat (l.map (AtX g))]) (hz:AqM X.P e=some (.d (g z))):EvO X o ⟨tm,hp,nid,df,pn⟩ (.d (g (yY l s z))) ⟨tm,hp,nid,df,pn⟩ ⟨cO o tm,[],[]⟩:=
 .of λcall=>by simp only[cV,ho,evR,hm,hx,hy,hk,if_true,hb,mapOf,BgS (g:=g) (z:=z) hz,Option.map_some,AiP,fJ,if_false]
theorem Be6 {α:Type} {j:IntKind} {g:α->D} {o:Oper} {t kt e:TypeId} {m k:Operand} {b:Nat} {l:List (Int×α)} {s:Int} (z:α) (ho:o.op=.lookup t m k false) (hm:AzE X.P t=some (kt,e)) (hx:ev tm m=some (.c (.mp b))) (hy:(ev tm k).bind V.toD=some (.int j s)) (hk:Ax3 X.P kt (.int j s)=true)
  (hb:look b hp=some [.mdat (l.map (zJ j g))]) (hz:AqM X.P e=some (.d (g z))):EvO X o ⟨tm,hp,nid,df,pn⟩ (.d (g (yY l s z))) ⟨tm,hp,nid,df,pn⟩ ⟨cO o tm,[],[]⟩:=
 .of λcall=>by simp only[cV,ho,evR,hm,hx,hy,hk,if_true,hb,mapOf,BgR (j:=j) (g:=g) (z:=z) hz,Option.map_some,AiP,fJ,if_false]
theorem pmk {ops:Array Oper} {o:Oper} {l:List Oper} {t:TypeId} (ho:o.op=.makeMap t none) (hw:wantedAt ops tm o=some true) (hv:noView nid tm=true)
  (hk:ApZ o.dst (.c (.mp nid)) tm (λtm=>some tm)=some tm') (hn:nid+1=nid') (h:pL X ops l Q ⟨tm',(nid,[.mdat []])::hp,nid',df,pn⟩):pL X ops (o::l) Q ⟨tm,hp,nid,df,pn⟩:=by
 refine AtM (s:=⟨tm,hp,nid,df,pn⟩) (v:=.c (.mp nid)) (s1:=⟨tm,(nid,[.mdat []])::hp,nid+1,df,pn⟩) (ft:=eR.none) hw (.of λk=>by simp only[cV,ho,hv,if_true]) ?_
 subst hn
 rw[show tm=(⟨tm,(nid,[.mdat []])::hp,nid+1,df,pn⟩:St).tmps from rfl,Al3] at hk
 simp only[sJ] at hk
 subst hk
 rw[putDst,vH]
 exact h
theorem Bf8 {k v:D}:∀{l l':List (D×D)},Am6 k v l=some l'->Al6 k (.d v) (l.map dmv)=some (l'.map dmv)
 | [],l',h=>by simp only[Am6,sJ] at h; subst h; rfl
 |(k',v')::r,l',h=>by
  simp only[Am6] at h
  simp only[List.map_cons,dmv,Al6]
  split at h
  ·rename_i he
   simp only[sJ] at h; subst h
   rfl
  ·rename_i he
   simp only[Option.map_eq_some_iff] at h
   obtain⟨l0,h1,rfl⟩:=h
   simp only[Bf8 h1,Option.map_some]; rfl
  simp at h
theorem AwC {o:Oper} {t kt e:TypeId} {m k v:Operand} {b:Nat} {kd vd:D} {l l':List (D×D)} (hs:Am6 kd vd l=some l') (ho:o.op=.insert t m k v\/o.op=.mapUpdate t m k v) (hm:AzE X.P t=some (kt,e)) (hx:ev tm m=some (.c (.mp b))) (hy:(ev tm k).bind V.toD=some kd) (hk:Ax3 X.P kt kd=true)
  (hv:(evT X.P e tm v).bind MV.of=some (.d vd)) (hb:look b hp=some [.mdat l]):EvO X o ⟨tm,hp,nid,df,pn⟩ (.c .undef) ⟨tm,upd b [.mdat l'] hp,nid,df,pn⟩ ⟨[],[b],[]⟩:=
 .of λcall=>by rcases ho with ho|ho<;>simp only[cV,ho,BaE,hm,hx,hy,hk,hv,hb,mapOf,Bf8 hs,BaW,hs]
theorem Aw9 {α:Type} {g:α->D} {u m y:List α} {o:Oper} {c:Go.Call} {t s e:TypeId} {x z:Operand} {n:Nat} {zv:V} {ms:List D} (hy:lapp u m=some y) (hm:ms=m.map g)
  (ho:o.op=.call c) (hc:c.callee=.builtin .append) (ha:c.args.toList=[x,z]) (hat:c.argTypes.toList=[t,s]) (ht:mW X.P t=some e) (hn:tsz X.P e=some n) (hu:gV X.P s=true)
  (hb:(Nat.ble (X.P.bytesOf e) 1024&&lF X.P e n)=true) (hx:evT X.P t tm x=some (.c (.full n (u.map g)))) (hz:evT X.P s tm z=some zv) (hzz:appended zv=some (n,ms)) :
  EvO X o ⟨tm,hp,nid,df,pn⟩ (.c (.own n (y.map g))) ⟨tm,hp,nid,df,pn⟩ (bT x tm):=by
 subst hm
 unfold lapp at hy
 split at hy
 ·rename_i hl
  simp only[sJ] at hy; subst hy
  simp only[Bool.and_eq_true] at hb
  refine .of λcall=>?_
  have h2:X.P.bytesOf e<=1024/\lF X.P e n=true:=⟨Nat.le_of_ble_eq_true hb.1,hb.2⟩
  simp only[cV,ho,hc,ha,hat,jE,ht,hn,hu,hx,hz,hzz,bJ,h2,and_self,if_true,List.length_map,hl,List.map_append]
 cases hy
theorem AwA {α:Type} {g:α->D} {u m y:List α} {o:Oper} {c:Go.Call} {t s e:TypeId} {z:Operand} {n w:Nat} {zv:V} {ms:List D} (hy:lapp u m=some y) (hm:ms=m.map g)
  (ho:o.op=.call c) (hc:c.callee=.builtin .append) (ha:c.args.toList=[.tmp w,z]) (hat:c.argTypes.toList=[t,s]) (ht:mW X.P t=some e) (hn:tsz X.P e=some n) (hu:gV X.P s=true)
  (hb:(Nat.ble (X.P.bytesOf e) 1024&&lF X.P e n)=true) (hx:evT X.P t tm (.tmp w)=some (.c (.own n (u.map g)))) (hz:evT X.P s tm z=some zv) (hzz:appended zv=some (n,ms)) :
  EvO X o ⟨tm,hp,nid,df,pn⟩ (.c (.own n (y.map g))) ⟨plainAt w tm,hp,nid,df,pn⟩ (bT (.tmp w) tm):=by
 subst hm
 unfold lapp at hy
 split at hy
 ·rename_i hl
  simp only[sJ] at hy; subst hy
  simp only[Bool.and_eq_true] at hb
  refine .of λcall=>?_
  have h2:X.P.bytesOf e<=1024/\lF X.P e n=true:=⟨Nat.le_of_ble_eq_true hb.1,hb.2⟩
  simp only[cV,ho,hc,ha,hat,jE,ht,hn,hu,hx,hz,hzz,bJ,h2,and_self,if_true,List.length_map,hl,List.map_append]
 cases hy
theorem Be5 {α:Type} {g:α->D} {u y:List α} {o:Oper} {t e:TypeId} {x hh mm:Operand} {v:V} {k k':IntKind} {n:Int} {sz:Nat} (hy:lto u n=some y)
  (ho:o.op=.slice t x none (some hh) (some mm)) (ht:X.P.underlying t=some (.slice e)) (hz:tsz X.P e=some sz) (hx:evT X.P t tm x=some v) (hv:v.toD=some (.list sz (u.map g))) (hi:ev tm hh=some (.c (.d (.int k n)))) (hi':ev tm mm=some (.c (.d (.int k' n)))) :
  EvO X o ⟨tm,hp,nid,df,pn⟩ (.c (.full sz (y.map g))) ⟨tm,hp,nid,df,pn⟩ ⟨cO o tm,[],[]⟩:=by
 unfold lto at hy
 split at hy
 ·rename_i hb
  simp only[sJ] at hy; subst hy
  refine .of λcall=>?_
  have h1:n.toNat<=(u.map g).length:=by simpa using hb.2
  simp[cV,ho,evR,hx,AdI hv,ht,hv,gB,hi,hi',hb.1,Ah3,hz,List.map_take,hb.2]
 cases hy
def idiv (k:IntKind) (a b:Int):Option Int:=if b=0 then none else some (k.wrap (a.tdiv b))
def irem (a b:Int):Option Int:=if b=0 then none else some (a.tmod b)
theorem BhM {o:Oper} {t u:TypeId} {x z:Operand} {k:IntKind} {a b y:Int} (hy:idiv k a b=some y) (ho:o.op=.binOp .quo t x z u) (hx:evT X.P t tm x=some (.c (.d (.int k a)))) (hz:evT X.P t tm z=some (.c (.d (.int k b)))) :
  EvO X o ⟨tm,hp,nid,df,pn⟩ (.d (.int k y)) ⟨tm,hp,nid,df,pn⟩ ⟨cO o tm,[],[]⟩:=by
 unfold idiv at hy
 split at hy
 ·cases hy
 rename_i hb
 simp only[sJ] at hy; subst hy
 exact .of λ_=>by simp only[cV,ho,evR,hx,hz,AvV,if_true,AwZ,hb,if_false]
theorem BhN {o:Oper} {t u:TypeId} {x z:Operand} {k:IntKind} {a b y:Int} (hy:irem a b=some y) (ho:o.op=.binOp .rem t x z u) (hx:evT X.P t tm x=some (.c (.d (.int k a)))) (hz:evT X.P t tm z=some (.c (.d (.int k b)))) :
  EvO X o ⟨tm,hp,nid,df,pn⟩ (.d (.int k y)) ⟨tm,hp,nid,df,pn⟩ ⟨cO o tm,[],[]⟩:=by
 unfold irem at hy
 split at hy
 ·cases hy
 rename_i hb
 simp only[sJ] at hy; subst hy
 exact .of λ_=>by simp only[cV,ho,evR,hx,hz,AvV,if_true,AwZ,hb,if_false]
theorem BhS {o:Oper} {t u:TypeId} {x z:Operand} {fs:Array Field} {xs ys:List D} {b:Bool} (hS:(X.P.stoodInHeld t||X.P.eqGuardType X.P.depth t)=false) (ho:o.op=.binOp .neq t x z u) (hf:X.P.underlying t=some (.struct fs))
  (hx:evT X.P t tm x=some (.c (.d (.agg xs)))) (hz:evT X.P t tm z=some (.c (.d (.agg ys)))) (hq:Az2 X.P fs.toList xs ys=some b) :
  EvO X o ⟨tm,hp,nid,df,pn⟩ (.d (.bool !b)) ⟨tm,hp,nid,df,pn⟩ ⟨cO o tm,[],[]⟩:=
 .of λ_=>by simp only[cV,ho,evR,hx,hz,AvV,BbX,hf,hS,fJ,if_false,hq]; rfl
theorem BhR {o:Oper} {t u:TypeId} {x z:Operand} {fs:Array Field} {xs ys:List D} {b:Bool} (hS:(X.P.stoodInHeld t||X.P.eqGuardType X.P.depth t)=false) (ho:o.op=.binOp .eql t x z u) (hf:X.P.underlying t=some (.struct fs))
  (hx:evT X.P t tm x=some (.c (.d (.agg xs)))) (hz:evT X.P t tm z=some (.c (.d (.agg ys)))) (hq:Az2 X.P fs.toList xs ys=some b) :
  EvO X o ⟨tm,hp,nid,df,pn⟩ (.d (.bool b)) ⟨tm,hp,nid,df,pn⟩ ⟨cO o tm,[],[]⟩:=
 .of λ_=>by simp only[cV,ho,evR,hx,hz,AvV,BbX,hf,hS,fJ,if_false,hq]; rfl
theorem zK {o:Oper} {s s1:St} {v:V} {ft:eR} (h:cV X.P Ad4 s.nid o s=some (.val v s1,ft)):EvO X o s v s1 ft:=
 ⟨0,λ_ _=>vM h _⟩
theorem BiO {o:Oper} {s s1:St} {v v':V} {ft:eR} (hv:v=v') (h:EvO X o s v s1 ft):EvO X o s v' s1 ft:=hv▸h
end
end Go.AM
namespace Go.AM
open Go
variable [cR]
end Go.AM
namespace Go.AM
open Go
mutual
inductive Arr where
 |mk (shape:List Int) (cells:List aA)
inductive aA where
 |mk (kind:Int) (n:Int) (box:List Arr)
end
instance:Inhabited Arr:=⟨.mk [] []⟩
instance:Inhabited aA:=⟨.mk 0 0 []⟩
def Arr.shape:Arr->List Int|.mk s _=>s
def Arr.cells:Arr->List aA|.mk _ c=>c
def aA.kind:aA->Int|.mk k _ _=>k
def aA.n:aA->Int|.mk _ n _=>n
def aA.box:aA->List Arr|.mk _ _ b=>b
mutual
def aY:Arr->D
 |.mk sh cs=>.agg [.list 1 (sh.map (D.int .i64)),.list 3 (AhB cs)]
def AhB:List aA->List D
 | []=>[]
 |c::cs=>AoZ c::AhB cs
def AoZ:aA->D
 |.mk k n b=>.agg [.int .i64 k,.int .i64 n,.list 2 (AkD b)]
def AkD:List Arr->List D
 | []=>[]
 |a::l=>aY a::AkD l
end
def aD (c:aA):D:=.agg [.int .i64 c.kind,.int .i64 c.n,.list 2 (c.box.map aY)]
def aI (a:Arr):D:=.agg [.list 1 (a.shape.map (D.int .i64)),.list 3 (a.cells.map aD)]
theorem AkE:∀l:List Arr,AkD l=l.map aY
 | []=>rfl
 |a::l=>by simp only[AkD,AkE l,List.map_cons]
theorem AwD:∀c:aA,AoZ c=aD c
 |.mk k n b=>by simp only[AoZ,aD,AkE,aA.kind,aA.n,aA.box]
theorem AiA:∀l:List aA,AhB l=l.map aD
 | []=>rfl
 |c::l=>by simp only[AhB,AiA l,AwD,List.map_cons]
theorem qH:∀a:Arr,aY a=aI a
 |.mk sh cs=>by simp only[aY,aI,AiA,Arr.shape,Arr.cells]
structure Bn0 where
 kind:Int
 text:Str
 lit:Arr
 at_:Int
 deriving Inhabited
structure BmZ where
 err:Int
 at_:Int
 why:Int
 deriving Inhabited
inductive Node where
 |mk (kind op:Int) (name:Str) (lit:Arr) (kids:List Node) (at_:Int)
instance:Inhabited Node:=⟨.mk 0 0 [] (.mk [] []) [] 0⟩
def Node.kind:Node->Int|.mk k _ _ _ _ _=>k
def Node.op_:Node->Int|.mk _ o _ _ _ _=>o
def Node.name:Node->Str|.mk _ _ n _ _ _=>n
def Node.lit:Node->Arr|.mk _ _ _ l _ _=>l
def Node.kids:Node->List Node|.mk _ _ _ _ k _=>k
def Node.at_:Node->Int|.mk _ _ _ _ _ a=>a
mutual
def rB:Node->D
 |.mk k o n l ks a=>.agg [.int .i64 k,.int .i64 o,.str n,.list 1 (l.shape.map (D.int .i64)),.list 3 (l.cells.map aD),.list 7 (AhC ks),.int .i64 a]
def AhC:List Node->List D
 | []=>[]
 |n::l=>rB n::AhC l
end
def encNode (n:Node):D:=.agg [.int .i64 n.kind,.int .i64 n.op_,.str n.name,.list 1 (n.lit.shape.map (D.int .i64)),.list 3 (n.lit.cells.map aD),.list 7 (n.kids.map rB),.int .i64 n.at_]
theorem AiB:∀l:List Node,AhC l=l.map rB
 | []=>rfl
 |n::l=>by simp only[AhC,AiB l,List.map_cons]
theorem vL:∀n:Node,rB n=encNode n
 |.mk k o n l ks a=>by simp only[rB,encNode,AiB,Node.kind,Node.op_,Node.name,Node.lit,Node.kids,Node.at_]
structure Bn1 where
 set_:Str
 origin:Int
 expr:Node
 deriving Inhabited
structure Bk7 where
 verbs:List Str
 adverbs:List Str
 behind:List Str
 outer:Str
 power:Str
 open_:Str
 close:Str
 left:Str
 right:Str
 minus:Str
 quote:Str
 trains:Bool
 lone:Bool
 square:Bool
 deriving Inhabited
def kC {α:Type} (sz:Nat) (g:α->D) (l:List α):D:=.list sz (l.map g)
end Go.AM
namespace Go.AM
open Go
variable [cR]
theorem AqB {K:Col} {w w':World} (h:Go.RowKit.Below w.heap.size w w'):Step iQ K w K w':=
 ⟨h.os,h.tape,h.output,h.size,λb hb _=>h.block b hb,λb off hb _=>
  ⟨by simp[World.cell?,h.block b hb],by simp[World.frozen?,h.block b hb],rfl⟩,λb off hx=>by
   obtain⟨u,hu⟩:=Option.isSome_iff_exists.1 hx.1
   have h1:w'.cell? (ad b off)=w.cell? (ad b off):=by simp[World.cell?,h.block b (block_lt hu)]
   have h2:w'.frozen? (ad b off)=w.frozen? (ad b off):=by simp[World.frozen?,h.block b (block_lt hu)]
   exact⟨by rw[h1]; exact hx.1,by rw[h2]; exact hx.2⟩⟩
theorem AtP {P:Program} {f:Nat} {args:List C} {lh:List (List C)} {d:D}
  (h:∀K μ w vs,bB K μ w args vs->rY K w->AjM K w->Calls P f vs.toArray w λe w'=>(∃u,e=.returned u/\Rep K w' d u)/\Go.RowKit.Below w.heap.size w w') :
  CallOK P f args lh (.ret (.d d) lh):=by
 intro K μ w vs hr hi hh hb hgl
 refine (h K μ w vs hr hb hgl).mono ?_
 rintro e w' ⟨⟨u,rfl,hu⟩,hbw⟩
 have hst:=AqB (K:=K) hbw
 refine⟨K,μ,hst,λblk off hl=>hb _ _ (Nat.le_trans hbw.size hl),λ_ _=>rfl,Nat.le_refl _,?_,by simp[nA],by simp[V.ids,C.ids],_,rfl,hu⟩
 intro i cells hic
 refine⟨(hh i cells hic).1,(hh i cells hic).2.step (W:=λ_=>False) ⟨hst.os,hst.tape,hst.output,hst.size,λb hb _=>hbw.block b hb,λb off hb _=>⟨by simp[World.cell?,hbw.block b hb],by simp[World.frozen?,hbw.block b hb],rfl⟩,hst.ex⟩ (by simp) (by simp) (by simp)⟩
end Go.AM
namespace Go.AM
open Go
variable [cR]
def AeD:List D->Option (List Int)
 | []=>some []
 |.int .i64 n::r=>(AeD r).map (n::·)
 |_::_=>none
omit [cR] in
theorem AhK:∀{ds:List D} {l:List Int},AeD ds=some l->ds=l.map (D.int .i64)
 | [],l,h=>by simp only[AeD,sJ] at h; subst h; rfl
 |d::ds,l,h=>by
  unfold AeD at h
  split at h
  ·simp_all
  ·rename_i n r e
   simp only[List.cons.injEq] at e
   obtain⟨rfl,rfl⟩:=e
   obtain⟨q,hq,rfl⟩:=Option.map_eq_some_iff.1 h
   rw[AhK hq]; rfl
  simp at h
omit [cR] in
theorem AeE:∀l:List Int,AeD (l.map (D.int .i64))=some l
 | []=>rfl
 |s::l=>by simp only[List.map_cons,AeD,AeE l]; rfl
theorem AsW {K:Col} {w:World}:∀{l:List Int} {blk off:Nat},hZ K w 1 blk off (l.map (D.int .i64))->∀(j:Nat) s,l[j]?=some s->w.cell? ⟨blk,off+j,none⟩=some (.int .i64 s)
 |s::l,blk,off,h,j,t,ht=>by
  simp only[List.map_cons,hZ] at h
  obtain⟨⟨v,hv,hz,hc⟩,hr⟩:=h
  cases j with
  |zero=>
   simp only[List.getElem?_cons_zero,sJ] at ht; subst ht
   simp only[Rep] at hv; subst hv
   exact (hc 0 _ rfl).2
  |succ j=>
   have:=AsW hr j t (by simpa using ht)
   rw[show off+(j+1)=off+1+j from by omega]
   exact this
omit [cR] in
theorem Aj4 (l:List Int):fC (l.map (D.int .i64))=l.map λn=>C.d (.int .i64 n):=by
 induction l with
 |nil=>rfl
 |cons n l ih=>simp only[fC,List.map_cons,List.flatMap_cons] at ih ⊢; rw[ih]; rfl
theorem AqR {P:Program} {f:Nat} {args:List C} {lh:List (List C)} (ns:List Int)
  (h:∀K μ w vs,bB K μ w args vs->rY K w->AjM K w->Calls P f vs.toArray w λe w'=>Go.RowKit.Below w.heap.size w w'/\∃v,e=.returned v /\
   ((ns=[]/\BiL v)\/(ns≠[]/\∃T,w'.ownsRow w.heap.size T 1 v ns.length (ns.map (Value.int .i64))))) :
  CallOK P f args lh (.ret (.c (.arr lh.length ns.length 1)) (lh++[[.seq 1 (ns.map (D.int .i64))]])):=by
 intro K μ w vs hr hi hh hb hgl
 refine (h K μ w vs hr hb hgl).mono ?_
 rintro e w' ⟨hbw,v,rfl,hv⟩
 have hst:=AqB (K:=K) hbw
 have hstF:Step (λ_=>False) K w K w':=⟨hst.os,hst.tape,hst.output,hst.size,λb hb _=>hbw.block b hb,λb off hb _=>⟨by simp[World.cell?,hbw.block b hb],by simp[World.frozen?,hbw.block b hb],rfl⟩,hst.ex⟩
 have hold:∀{i:Nat} {cells:List C},lh[i]?=some cells->kP K μ w' i cells:=λhic=>(hh _ _ hic).2.step (W:=λ_=>False) hstF (by simp) (by simp) (by simp)
 rcases hv with ⟨rfl,hv⟩|⟨hne,T,hl,hv⟩
 ·refine⟨K,μ,hst,λblk off hl=>hb _ _ (Nat.le_trans hbw.size hl),λ_ _=>rfl,by simp,?_,by simp[nA],by simp[V.ids,C.ids],_,rfl,.inl ⟨rfl,hv⟩⟩
  intro i cells hic
  rcases Nat.lt_or_ge i lh.length with hlt|hge
  ·rw[List.getElem?_append_left hlt] at hic
   exact⟨λc hc j hj=>by have:=(hh i cells hic).1 c hc j hj; simp; omega,hold hic⟩
  rw[List.getElem?_append_right hge] at hic
  have:i-lh.length=0:=by
   rcases Nat.eq_zero_or_pos (i-lh.length) with h0|h0
   ·exact h0
   rw[List.getElem?_eq_none (by simp; omega)] at hic; simp at hic
  rw[this] at hic
  simp only[List.getElem?_cons_zero,sJ] at hic
  subst hic
  exact⟨by simp[C.ids],.inl (.mk 1 (by omega))⟩
 rcases hv with ⟨_,h0⟩|⟨g,cap,cur,rfl,hg,hblk,hnc,hcm,hsz,hcur⟩
 ·exact absurd (List.length_eq_zero_iff.1 h0) hne
 have hgs:g<w'.heap.size:=by
  rcases Nat.lt_or_ge g w'.heap.size with h|h
  ·exact h
  rw[Array.getElem?_eq_none h] at hblk; simp at hblk
 have hcell:∀i,w'.cell? (ad g i)=cur[i]?:=λi=>by simp[World.cell?,hblk]
 have hfz:∀i,w'.frozen? (ad g i)=false:=λi=>by simp[World.frozen?,hblk]
 have hst':Step (λ_=>False) K w (gG K g λ_=>.blk lh.length) w':=⟨hst.os,hst.tape,hst.output,hst.size,λb hb _=>hbw.block b hb,λb off hb _=>⟨by simp[World.cell?,hbw.block b hb],by simp[World.frozen?,hbw.block b hb],by simp only[gG]; rw[if_neg (by omega)]⟩,hst.ex⟩
 refine⟨gG K g λ_=>.blk lh.length,λi=>if i=lh.length then g else μ i,⟨hst'.os,hst'.tape,hst'.output,hst'.size,λb hb _=>hst'.block b hb (by simp),λb off hb _=>hst'.cell b off hb (by simp),hst'.ex⟩,?_,λi hi=>by simp only; rw[if_neg (by omega)],by simp,?_,by simp[nA],by simp[V.ids,C.ids],_,rfl,?_⟩
 ·intro blk off hl
  simp only[gG]
  rw[if_neg (by omega)]
  exact hb _ _ (Nat.le_trans hbw.size hl)
 ·intro i cells hic
  rcases Nat.lt_or_ge i lh.length with hlt|hge
  ·rw[List.getElem?_append_left hlt] at hic
   refine⟨λc hc j hj=>by have:=(hh i cells hic).1 c hc j hj; simp; omega,?_⟩
   have h1:=(hh _ _ hic).2.step (W:=λ_=>False) hst' (by simp) (by simp) (by simp)
   exact kP.mu (if_neg (by omega)) (λc hc j hj=>by
    have:=(hh i cells hic).1 c hc j hj
    exact if_neg (by omega)) h1
  rw[List.getElem?_append_right hge] at hic
  have h0:i=lh.length:=by
   rcases Nat.eq_zero_or_pos (i-lh.length) with h0|h0
   ·omega
   rw[List.getElem?_eq_none (by simp; omega)] at hic; simp at hic
  subst h0
  simp only[Nat.sub_self,List.getElem?_cons_zero,sJ] at hic
  subst hic
  refine⟨by simp[C.ids],.inr ⟨λoff _=>by simp[gG],by simpa using hgs,.inl ⟨rfl,?_,?_⟩⟩⟩
  ·intro k c hk _
   simp only[fA] at hk
   rw[Aj4,List.getElem?_map] at hk
   obtain⟨n,hn,rfl⟩:=Option.map_eq_some_iff.1 hk
   refine⟨.int .i64 n,?_,rfl,by simp only[if_true]; exact hfz k,rfl,by simp⟩
   simp only[if_true]
   rw[hcell k]
   have hkl:k<ns.length:=by
    rcases Nat.lt_or_ge k ns.length with h|h
    ·exact h
    rw[List.getElem?_eq_none h] at hn; simp at hn
   have:(cur.toList.take (ns.length*1))[k]?=some (Value.int .i64 n):=by rw[hcur,List.getElem?_map,hn]; rfl
   rw[List.getElem?_take_of_lt (by omega)] at this
   simpa using this
  intro sz ds e
  simp only[List.cons.injEq,C.seq.injEq,and_true] at e
  obtain⟨rfl,rfl⟩:=e
  refine⟨by omega,λd hd=>?_⟩
  obtain⟨n,_,rfl⟩:=List.mem_map.1 hd
  rfl
 refine .inr ⟨?_,cap,by simp,⟨hnc,by simp only[maxLen] at hcm; omega⟩,λj hj=>?_⟩
 ·exact List.length_pos_iff.2 hne
 simp only[if_true]
 exact⟨by rw[hcell j,Array.getElem?_eq_getElem (by omega)]; rfl,hfz j⟩
end Go.AM
namespace Go.AM
open Go Go.Proofs Go.Shelf Go.RowKit Go.Lib
theorem AhY {P:Program} {w:World} {ops:Array Oper} {rest:List Oper} {o:Oper} {a:Act} {Q:Exit->Act->World->Prop} (hgd:o.guard=none) (s x:Operand) (t:TypeId)
  (ho:o.op=.call { callee:=.builtin .append,args:=#[s,x],argTypes:=#[t,t] })
  (e:TypeId) (i:TypeInfo) (ht:P.underlying t=some (.slice e)) (hi:P.info? e=some i) (b:Addr) (hs:a.eval s=.slice (some b) 0 0) (d:Addr) (c:Nat) (hx:a.eval x=.slice (some d) 0 c)
  (h:wpList P ops Q rest (a.put o.dst (.slice (some b) 0 0)) w):wpList P ops Q (o::rest) a w:=by
 refine wpList_plain hgd λK hK=>?_
 have hf:=run_firstCells_some (P:=P) w i.size 0 d 0 c [] (by simp) (by simp)
 have hrun:(Builtin.append_ #[t,t] o.type #[.slice (some b) 0 0,.slice (some d) 0 c]).run P w=.ok (.slice (some b) 0 0) w:=by
  simp[Builtin.append_,run_underlying ht,sizeOf,typeInfo,hi,Builtin.lenOf,hf,Go.storeCells,Result.andThen]
 unfold Oper.wp
 simp[execOp,ho,resolve,invoke,builtin,hs,hx,hrun,Result.andThen]
 exact hK _ _ h
variable {P:Program} {ρ:Ren}
set_option maxHeartbeats 2000000 in
set_option maxRecDepth 100000 in
theorem AmN (L:SlLaysE0.n41 P ρ) (i0:TypeInfo) (hi:P.info? (ρ.t 23)=some i0) (a:Addr) (c:Nat) (w:World) :
  Calls P (ρ.f 41) #[.slice (some a) 0 c] w λe w'=>(∃a',e=.returned (.slice (some a') 0 0))/\Below w.heap.size w w':=by
 have mixed:=L.mixed; have t4:=L.t4; have a4:=L.a4; have z4:=L.z4; have v4:=L.v4; have t22:=L.t22; have a22:=L.a22; have z22:=L.z22; have v22:=L.v22
 have q22:∀(w:World) (a:Option Addr) (n c n' c':Nat),(binOp .eql (ρ.t 22) (.slice a n c) (.slice none n' c')).run P w=.ok (.bool a.isNone) w:=λw a n c n' c'=>Lib.run_eql_slice_nil w _ _ a n c n' c' L.t22
 have u22:∀w,Sem.run P (underlying (ρ.t 22)) w=.ok (TypeDesc.slice (ρ.t 23)) w:=run_underlying t22
 have z23:∀w,(Go.sizeOf (ρ.t 23)).run P w=.ok i0.size w:=λw=>by simp[sizeOf,typeInfo,hi]
 obtain⟨_,_,FG⟩:=L.f41
 go_enter FG,SlBodyN.n41_ntmps ρ
 go_wp2_with (at_builtin; refine AhY rfl _ _ (ρ.t 22) rfl (ρ.t 23) i0 t22 hi ⟨w.heap.size,0,none⟩ rfl a c rfl ?_)
 go_wp2
 go_ret
 exact⟨⟨_,rfl⟩,(Below.refl _ w).alloc (Nat.le_refl _) _⟩
end Go.AM
namespace Go.AM
open Go
variable [cR]
def Ah9:Call:=λ_ args lh=>match args with
 | [.d (.list 1 ds)]=>(AeD ds).bind λl=>if l.length<=4294967296 then some (.ret (.c (.arr lh.length l.length 1)) (lh++[[.seq 1 (l.map (D.int .i64))]])) else none
 |_=>none
theorem BdX {P:Program} {ρ:Shelf.Ren} (L:Go.Proofs.SlLaysE0.n41 P ρ) (i0:TypeInfo) (z:Value) (hi:P.info? (ρ.t 23)=some i0) (hz0:i0.zero=some z) (hz1:i0.size=1) (hz2:i0.bytes=8) (hzs:z.cells.size=1)
  {args:List C} {lh:List (List C)} {r:aE} (h:Ah9 (ρ.f 41) args lh=some r):CallOK P (ρ.f 41) args lh r:=by
 unfold Ah9 at h
 split at h
 ·rename_i ds
  obtain⟨l,hl,h2⟩:=Option.bind_eq_some_iff.1 h
  clear h
  have h:=h2; clear h2
  have hds:=AhK hl; subst hds
  split at h
  ·rename_i hn
   simp only[sJ] at h; subst h
   refine AqR l λK μ w vs hr hbd hgl=>?_
   cases hr with
   |cons hc hn'=>
    cases hn'
    rename_i v
    have z23:∀w,(Go.sizeOf (ρ.t 23)).run P w=.ok 1 w:=λw=>by simp[sizeOf,typeInfo,hi,hz1]
    simp only[RepC,Rep] at hc
    rcases hc with ⟨he,rfl|⟨ea,ecap,rfl⟩⟩|⟨blk,off,cap,rfl,hcap,he⟩
    ·have:l=[]:=by simpa using he
     subst this
     refine (Go.Proofs.AnyE.slices_Clone_nil L 0 0 w).mono ?_
     rintro e w' ⟨rfl,rfl⟩
     exact⟨Go.RowKit.Below.refl _ _,_,rfl,.inl ⟨rfl,.inl rfl⟩⟩
    ·have:l=[]:=by simpa using he
     subst this
     refine (AmN L i0 hi ea ecap w).mono ?_
     rintro e w' ⟨⟨a',rfl⟩,hb⟩
     exact⟨hb,_,rfl,.inl ⟨rfl,.inr ⟨_,rfl⟩⟩⟩
    rcases List.eq_nil_or_concat l with rfl|⟨l',x,hlx⟩
    ·refine (AmN L i0 hi (ad blk off) cap w).mono ?_
     rintro e w' ⟨⟨a',rfl⟩,hb⟩
     exact⟨hb,_,rfl,.inl ⟨rfl,.inr ⟨_,rfl⟩⟩⟩
    have hne:l≠[]:=by rw[hlx]; simp
    have hcell:=AsW he
    have:=Go.Proofs.AnyE.slices_Clone L i0 z 1 8 hi hz0 hz1 hz2 hzs (by omega) z23 blk off l.length cap (l.map (Value.int .i64)) w (by simp) (by simp[maxLen]; omega) (by omega)
     (λj u hu=>by
      rw[List.getElem?_map] at hu
      obtain⟨n,hn,rfl⟩:=Option.map_eq_some_iff.1 hu
      exact hcell j n hn) (λu hu=>by
      obtain⟨n,_,rfl⟩:=List.mem_map.1 hu
      rfl)
    simp only[List.length_map] at this ⊢
    refine this.mono ?_
    rintro e w' ⟨v',rfl,ho,_,hb⟩
    exact⟨hb,_,rfl,.inr ⟨hne,_,ho⟩⟩
  simp at h
 simp at h
omit [cR] in
theorem zF {w:World} {q g:Nat} {d:Array Int} {c:Array Value} {e:TypeId} {fr:Nat×Nat} (h:w.heap[g]?=some (.cells c e fr)) (b:Nat) :
  (Sort.putRow (Value.int .i64) (Sort.ahead w q) g 0 d).heap[b]?=if g=b then some (.cells (Sort.putCells (Value.int .i64) 0 d c) e fr) else w.heap[b]?:=by
 simp only[Sort.putRow,Sort.mapBlock,Sort.ahead,Array.getElem?_modify]
 by_cases hb:g=b
 ·subst hb; simp[h,Sort.onCells]
 simp[hb]
omit [cR] in
theorem AgW {w:World} {q g:Nat} {d:Array Int} {c:Array Value} {e:TypeId} {fr:Nat×Nat} (h:w.heap[g]?=some (.cells c e fr)) (i:Nat) :
  (Sort.putRow (Value.int .i64) (Sort.ahead w q) g 0 d).cell? (ad g i)=(w.cell? (ad g i)).map λx=>if i<d.size then Value.int .i64 d[i]! else x:=by
 simp only[World.cell?,zF h,if_true,h]
 simp[Sort.putCells,Array.getElem?_mapIdx]
omit [cR] in
theorem Ad5 {w:World} {q g:Nat} {d:Array Int} {c:Array Value} {e:TypeId} {fr:Nat×Nat} (h:w.heap[g]?=some (.cells c e fr)) (b i:Nat) :
  (Sort.putRow (Value.int .i64) (Sort.ahead w q) g 0 d).frozen? (ad b i)=w.frozen? (ad b i):=by
 simp only[World.frozen?,zF h]
 by_cases hb:g=b
 ·subst hb; simp[h]
 simp[hb]
theorem AcK {K K':Col} {w:World} {q g:Nat} {d:Array Int} {c:Array Value} {e:TypeId} {fr:Nat×Nat} (h:w.heap[g]?=some (.cells c e fr)) {W:Tag->Prop} (hW:∀off,W (K g off)) (hK:∀b off,b≠g->K' b off=K b off) :
  Step W K w K' (Sort.putRow (Value.int .i64) (Sort.ahead w q) g 0 d):=by
 refine⟨rfl,rfl,rfl,by simp[Sort.putRow,Sort.mapBlock,Sort.ahead],λb hb hn=>?_,λb off hb hn=>?_,λb off ha=>?_⟩
 ·have:g≠b:=λe=>hn 0 (e▸hW 0)
  rw[zF h,if_neg this]
 ·have:g≠b:=λe=>hn (e▸hW off)
  refine⟨?_,Ad5 h _ _,hK _ _ (Ne.symm this)⟩
  simp only[World.cell?,zF h,if_neg this]
 refine⟨?_,by rw[Ad5 h]; exact ha.2⟩
 by_cases hb:g=b
 ·subst hb
  rw[AgW h]
  obtain⟨u,hu⟩:=Option.isSome_iff_exists.1 ha.1
  rw[hu]; rfl
 have:(Sort.putRow (Value.int .i64) (Sort.ahead w q) g 0 d).cell? (ad b off)=w.cell? (ad b off):=by simp only[World.cell?,zF h,if_neg hb]
 rw[this]; exact ha.1
theorem AsZ {K:Col} {μ:Nat->Nat} {w:World} {b:Nat} {l:List Int} (hne:l≠[]) (h:kP K μ w b [.seq 1 (l.map (D.int .i64))]) :
  (∀off,K (μ b) off=.blk b)/\(∃c e fr,w.heap[μ b]?=some (.cells c e fr))/\Sort.Holds (Value.int .i64) w (μ b) 0 l.toArray:=by
 have hnr:¬AbJ [.seq 1 (l.map (D.int .i64))]:=by
  intro hr
  obtain⟨sz,e,_⟩:=mD hr
  simp only[List.cons.injEq,C.seq.injEq,and_true] at e
  exact hne (by simpa using e.2)
 have hcells:=(h.seq).1
 rw[Aj4] at hcells
 have hold:∀j (n:Int),l[j]?=some n->w.cell? (ad (μ b) j)=some (.int .i64 n)/\w.frozen? (ad (μ b) j)=false:=by
  intro j n hj
  obtain⟨v,h1,_,h2,h3,_⟩:=hcells j (.d (.int .i64 n)) (by rw[List.getElem?_map,hj]; rfl) (by simp)
  simp only[RepC,Rep] at h3
  subst h3
  exact⟨h1,h2⟩
 refine⟨λoff=>(h.old hnr).1 off (by cases off<;>simp),?_,λj hj=>?_⟩
 ·cases l with
  |nil=>exact absurd rfl hne
  |cons x l=>
   obtain⟨c,e,fr,hc,_⟩:=Sort.cells_of_cell? (hold 0 x rfl).1
   exact⟨c,e,fr,hc⟩
 have hj':j<l.length:=by simpa using hj
 have:=hold j l[j] (by simp[hj'])
 simpa[hj',getElem!_pos] using this
def AcM:Call:=λ_ args lh=>match args with
 | [.arr b n 1]=>match lh[b]? with
  |some [.seq 1 ds]=>(AeD ds).bind λl=>if l.length=n/\n<=4294967296 then some (.ret (.tuple []) (lh.set b [.seq 1 (l.reverse.map (D.int .i64))])) else none
  |_=>none
 |_=>none
theorem AzM {P:Program} {ρ:Shelf.Ren} (L:Go.Proofs.SlLaysE.n35 P ρ) {args:List C} {lh:List (List C)} {r:aE} (h:AcM (ρ.f 35) args lh=some r):CallOK P (ρ.f 35) args lh r:=by
 unfold AcM at h
 split at h
 ·rename_i b n
  split at h
  ·rename_i ds hlb
   obtain⟨l,hl,h2⟩:=Option.bind_eq_some_iff.1 h
   clear h
   have h:=h2; clear h2
   have hds:=AhK hl; subst hds
   split at h
   ·rename_i hn
    obtain⟨hln,hn⟩:=hn
    subst hln
    simp only[sJ] at h; subst h
    intro K μ w vs hr hi hh hb hgl
    have hblt:b<lh.length:=(List.getElem?_eq_some_iff.1 hlb).1
    cases hr with
    |cons hc hn'=>
     cases hn'
     rename_i v
     simp only[RepC] at hc
     rcases List.eq_nil_or_concat l with rfl|⟨l',x,hlx⟩
     ·obtain⟨a,cap,rfl⟩:=hc.one
      refine (Go.Proofs.AnyE.slices_Reverse_empty L a cap w).mono ?_
      rintro e w' ⟨rfl,rfl⟩
      refine⟨K,μ,Step.refl _ _ _,hb,λ_ _=>rfl,by simp,?_,by simp[nA],by simp[V.ids],_,rfl,⟨[],rfl,.nil⟩⟩
      intro i cells hic
      rw[List.getElem?_set] at hic
      split at hic
      ·rename_i hib
       subst hib
       simp only[hblt,if_true,sJ] at hic
       subst hic
       have:=hh _ _ hlb
       exact⟨by simp[C.ids],this.2⟩
      have:=hh _ _ hic
      exact⟨by simpa using this.1,this.2⟩
     have hne:l≠[]:=by rw[hlx]; simp
     obtain⟨htag,⟨c,e,fr,hcs⟩,hH⟩:=AsZ hne (hh _ _ hlb).2
     obtain⟨cap,rfl,hcap,hal⟩:=hc.based (List.length_pos_iff.2 hne)
     refine (Go.Proofs.AnyE.slices_Reverse L (Value.int .i64) (λ_=>rfl) (μ b) 0 cap l w hH (by omega)).mono ?_
     rintro e w' ⟨rfl,q,rfl⟩
     have hst:Step iQ K w K (Sort.putRow (Value.int .i64) (Sort.ahead w q) (μ b) 0 l.reverse.toArray):=AcK hcs (λoff=>by rw[htag]; simp[iQ]) λ_ _ _=>rfl
     have hst2:Step (λt=>t=.blk b) K w K (Sort.putRow (Value.int .i64) (Sort.ahead w q) (μ b) 0 l.reverse.toArray):=AcK hcs htag λ_ _ _=>rfl
     refine⟨K,μ,hst,λblk off hl=>hb _ _ (Nat.le_trans hst.size hl),λ_ _=>rfl,by simp,?_,by simp[nA],by simp[V.ids],_,rfl,⟨[],rfl,.nil⟩⟩
     intro i cells hic
     rw[List.getElem?_set] at hic
     split at hic
     ·rename_i hib
      subst hib
      simp only[hblt,if_true,sJ] at hic
      subst hic
      refine⟨by simp[C.ids],.inr ⟨λoff _=>htag off,?_,.inl ⟨rfl,?_,?_⟩⟩⟩
      ·have:μ b<w.heap.size:=by
        rcases Nat.lt_or_ge (μ b) w.heap.size with h|h
        ·exact h
        rw[Array.getElem?_eq_none h] at hcs; simp at hcs
       exact Nat.lt_of_lt_of_le this hst.size
      ·intro k c' hk _
       simp only[fA] at hk
       rw[Aj4,List.getElem?_map] at hk
       obtain⟨m,hm,rfl⟩:=Option.map_eq_some_iff.1 hk
       have hkl:k<l.length:=by
        rcases Nat.lt_or_ge k l.reverse.length with h|h
        ·simpa using h
        rw[List.getElem?_eq_none h] at hm; simp at hm
       obtain⟨h1,h2⟩:=hH k (by simpa using hkl)
       simp only[Nat.zero_add] at h1 h2
       refine⟨.int .i64 m,?_,rfl,by rw[Ad5 hcs]; exact h2,rfl,by simp⟩
       rw[AgW hcs,h1]
       have hm':l.reverse.toArray[k]?=some m:=by simpa using hm
       simp only[Option.map_some,sJ]
       rw[if_pos (by simpa using hkl),getElem!_def,hm']
      intro sz ds e
      simp only[List.cons.injEq,C.seq.injEq,and_true] at e
      obtain⟨rfl,rfl⟩:=e
      refine⟨by omega,λd hd=>?_⟩
      obtain⟨n,_,rfl⟩:=List.mem_map.1 hd
      rfl
     rename_i hib
     have:=hh _ _ hic
     exact⟨by simpa using this.1,this.2.step (W:=λt=>t=.blk b) hst2 (by simp) (by simp; omega) (by simp)⟩
   simp at h
  simp at h
 simp at h
omit [cR] in
theorem AxP {K:Col} {w:World} {blk:Nat}:∀(l:List Int) (off:Nat),(∀j n,l[j]?=some n->K blk (off+j)=.ro/\w.cell? (ad blk (off+j))=some (.int .i64 n))->hZ K w 1 blk off (l.map (D.int .i64))
 | [],_,_=>trivial
 |x::l,off,h=>by
  simp only[List.map_cons,hZ]
  refine⟨⟨.int .i64 x,rfl,rfl,λi v hv=>?_⟩,AxP l (off+1) λj n hj=>?_⟩
  ·cases i with
   |zero=>
    simp only[Value.cells,List.getElem?_cons_zero,sJ] at hv
    subst hv
    exact h 0 x rfl
   |succ i=>simp[Value.cells] at hv
  have:=h (j+1) n (by simpa using hj)
  rwa [show off+1+j=off+(j+1) from by omega]
def Ae4:Call:=λ_ args lh=>match args with
 | [.arr b n 1,.d (.int .i64 i),.d (.int .i64 j)]=>match lh[b]? with
  |some [.seq 1 ds]=>(AeD ds).bind λl=>if l.length=n/\0<n/\n<=4294967296/\0<=i/\i<=j/\j<=n then some (.ret (.c (.d (.list 1 ((l.take i.toNat++l.drop j.toNat).map (D.int .i64))))) (lh.set b [.seq 1 []])) else none
  |_=>none
 |_=>none
theorem BbS {P:Program} {ρ:Shelf.Ren} (L:Go.Proofs.SlLaysE.n45 P ρ) (v23:∀w,(zeroValue (ρ.t 23)).run P w=.ok (.int .i64 0) w) (i0:TypeInfo) (hi:P.info? (ρ.t 23)=some i0) (hz1:i0.size=1)
  {args:List C} {lh:List (List C)} {r:aE} (h:Ae4 (ρ.f 45) args lh=some r):CallOK P (ρ.f 45) args lh r:=by
 unfold Ae4 at h
 split at h
 ·rename_i b n i j
  split at h
  ·rename_i ds hlb
   obtain⟨l,hl,h2⟩:=Option.bind_eq_some_iff.1 h
   clear h
   have h:=h2; clear h2
   have hds:=AhK hl; subst hds
   split at h
   ·rename_i hn
    obtain⟨hln,hn0,hn,hi0,hij,hjn⟩:=hn
    subst hln
    simp only[sJ] at h; subst h
    intro K μ w vs hr hi' hh hb hgl
    have hblt:b<lh.length:=(List.getElem?_eq_some_iff.1 hlb).1
    obtain⟨i,rfl⟩:=Int.eq_ofNat_of_zero_le hi0
    obtain⟨j,rfl⟩:=Int.eq_ofNat_of_zero_le (Int.le_trans hi0 hij)
    simp only[Int.toNat_natCast] at *
    cases hr with
    |cons hc hn'=>
    cases hn' with
    |cons h1 hn'=>
    cases hn' with
    |cons h2 hn'=>
     cases hn'
     rename_i v v1 v2
     simp only[RepC,Rep] at hc h1 h2
     subst h1 h2
     have hne:l≠[]:=List.length_pos_iff.1 hn0
     obtain⟨htag,⟨c,e,fr,hcs⟩,hH⟩:=AsZ hne (hh _ _ hlb).2
     obtain⟨cap,rfl,hcap,hal⟩:=hc.based hn0
     refine (Go.Proofs.AnyE.slices_Delete L (Value.int .i64) (λ_=>rfl) 0 v23 i0 hi hz1 (μ b) 0 cap i j l.toArray w hH (by simpa using hcap.1) hcap.2 (by omega) (by simp; omega)).mono ?_
     rintro e w' ⟨rfl,q,rfl⟩
     have hst:Step iQ K w (gG K (μ b) λ_=>.ro) (Sort.putRow (Value.int .i64) (Sort.ahead w q) (μ b) 0 (l.take i++l.drop j++List.replicate (j-i) 0).toArray):=
      AcK hcs (λoff=>by rw[htag]; simp[iQ]) λb' off hb'=>by simp[gG,hb']
     have hst2:Step (λt=>t=.blk b) K w (gG K (μ b) λ_=>.ro) (Sort.putRow (Value.int .i64) (Sort.ahead w q) (μ b) 0 (l.take i++l.drop j++List.replicate (j-i) 0).toArray):=
      AcK hcs htag λb' off hb'=>by simp[gG,hb']
     have hμ:μ b<w.heap.size:=by
      rcases Nat.lt_or_ge (μ b) w.heap.size with h|h
      ·exact h
      rw[Array.getElem?_eq_none h] at hcs; simp at hcs
     refine⟨_,μ,hst,λblk off hl=>?_,λ_ _=>rfl,by simp,?_,by simp[nA],by simp[V.ids,C.ids],_,rfl,?_⟩
     ·have h2:=Nat.le_trans hst.size hl
      simp only[gG]
      rw[if_neg (by omega)]
      exact hb _ _ h2
     ·intro i' cells hic
      rw[List.getElem?_set] at hic
      split at hic
      ·rename_i hib
       subst hib
       simp only[hblt,if_true,sJ] at hic
       subst hic
       exact⟨by simp[C.ids],.inl (.mk 1 (by omega))⟩
      rename_i hib
      have:=hh _ _ hic
      exact⟨by simpa using this.1,this.2.step (W:=λt=>t=.blk b) hst2 (by simp) (by simp; omega) (by simp)⟩
     have hll:(l.take i++l.drop j).length=l.toArray.size-(j-i):=by simp; omega
     refine .inr ⟨μ b,0,cap,?_,?_,AxP _ 0 λk m hk=>⟨by simp[gG],?_⟩⟩
     ·rw[List.length_map,hll]
     ·rw[List.length_map]
      have:=hcap.1
      simp; omega
     have hkl:k<(l.take i++l.drop j).length:=(List.getElem?_eq_some_iff.1 hk).1
     have hkl2:k<l.length:=by simp at hkl; omega
     obtain⟨h1,h2⟩:=hH k (by simpa using hkl2)
     simp only[Nat.zero_add] at h1 h2 ⊢
     rw[AgW hcs,h1]
     have hm':(l.take i++l.drop j++List.replicate (j-i) 0).toArray[k]?=some m:=by
      simp only[List.getElem?_toArray]
      rw[List.getElem?_append_left hkl]; exact hk
     simp only[Option.map_some,sJ]
     rw[if_pos (by simp at hkl ⊢; omega),getElem!_def,hm']
   simp at h
  simp at h
 simp at h
end Go.AM
namespace Go.AM.Run
open Go Go.Proofs Go.RowKit
def AmA (b:Bool):Int:=if b then 1 else 0
def heldI (op a b:Int):Option Int:=
 if op=29 then some (AmA (decide (a<b))) else if op=30 then some (AmA (decide (b<a))) else if op=31 then some (AmA (decide (a<=b))) else if op=32 then some (AmA (decide (b<=a)))
 else if op=27 then some (AmA (a==b)) else if op=28 then some (AmA (!(a==b))) else none
theorem AaO (b:Bool) (w:World):Calls Tryz.prog 173 #[.bool b] w λe w'=>e=.returned (.int .i64 (AmA b))/\w'=w:=by
 cases b
 all_goals
  go_enter Tryz.func173,Tryz.ntmps173
  go_wp2
  all_goals (go_ret; exact⟨rfl,rfl⟩)
theorem BiS (a b:Int) (w:World):Calls Tryz.prog 174 #[.int .i64 29,.int .i64 a,.int .i64 b] w λe w'=>e=.returned (.int .i64 (AmA (decide (a<b))))/\Below w.heap.size w w':=by
 go_enter Tryz.func174,Tryz.ntmps174
 go_wp2_with (go_at_call 173; refine (AaO _ _).mono ?_; rintro e w' ⟨rfl,rfl⟩)
 all_goals first|go_wall|(go_ret; refine⟨by first|rfl|simp,?_⟩; go_grown)
theorem BiT (a b:Int) (w:World):Calls Tryz.prog 174 #[.int .i64 30,.int .i64 a,.int .i64 b] w λe w'=>e=.returned (.int .i64 (AmA (decide (b<a))))/\Below w.heap.size w w':=by
 go_enter Tryz.func174,Tryz.ntmps174
 go_wp2_with (go_at_call 173; refine (AaO _ _).mono ?_; rintro e w' ⟨rfl,rfl⟩)
 all_goals first|go_wall|(go_ret; refine⟨by first|rfl|simp,?_⟩; go_grown)
theorem BiU (a b:Int) (w:World):Calls Tryz.prog 174 #[.int .i64 31,.int .i64 a,.int .i64 b] w λe w'=>e=.returned (.int .i64 (AmA (decide (a<=b))))/\Below w.heap.size w w':=by
 go_enter Tryz.func174,Tryz.ntmps174
 go_wp2_with (go_at_call 173; refine (AaO _ _).mono ?_; rintro e w' ⟨rfl,rfl⟩)
 all_goals first|go_wall|(go_ret; refine⟨by first|rfl|simp,?_⟩; go_grown)
theorem BiV (a b:Int) (w:World):Calls Tryz.prog 174 #[.int .i64 32,.int .i64 a,.int .i64 b] w λe w'=>e=.returned (.int .i64 (AmA (decide (b<=a))))/\Below w.heap.size w w':=by
 go_enter Tryz.func174,Tryz.ntmps174
 go_wp2_with (go_at_call 173; refine (AaO _ _).mono ?_; rintro e w' ⟨rfl,rfl⟩)
 all_goals first|go_wall|(go_ret; refine⟨by first|rfl|simp,?_⟩; go_grown)
theorem BiQ (a b:Int) (w:World):Calls Tryz.prog 174 #[.int .i64 27,.int .i64 a,.int .i64 b] w λe w'=>e=.returned (.int .i64 (AmA (a==b)))/\Below w.heap.size w w':=by
 cases hab:(a==b)
 all_goals
  go_enter Tryz.func174,Tryz.ntmps174
  go_wp2_with (go_at_call 173; refine (AaO _ _).mono ?_; rintro e w' ⟨rfl,rfl⟩)
  all_goals first|go_wall|(go_ret; refine⟨by first|rfl|simp,?_⟩; go_grown)
theorem BiR (a b:Int) (w:World):Calls Tryz.prog 174 #[.int .i64 28,.int .i64 a,.int .i64 b] w λe w'=>e=.returned (.int .i64 (AmA (!(a==b))))/\Below w.heap.size w w':=by
 cases hab:(a==b)
 all_goals
  go_enter Tryz.func174,Tryz.ntmps174
  go_wp2_with (go_at_call 173; refine (AaO _ _).mono ?_; rintro e w' ⟨rfl,rfl⟩)
  all_goals first|go_wall|(go_ret; refine⟨by first|rfl|simp,?_⟩; go_grown)
theorem BeJ {op a b r:Int} (h:heldI op a b=some r) (w:World):Calls Tryz.prog 174 #[.int .i64 op,.int .i64 a,.int .i64 b] w λe w'=>e=.returned (.int .i64 r)/\Below w.heap.size w w':=by
 unfold heldI at h
 split at h
 ·rename_i e; subst e; cases h; exact BiS a b w
 split at h
 ·rename_i e; subst e; cases h; exact BiT a b w
 split at h
 ·rename_i e; subst e; cases h; exact BiU a b w
 split at h
 ·rename_i e; subst e; cases h; exact BiV a b w
 split at h
 ·rename_i e; subst e; cases h; exact BiQ a b w
 split at h
 ·rename_i e; subst e; cases h; exact BiR a b w
 cases h
def heldCall:Call:=λ_ args lh=>match args with
 | [.d (.int .i64 op),.d (.int .i64 a),.d (.int .i64 b)]=>(heldI op a b).map λr=>.ret (.d (.int .i64 r)) lh
 |_=>none
theorem held_ok [cR] {args:List C} {lh:List (List C)} {r:aE} (h:heldCall 174 args lh=some r):CallOK Tryz.prog 174 args lh r:=by
 unfold heldCall at h
 split at h
 ·rename_i op a b
  obtain⟨q,hq,rfl⟩:=Option.map_eq_some_iff.1 h
  refine AtP λK μ w vs hr hbd hgl=>?_
  cases hr with
  |cons h1 hn=>cases hn with
   |cons h2 hn=>cases hn with
    |cons h3 hn=>
     cases hn
     simp only[RepC,Rep] at h1 h2 h3; subst h1 h2 h3
     refine (BeJ hq w).mono ?_
     rintro e w' ⟨rfl,hb⟩
     exact⟨⟨_,rfl,rfl⟩,hb⟩
 simp at h
end Go.AM.Run
namespace Go.AM
open Go
section
variable {X:Ctx} {f:Nat} {Q:AX->St->Prop} {tm tm':List (Nat×V)} {hp hp':List (Nat×List C)} {nid nid':Nat} {df:List (Nat×List Nat)} {pn:Option D}
def mkarr {α:Type} (n:Int) (z:α):Option (List α):=if 0<=n/\n<=4294967296 then some (List.replicate n.toNat z) else none
def aidx (m:Int) (n:Nat):Option Nat:=if 0<=m/\m.toNat<n then some m.toNat else none
def qF {α:Type} (xs:List α) (j:Nat):Option α:=xs[j]?
def aset {α:Type} (xs:List α) (j:Nat) (v:α):Option (List α):=if j<xs.length then some (xs.set j v) else none
def afrz {α:Type} (n:Nat) (xs:List α):Option (List α):=if xs.length=n then some xs else none
def BbD {α:Type} (g:α->D) (sz:Nat):Prop:=∀x,(g x).cells.length=sz/\mkE (g x).cells=g x/\(g x).cells.all AuC=true
theorem AlM {α:Type} (g:α->D) (z:α) {xs:List α} {n:Int} {o:Oper} {t e:TypeId} {l c:Operand} {k k':IntKind} {sz:Nat} (hy:mkarr n z=some xs) (ho:o.op=.makeSlice t l c) (hs:qT l c=true) (ht:mW X.P t=some e)
  (hl:ev tm l=some (.c (.d (.int k n)))) (hc:ev tm c=some (.c (.d (.int k' n)))) (hz:((AcP X.P e).map (AnK X.P e)).bind V.toD=some (g z)) (hk:tsz X.P e=some sz) (hb:Nat.ble (X.P.bytesOf e) 1024=true) (hzl:(g z).cells.length=sz) (h0:Nat.ble 1 sz=true) (hnv:noView nid tm=true) (hn:nid+1=nid') :
  EvO X o ⟨tm,hp,nid,df,pn⟩ (.c (.arr nid n.toNat sz)) ⟨tm,(nid,[.seq sz (xs.map g)])::hp,nid',df,pn⟩ eR.none:=by
 unfold mkarr at hy
 split at hy
 ·rename_i hc0
  simp only[sJ] at hy; subst hy; subst hn
  have hb':=Nat.le_of_ble_eq_true hb
  have h0':0<sz:=Nat.le_of_ble_eq_true h0
  exact .of λcall=>by simp[cV,ho,evR,ht,hl,hc,hz,hk,hc0,hb',hzl,h0',hs,hnv]
 simp at hy
def mkcap (m:Int):Option Unit:=if 0<=m/\m<=4294967296 then some () else none
theorem BiN {α:Type} (g:α->D) {zd:D} {y:Unit} {m:Int} {o:Oper} {t e:TypeId} {l c:Operand} {k k':IntKind} {sz:Nat} (hy:mkcap m=some y) (ho:o.op=.makeSlice t l c) (hs:qT l c=false) (ht:mW X.P t=some e)
  (hl:ev tm l=some (.c (.d (.int k 0)))) (hc:ev tm c=some (.c (.d (.int k' m)))) (hz:((AcP X.P e).map (AnK X.P e)).bind V.toD=some zd) (hk:tsz X.P e=some sz) (hb:Nat.ble (X.P.bytesOf e) 1024=true) (hzl:zd.cells.length=sz) (h0:Nat.ble 1 sz=true) :
  EvO X o ⟨tm,hp,nid,df,pn⟩ (.c (.own sz (([]:List α).map g))) ⟨tm,hp,nid,df,pn⟩ eR.none:=by
 unfold mkcap at hy
 split at hy
 ·rename_i hc0
  have hb':=Nat.le_of_ble_eq_true hb
  have h0':0<sz:=Nat.le_of_ble_eq_true h0
  exact .of λcall=>by simp[cV,ho,evR,ht,hl,hc,hz,hk,hc0,hb',hzl,h0',hs,cO,eR.none]
 simp at hy
theorem pdm {α:Type} (g:α->D) (z:α) {xs:List α} {n:Int} {ops:Array Oper} {vs:List Nat} {base i i':Nat} {pre pre':List Fp} {o:Oper} {t e:TypeId} {l c:Operand} {r:List Oper} {k k':IntKind} {sz:Nat} (hy:mkarr n z=some xs)
  (ho:o.op=.makeSlice t l c) (hs:qT l c=true) (ht:mW X.P t=some e) (hl:ev tm l=some (.c (.d (.int k n)))) (hc:ev tm c=some (.c (.d (.int k' n)))) (hz:((AcP X.P e).map (AnK X.P e)).bind V.toD=some (g z)) (hk:tsz X.P e=some sz)
  (hb:Nat.ble (X.P.bytesOf e) 1024=true) (hzl:(g z).cells.length=sz) (h0:Nat.ble 1 sz=true) (hw:wantedAt ops tm o=some true) (hno:look (base+i) hp=none)
  (hput:(vG o.dst (.c (.arr (base+i) n.toNat sz)) ⟨tm,(base+i,[.seq sz (xs.map g)])::hp,nid,df,pn⟩).bind (λs2=>qX s2.tmps λtm=>tR s2.heap λhp=>some (tm,hp))=some (tm',hp'))
  (hf:fpK (Fp.fill ⟨(eT ops o).map .tmp,kJ o.dst (.c (.arr (base+i) n.toNat sz))++[.blk (base+i)],[],false⟩ ⟨tm',hp',nid,df,pn⟩) (λfp=>qX (pre++[fp]) some)=some pre') (hi:i+1=i')
  (h:nU X ops vs base pre' r i' Q ⟨tm',hp',nid,df,pn⟩):nU X ops vs base pre (o::r) i Q ⟨tm,hp,nid,df,pn⟩:=by
 rw[ApG,iM,sJ] at hf
 subst hi hf
 rw[Option.bind_eq_some_iff] at hput
 obtain⟨s2,h2,hput⟩:=hput
 rw[iM,pN] at hput
 simp only[sJ,pJ] at hput
 have hs2:=AaM h2
 obtain⟨rfl,rfl⟩:=hput
 rw[←hs2] at h
 unfold mkarr at hy
 split at hy
 ·rename_i hc0
  simp only[sJ] at hy; subst hy
  have hb':=Nat.le_of_ble_eq_true hb
  have h0':0<sz:=Nat.le_of_ble_eq_true h0
  have hev:evR X.P (base+i) o tm hp=some (.c (.arr (base+i) n.toNat sz),some [.seq sz (List.replicate n.toNat (g z))]):=by
   simp[evR,ho,ht,hl,hc,hz,hk,hc0,hb',hzl,h0',hs]
  have hmk:aR o=true:=by simp[aR,ho,hs]
  refine AtL (s:=⟨tm,hp,nid,df,pn⟩) (v:=.c (.arr (base+i) n.toNat sz)) (s1:=⟨tm,(base+i,[.seq sz ((List.replicate n.toNat z).map g)])::hp,nid,df,pn⟩) (s2:=s2) hw (.of λkk=>?_) (by simpa[List.map_replicate] using h2) (by simpa[List.map_replicate,←hs2] using h)
  simp only[eI,hmk,if_true,Aa2,hev,hno]
  simp[C.plain,C.ids,List.map_replicate]
 simp at hy
def BaR {α:Type} (n:Nat) (ds ys:List α):Option (List α):=if ds.length=n/\ys.length<=n then some (ys++ds.drop ys.length) else none
theorem AyE {α:Type} {k:Nat} {v:α}:∀{l:List (Nat×α)},look k l=some v->upd k v l=l
 | [],h=>by simp[look] at h
 |(j,u)::r,h=>by
  unfold look at h
  unfold upd
  split at h
  ·rename_i hj
   simp only[sJ] at h
   subst h
   rw[if_pos hj,hj]
  rename_i hj
  rw[if_neg hj,AyE h]
theorem BhL {α:Type} (g:α->D) {ds ys zs:List α} {o:Oper} {c:Go.Call} {t u e:TypeId} {x y:Operand} {b n sz:Nat} {zv:V} (hy:BaR n ds ys=some zs) (ho:o.op=.call c) (hc:c.callee=.builtin .copy) (ha:c.args.toList=[x,y])
  (hat:c.argTypes.toList=[t,u]) (ht:mW X.P t=some e) (hn:tsz X.P e=some sz) (hx:ev tm x=some (.c (.arr b n sz))) (hz:evT X.P u tm y=some zv) (hzz:appended zv=some (sz,ys.map g)) (hb:look b hp=some [.seq sz (ds.map g)]) :
  EvO X o ⟨tm,hp,nid,df,pn⟩ (.c (.d (.int .i64 (ys.length:Nat)))) ⟨tm,upd b [.seq sz (zs.map g)] hp,nid,df,pn⟩ eR.none:=by
 unfold BaR at hy
 split at hy
 ·rename_i hc0
  obtain⟨rfl,hle⟩:=hc0
  simp only[sJ] at hy; subst hy
  refine .of λcall=>?_
  cases ys with
  |nil=>
   simp only[List.nil_append,List.length_nil,List.drop_zero,AyE hb]
   simp[cV,ho,hc,ha,hat,AlJ,ht,hx,hz,hzz,hn]
  |cons y0 ys=>
   simp only[List.length_cons] at hle
   simp[cV,ho,hc,ha,hat,AlJ,ht,hx,hz,hzz,hn,hb,hle,List.map_drop]
 simp at hy
theorem AcW {o:Oper} {t e:TypeId} {x i:Operand} {b n sz j:Nat} {k:IntKind} {m:Int} (hy:aidx m n=some j) (ho:o.op=.indexAddr t x i) (ht:mW X.P t=some e) (hz:some sz=tsz X.P e) (hx:ev tm x=some (.c (.arr b n sz))) (hi:ev tm i=some (.c (.d (.int k m)))) :
  EvO X o ⟨tm,hp,nid,df,pn⟩ (.c (.ptr b (j*sz))) ⟨tm,hp,nid,df,pn⟩ ⟨cO o tm,[],[]⟩:=by
 unfold aidx at hy
 split at hy
 ·rename_i hc
  simp only[sJ] at hy; subst hy
  exact .of λcall=>by simp only[cV,ho,evR,ht,hx,hi,hz,hc,and_self,if_true]
 simp at hy
theorem AwP {α:Type} {g:α->D} {sz:Nat} (hg:BbD g sz) {xs:List α} {j:Nat} {y:α} (hy:xs[j]?=some y):((fC (xs.map g)).drop (j*sz)).take sz=(g y).cells.map C.d:=by
 induction xs generalizing j with
 |nil=>simp at hy
 |cons x xs ih=>
  rw[List.map_cons,Ab5]
  cases j with
  |zero=>
   simp only[List.getElem?_cons_zero,sJ] at hy; subst hy
   rw[Nat.zero_mul,List.drop_zero,List.take_append_of_le_length (by simp[(hg x).1]),List.take_of_length_le (by simp[(hg x).1])]
  |succ j=>
   rw[List.drop_append,List.drop_eq_nil_of_le (by simp[(hg x).1,Nat.succ_mul]),List.nil_append]
   have e:(j+1)*sz-((g x).cells.map C.d).length=j*sz:=by simp[(hg x).1,Nat.succ_mul]
   rw[e]
   exact ih (by simpa using hy)
theorem BeD {α:Type} {g:α->D} {sz:Nat} (hg:BbD g sz) (xs:List α):(fC (xs.map g)).length=xs.length*sz:=by
 rw[AhI (sz:=sz),List.length_map]
 intro d hd
 simp only[List.mem_map] at hd
 obtain⟨x,_,rfl⟩:=hd
 exact (hg x).1
theorem AsN {b sz:Nat} {ds:List D} (hb:look b hp=some [.seq sz ds]):xM b hp=some (fC ds):=by simp only[xM,hb,mapOf]
theorem AqY {α:Type} (g:α->D) {xs:List α} {y:α} {o:Oper} {t:TypeId} {a:Operand} {b j:Nat} (hy:qF xs j=some y) (ho:o.op=.load t a) (ht:AhX X.P t=some false) (hg:BbD g 1) (hx:ev tm a=some (.c (.ptr b (j*1)))) (hb:look b hp=some [.seq 1 (xs.map g)]) :
  EvO X o ⟨tm,hp,nid,df,pn⟩ (.d (g y)) ⟨tm,hp,nid,df,pn⟩ ⟨cO o tm,[],[]⟩:=by
 have h1:=AwP hg hy
 have hc:∃d,(g y).cells=[d]:=by
  have:=(hg y).1
  match h:(g y).cells with
  | [d]=>exact⟨d,rfl⟩
  | []=>simp[h] at this
  |_::_::_=>simp[h] at this
 obtain⟨d,hd⟩:=hc
 have hgd:g y=d:=by have:=(hg y).2.1; rw[hd] at this; exact this.symm
 rw[hd] at h1
 have h2:(fC (xs.map g))[j*1]?=some (.d d):=by
  have:=congrArg (λl=>l[0]?) h1
  simpa using this
 rw[hgd]
 exact .of λcall=>by simp only[cV,ho,evR,hx,AsN hb,ht,h2]
theorem AoC:∀(n:Nat) {l:List C},(∀c∈l,∃d,c=.d d)->AaR n l=false
 |0,_,_=>rfl
 |n+1,[],_=>rfl
 |n+1,c::r,h=>by
  obtain⟨d,rfl⟩:=h c (by simp)
  simp only[AaR]
  exact AoC n λc hc=>h c (by simp[hc])
theorem AjS (n k:Nat) (ds:List D):AaR n ((fC ds).drop k)=false:=AoC n λc hc=>by
 have hc:=List.mem_of_mem_drop hc
 simp only[fC,List.mem_flatMap,List.mem_map] at hc
 obtain⟨_,_,x,_,rfl⟩:=hc
 exact⟨x,rfl⟩
theorem BjX {α:Type} (g:α->D) {xs:List α} {y:α} {o:Oper} {t:TypeId} {a:Operand} {b j sz:Nat} (hy:qF xs j=some y) (ho:o.op=.load t a) (ht:AhX X.P t=some true) (hn:tsz X.P t=some sz) (hg:BbD g sz) (ha:∀x,g x=.agg (g x).cells) (hx:ev tm a=some (.c (.ptr b (j*sz)))) (hb:look b hp=some [.seq sz (xs.map g)]) :
  EvO X o ⟨tm,hp,nid,df,pn⟩ (.d (g y)) ⟨tm,hp,nid,df,pn⟩ ⟨cO o tm,[],[]⟩:=by
 have h1:=AwP hg hy
 have hj:j<xs.length:=(List.getElem?_eq_some_iff.1 hy).1
 have hle:j*sz+sz<=(fC (xs.map g)).length:=by
  rw[BeD hg,←Nat.succ_mul]
  exact Nat.mul_le_mul_right _ hj
 have hm:((g y).cells.map C.d).map C.plain=(g y).cells.map C.d:=by simp[List.map_map,Function.comp_def,C.plain]
 have hal:∀ds:List D,AiV (ds.map C.d)=some ds:=by
  intro ds
  induction ds with
  |nil=>rfl
  |cons d ds ih=>simp only[List.map_cons,AiV,C.toD,ih]
 rw[ha y]
 exact .of λcall=>by simp only[cV,ho,evR,hx,AsN hb,ht,hn,hle,if_true,AjS,h1,hm,AoA,hal]
theorem BbQ (d:D):V.cells (.c (.d d))=some (d.cells.map C.d):=by cases d<;>rfl
theorem Aw4:∀ds:List D,AyU (ds.map C.d)=some ds
 | []=>rfl
 |d::ds=>by simp only[List.map_cons,AyU,Aw4 ds,Option.map_some]
theorem AzO {α:Type} {g:α->D} {sz:Nat} (hg:BbD g sz) (h0:0<sz) {xs ys:List α} {j:Nat} {v:α} (hy:aset xs j v=some ys):Am7 sz (j*sz) (xs.map g) ((g v).cells.map C.d)=some (ys.map g):=by
 unfold aset at hy
 split at hy
 ·rename_i hj
  simp only[sJ] at hy; subst hy
  unfold Am7
  rw[Aw4,Nat.mul_div_cancel _ h0,List.getElem?_map,List.getElem?_eq_getElem hj]
  simp only[Option.map_some,Nat.mul_mod_left,Nat.zero_add,(hg v).1,Nat.le_refl,(hg v).2.2,h0,and_self,if_true,(hg v).2.1,List.map_set]
 simp at hy
theorem est {α:Type} (g:α->D) {xs ys:List α} {v:α} {o:Oper} {t:TypeId} {a x:Operand} {b j sz:Nat} (hy:aset xs j v=some ys) (ho:o.op=.store t a x) (hn:tsz X.P t=some sz) (hg:BbD g sz) (h0:Nat.ble 1 sz=true) (ha:ev tm a=some (.c (.ptr b (j*sz)))) (hx:evT X.P t tm x=some (.c (.d (g v)))) (hb:look b hp=some [.seq sz (xs.map g)]) :
  EvO X o ⟨tm,hp,nid,df,pn⟩ (.c .undef) ⟨tm,upd b [.seq sz (ys.map g)] hp,nid,df,pn⟩ ⟨[],[b],[]⟩:=by
 have h0':0<sz:=Nat.le_of_ble_eq_true h0
 have hcn:=BbQ (g v)
 have hany:((g v).cells.map C.d).any C.isNilsl=false:=by
  rw[List.any_eq_false]
  intro c hc
  simp only[List.mem_map] at hc
  obtain⟨d,_,rfl⟩:=hc
  simp[C.isNilsl]
 have hpl:((g v).cells.map C.d).map C.plain=(g v).cells.map C.d:=by simp[List.map_map,Function.comp_def,C.plain]
 have hst:storeCells hp b (j*sz) ((g v).cells.map C.d)=some (upd b [.seq sz (ys.map g)] hp):=by
  simp only[storeCells,hb,AzO hg h0' hy,Option.map_some]
 have hlen:tsz X.P t=some ((g v).cells.map C.d).length:=by rw[List.length_map,(hg v).1]; exact hn
 exact .of λcall=>by simp only[cV,ho,ha,hx,hcn,hlen,if_true,hany,fJ,if_false,hpl,hst]
theorem AiE {k:Nat} {ks:List Nat} {s s1 s2:St} (hk:Nat.ble 7000000 k=true) (h:AkM k s=some s1) (h2:frz ks s1=some s2):frz (k::ks) s=some s2:=by
 simp only[frz,hk,h,h2]
theorem Ag7 {α:Type} (g:α->D) {xs ys:List α} {b n sz:Nat} (hy:afrz n xs=some ys) (hb:look b hp=some [.seq sz (xs.map g)]):AkL hp (.arr b n sz)=some (.d (.list sz (ys.map g))):=by
 unfold afrz at hy
 split at hy
 ·rename_i hc
  simp only[sJ] at hy; subst hy
  simp only[AkL,hb,List.length_map,hc,and_self,if_true]
 simp at hy
theorem AvH {α:Type} (xs:List α):afrz xs.length xs=some xs:=by simp[afrz]
theorem Au7 {c c':C} (h:AkL hp c=some c'):AhW hp (.c c)=some (.c c'):=by simp only[AhW,h,Option.map_some]
theorem gT {k t b:Nat} {bs:List Nat} {V0 V':V} (hk:AkM k ⟨tm,hp,nid,df,pn⟩=BeF t ⟨tm,hp,nid,df,pn⟩) (ht:look t tm=some V0) (ha:V0.arrs=b::bs) (hv:AhW hp V0=some V') (h1:(t,V')::tm=tm') (h2:without (b::bs) hp=hp') :
  AkM k ⟨tm,hp,nid,df,pn⟩=some ⟨tm',hp',nid,df,pn⟩:=by
 subst h1; subst h2
 rw[hk]
 simp only[BeF,ht,ha,hv]
theorem iO {α:Type} (g:α->D) {xs ys:List α} {b0 off b n sz:Nat} {hp1:List (Nat×List C)} (hc:cellOf b0 off ⟨tm,hp,nid,df,pn⟩=some (.arr b n sz)) (hy:afrz n xs=some ys) (hb:look b hp=some [.seq sz (xs.map g)])
  (h1:without [b] hp=hp1) (h2:cellTo b0 off (.d (.list sz (ys.map g))) ⟨tm,hp1,nid,df,pn⟩=⟨tm,hp',nid,df,pn⟩):Ac4 b0 off ⟨tm,hp,nid,df,pn⟩=some ⟨tm,hp',nid,df,pn⟩:=by
 subst h1
 simp only[Ac4,hc,Ag7 g hy hb,h2]
theorem gC {k b0 off:Nat} {s s':St} (hk:AkM k s=Ac4 b0 off s) (h:Ac4 b0 off s=some s'):AkM k s=some s':=by rw[hk,h]
theorem Ac3 {b off:Nat} {s:St}:uA b off 0 s=some s:=rfl
theorem mC {b off n:Nat} {s s1 s2:St} (h:Ac4 b (off+n) s=some s1) (h2:uA b off n s1=some s2):uA b off (n+1) s=some s2:=by simp only[uA,h,h2]
theorem Ag3 {P:Program} {s:St}:endFrz P [] s=some s:=rfl
theorem AoX {P:Program} {t:Nat} {r:List ResultVar} {s s1:St} (h:endFrz P r s=some s1):endFrz P (.tmp t::r) s=some s1:=h
theorem Ac1 {P:Program} {a t b off n:Nat} {r:List ResultVar} {s s1 s2:St} (ha:look a s.tmps=some (.c (.ptr b off))) (ht:AhX P t=some true) (hn:tsz P t=some n) (h:uA b off n s=some s1) (h2:endFrz P r s1=some s2) :
 endFrz P (.cell a t::r) s=some s2:=by simp only[endFrz,ha,ht,hn,h,h2]
def BgC (P:Program) (fn:Func) (n:Nat) (s:St):Option aE:=match Bh7 P s fn.results.toList with
 |some v=>match AeO s.heap n v.ids with
  |some (ids,lh')=>match v.into ids with
   |some v'=>some (.ret v' lh')
   |none=>none
  |none=>none
 |none=>none
theorem xH.retF {fn:Func} {n:Nat} {r:aE} {s s1:St} {rs:List ResultVar} (hd:s.defers=[]) (hr:fn.results.toList=rs) (h1:endFrz X.P rs s=some s1) (h:BgC X.P fn n s1=some r):xH X fn n r .ret s:=
 .ret hd (by subst hr; unfold tS; rw[h1]; exact h)
structure AvQ (X:Ctx) (ops:Array Oper) (l:List Oper) (Q:AX->St->Prop) (s:St):Prop where
 ex:∃x s',(Evt λk=>Ab4 X.P (X.raw k) ops l s=some (x,s'))/\Q x s'
theorem rnM {id:Nat} {ops:Array Oper} {tm0:List (Nat×V)} {hp0:List (Nat×List C)} {nid0:Nat} (hz:frz (X.H f id) ⟨tm,hp,nid,df,pn⟩=some ⟨tm0,hp0,nid0,df,pn⟩) (hM:isM (X.H f id)=true) (hk:Ac5 (X.H f id) tm0 some=some tm')
  (h:AvQ X ops ops.toList Q ⟨tm',hp0,nid0,df,pn⟩):awp X f (.region id ops false) Q ⟨tm,hp,nid,df,pn⟩:=by
 rw[uB,sJ] at hk
 subst hk
 obtain⟨x,s',h1,h2⟩:=h
 refine⟨x,s',h1.imp λk p=>?_,h2⟩
 simp only[iK,hz,hM,fJ,if_false,p]
theorem mz {s:St} {ops:Array Oper} (h:Q .normal s):AvQ X ops [] Q s:=⟨_,_,.of λ_=>rfl,h⟩
theorem mo {s s1:St} {ops:Array Oper} {o:Oper} {l:List Oper} {v:V} {ft:eR} (hop:EvO X o s v s1 ft) (hw:wantedAt ops s.tmps o=some true) (hs:∀call,spec X.P call o s=none) {s2:St} (h2:putDst o v s1=s2) (h:AvQ X ops l Q s2):AvQ X ops (o::l) Q s:=by
 subst h2
 obtain⟨x,s',h1,h2⟩:=h
 refine⟨x,s',(hop.and h1).imp λk p=>?_,h2⟩
 obtain⟨p,q⟩:=p
 simp only[Ab4,hw,hs]
 rw[show cV X.P (AbR (X.raw k)) s.nid o s=_ from p]
 exact q
theorem ms {s s1:St} {ops:Array Oper} {o:Oper} {l:List Oper} {v:V} (hop:Aa0 X.P o s=some (v,s1)) (hw:wantedAt ops s.tmps o=some true) {s2:St} (h2:putDst o v s1=s2) (h:AvQ X ops l Q s2):AvQ X ops (o::l) Q s:=by
 subst h2
 obtain⟨x,s',h1,h2⟩:=h
 refine⟨x,s',h1.imp λk p=>?_,h2⟩
 simp only[Ab4,hw,spec,hop,p]
theorem mv {ops:Array Oper} {o:Oper} {l:List Oper} {c:Go.Call} {fo:Operand} {g nid':Nat} {ids:List Nat} {args args':List C} {lh lh' lh'':List (List C)} {v v':V} (hv:Ba4 X g args' lh (.ret v lh')) (ho:o.op=.call c) (hc:c.callee=.value fo)
  (hf:ev tm fo=some (.c (.fn g []))) (ha:oM X.P tm c.args.toList c.argTypes.toList=some args) (hr:rH hp 64 (args.flatMap C.ids) []=some ids) (hi:aZ (C.into ids) args=some args') (hb:oO hp ids=some lh)
  (hk:aZ (aZ (C.back (ids++bE nid (lh'.length-ids.length)))) lh'=some lh'') (hv':V.back (ids++bE nid (lh'.length-ids.length)) v=some v') (hw:wantedAt ops tm o=some true) (hn:nid+(lh'.length-ids.length)=nid')
  {s2:St} (h2:putDst o v' ⟨unviewIn (ids++bE nid (lh'.length-ids.length)) tm,dO (ids++bE nid (lh'.length-ids.length)) lh'' hp,nid',df,pn⟩=s2) (h:AvQ X ops l Q s2):AvQ X ops (o::l) Q ⟨tm,hp,nid,df,pn⟩:=by
 subst h2 hn
 obtain⟨x,s',h1,h2⟩:=h
 refine⟨x,s',(hv.and h1).imp λk q=>?_,h2⟩
 obtain⟨p,q⟩:=q
 have hs:Aa0 X.P o ⟨tm,hp,nid,df,pn⟩=none:=by simp only[Aa0,ho,hc]
 simp only[Ab4,hw,spec,hs,ho,hc,hf,ha,mI,hr,hi,hb,p,hk,hv']
 exact q
theorem BkF {fn:Func} {n:Nat} {r:aE} {s:St} (hd:s.defers=[]) (h:AhD X.P fn n s=some r):AyM X fn n r .ret s:=⟨.inr rfl,hd,h⟩
theorem Bf5 {α:Type} (g:α->D) {xs ys zs:List α} {o:Oper} {c:Go.Call} {t u e:TypeId} {x y:Operand} {X0 Y0:V} {bs:List Nat} {sz:Nat} {hp1:List (Nat×List C)} (hy:lapp xs ys=some zs) (ho:o.op=.call c) (hc:c.callee=.builtin .append) (ha:c.args.toList=[x,y]) (hat:c.argTypes.toList=[t,u])
  (ht:mW X.P t=some e) (hx:evT X.P t tm x=some X0) (hX:xG hp X0=some (bs,sz,xs.map g)) (hv:evT X.P u tm y=some Y0) (hV:appended Y0=some (sz,ys.map g)) (hn:tsz X.P e=some sz) (hu:gV X.P u=true) (h0:Nat.ble 1 sz=true)
  (hb:Nat.ble (X.P.bytesOf e) 1024=true) (hz:lF X.P e sz=true) (hnv:noView nid tm=true) (h1:without bs hp=hp1) :
  Aa0 X.P o ⟨tm,hp,nid,df,pn⟩=some (.c (.arr nid zs.length sz),⟨tm,(nid,[.seq sz (zs.map g)])::hp1,nid+1,df,pn⟩):=by
 unfold lapp at hy
 split at hy
 ·rename_i hl
  simp only[sJ] at hy; subst hy; subst h1
  have h0':0<sz:=Nat.le_of_ble_eq_true h0
  have hb':=Nat.le_of_ble_eq_true hb
  simp only[Aa0,ho,hc,ha,hat,ht,hx,hv,hV,hX,bJ,hn,hu,h0',hb',hz,hnv,List.length_map,hl,and_self,if_true,List.length_append,List.map_append]
 simp at hy
def Bg3 {α:Type} (n:Nat) (xs ys:List α):Option (List α):=afrz n xs>>=λzs=>lapp zs ys
theorem AvG {α:Type} {n:Nat} {xs ys zs:List α} (h:Bg3 n xs ys=some zs):∃l,afrz n xs=some l/\lapp l ys=some zs:=by
 unfold Bg3 at h
 cases h1:afrz n xs with
 |none=>rw[h1] at h; simp at h
 |some l=>rw[h1] at h; exact⟨l,rfl,h⟩
theorem pda {α:Type} (g:α->D) {xs ys zs:List α} {ops:Array Oper} {vs:List Nat} {base i i':Nat} {pre pre':List Fp} {o:Oper} {r:List Oper} {c:Go.Call} {t u e:TypeId} {x y:Operand} {Y0:V} {b n sz nid1:Nat} {hp1:List (Nat×List C)}
  (hy:lapp xs ys=some zs) (hX:xG hp (.c (.arr b n sz))=some ([b],sz,xs.map g)) (ho:o.op=.call c) (hc:c.callee=.builtin .append) (ha:c.args.toList=[x,y]) (hat:c.argTypes.toList=[t,u])
  (ht:mW X.P t=some e) (hx:evT X.P t tm x=some (.c (.arr b n sz))) (hv:evT X.P u tm y=some Y0) (hV:appended Y0=some (sz,ys.map g)) (hn:tsz X.P e=some sz) (hu:gV X.P u=true) (h0:Nat.ble 1 sz=true)
  (hb:Nat.ble (X.P.bytesOf e) 1024=true) (hz:lF X.P e sz=true) (hnv:noView nid tm=true) (h1:without [b] hp=hp1) (hw:wantedAt ops tm o=some true) (hnid:nid+1=nid1)
  (hput:(vG o.dst (.c (.arr nid zs.length sz)) ⟨tm,(nid,[.seq sz (zs.map g)])::hp1,nid1,df,pn⟩).bind (λs2=>qX s2.tmps λtm=>tR s2.heap λhp=>some (tm,hp))=some (tm',hp'))
  (hf:fpK (Fp.fill (yG X.P ops o ⟨tm,hp,nid,df,pn⟩ (.c (.arr nid zs.length sz))) ⟨tm',hp',nid1,df,pn⟩) (λfp=>qX (pre++[fp]) some)=some pre') (hi:i+1=i')
  (h:nU X ops vs base pre' r i' Q ⟨tm',hp',nid1,df,pn⟩):nU X ops vs base pre (o::r) i Q ⟨tm,hp,nid,df,pn⟩:=by
 rw[ApG,iM,sJ] at hf
 subst hi hf hnid
 rw[Option.bind_eq_some_iff] at hput
 obtain⟨s2,h2,hput⟩:=hput
 rw[iM,pN] at hput
 simp only[sJ,pJ] at hput
 have hs2:=AaM h2
 obtain⟨rfl,rfl⟩:=hput
 rw[←hs2] at h
 have hsp:=Bf5 (X:=X) (df:=df) (pn:=pn) (o:=o) g hy ho hc ha hat ht hx hX hv hV hn hu h0 hb hz hnv h1
 have:AcO X.P o ⟨tm,hp,nid,df,pn⟩=some (.c (.arr nid zs.length sz),⟨tm,(nid,[.seq sz (zs.map g)])::hp1,nid+1,df,pn⟩):=by
  rw[←hsp]
  simp only[AcO,ho,hc,ha,hat,hx]
 exact BdG (s:=⟨tm,hp,nid,df,pn⟩) hw this h2 h
theorem ArI {α:Type} (g:α->D) {xs:List α} {b sz:Nat} (hb:look b hp=some [.seq sz (xs.map g)]):xG hp (.c (.arr b xs.length sz))=some ([b],sz,xs.map g):=by
 simp only[xG,hb,List.length_map,and_self,if_true]
theorem AtJ {α:Type} (g:α->D) {xs ys:List α} {b n sz:Nat} (hy:afrz n xs=some ys) (hb:look b hp=some [.seq sz (xs.map g)]):xG hp (.c (.arr b n sz))=some ([b],sz,ys.map g):=by
 unfold afrz at hy
 split at hy
 ·rename_i hc
  simp only[sJ] at hy; subst hy
  simp only[xG,hb,List.length_map,hc,and_self,if_true]
 simp at hy
theorem BbJ {α:Type} (g:α->D) {sz:Nat}:xG hp (.c (.nilsl sz))=some ([],sz,([]:List α).map g):=rfl
theorem AoF {α:Type} (g:α->D) {sz:Nat}:xG hp (.c (.full sz []))=some ([],sz,([]:List α).map g):=rfl
end
end Go.AM
namespace Go.AM
open Go
inductive BmW (Q:AX->St->Prop):AX->St->Prop where
 |mk {s:St}:Q .normal s->BmW Q .normal s
section
variable {X:Ctx} {f:Nat} {Q:AX->St->Prop} {tm tm':List (Nat×V)} {hp hp':List (Nat×List C)} {nid nid':Nat} {df:List (Nat×List Nat)} {pn:Option D}
end
end Go.AM
namespace Go.AM
open Go
def AgB (P:Program) (o:Oper) (tm:List (Nat×V)) (hp:List (Nat×List C)):Bool:=
 match o.guard with
 |some _=>false
 |none=>match o.op with
  |.index _ _ _|.slice _ _ _ _ _|.indexAddr _ _ _|.makeSlice _ _ _|.lookup _ _ _ _|.insert _ _ _ _|.mapUpdate _ _ _ _|.makeMap _ _|.defer _|.panic _=>false
  |.convert src dst _=>match P.underlying src,P.underlying dst with
   |some (.int _),_=>true
   |some .string,some .string=>true
   |_,_=>false
  |.binOp op t _ y _=>match op with
   |.quo|.rem=>match y with
    |.const (.int _ n)=>n != 0
    |_=>false
   |.add=>match P.underlying t with
    |some .string=>false
    |_=>true
   |.eql|.neq=>match P.underlying t with
    |some (.struct _)=>false
    |_=>true
   |_=>true
  |.load _ a|.store _ a _=>match ev tm a with
   |some (.c (.ptr b _))=>match look b hp with
    |some [.seq _ _]=>false
    |_=>true
   |_=>true
  |.buildSlice t _ _=>match mW P t with
   |some e=>match AhX P e with
    |some true=>false
    |_=>true
   |none=>true
  |.call c=>match c.callee with
   |.builtin .len=>match c.args.toList with
    | [x]=>match ev tm x with
     |some (.c (.d (.str _)))=>true
     |some (.c (.nilsl _))=>true
     |some (.c (.arr _ _ _))=>true
     |_=>false
    |_=>false
   |.builtin .min|.builtin .max=>true
   |_=>false
  |_=>true
def AnR {α:Type} (n:Nat) (k:Nat->α):α:=match n+1 with
 |0=>k n
 |m+1=>k m
theorem wO {α:Type} {n:Nat} {k:Nat->α}:AnR n k=k n:=rfl
def BcK {α:Type} (P:Program):List Oper->List (Nat×V)->List (Nat×List C)->Nat->List (Nat×List Nat)->Option D->(List Oper->List (Nat×V)->List (Nat×List C)->Nat->List (Nat×List Nat)->Option D->Option α)->Option α
 | [],tm,hp,nid,df,pn,k=>k [] tm hp nid df pn
 |o::l,tm,hp,nid,df,pn,k=>match AgB P o tm hp with
  |false=>k (o::l) tm hp nid df pn
  |true=>match yK o with
   |true=>none
   |false=>match cV P Ad4 nid o ⟨tm,hp,nid,df,pn⟩ with
    |some (.val v s',_)=>ApZ o.dst v s'.tmps λtm=>tR s'.heap λhp=>match aR o with
     |true=>AnR (nid+1) λn=>BcK P l tm hp n df pn k
     |false=>BcK P l tm hp nid df pn k
    |_=>none
section
variable {X:Ctx} {f:Nat} {Q:AX->St->Prop} {tm tm':List (Nat×V)} {hp hp':List (Nat×List C)} {nid nid':Nat} {df df':List (Nat×List Nat)} {pn pn':Option D}
theorem AkU {P:Program} {ops:Array Oper} {o:Oper} (h:AgB P o tm hp=true):wantedAt ops tm o=some true:=by
 unfold AgB at h
 split at h
 ·simp at h
 rename_i hg
 simp only[wantedAt,hg]
theorem AeL {α:Type} {ops:Array Oper}:∀{l:List Oper} {tm:List (Nat×V)} {hp:List (Nat×List C)} {nid:Nat} {df:List (Nat×List Nat)} {pn:Option D} {k:List Oper->List (Nat×V)->List (Nat×List C)->Nat->List (Nat×List Nat)->Option D->Option α} {a:α},
  BcK X.P l tm hp nid df pn k=some a->∃l' tm' hp' nid' df' pn',k l' tm' hp' nid' df' pn'=some a/\(pL X ops l' Q ⟨tm',hp',nid',df',pn'⟩->pL X ops l Q ⟨tm,hp,nid,df,pn⟩)
 | [],tm,hp,nid,df,pn,k,a,h=>⟨[],tm,hp,nid,df,pn,h,λh=>h⟩
 |o::l,tm,hp,nid,df,pn,k,a,h=>by
  simp only[BcK] at h
  split at h
  ·exact⟨o::l,tm,hp,nid,df,pn,h,λh=>h⟩
  rename_i hl
  have hw:=AkU (ops:=ops) hl
  split at h
  ·simp at h
  rename_i hd
  split at h
  ·rename_i v s' ft hev
   have hr:=AlO rfl (λ_=>rfl) hev hd
   rw[Al3,pN] at h
   cases hm:aR o with
   |true=>
    simp only[hm,wO] at h hr
    obtain⟨l',tm',hp',nid',df',pn',h1,h2⟩:=AeL h
    refine⟨l',tm',hp',nid',df',pn',h1,λhh=>AjV hw (λcall=>vM hev call) ?_⟩
    have:=h2 hh
    rw[putDst,vH]
    rw[hr] at this ⊢
    exact this
   |false=>
    simp only[hm] at h hr
    obtain⟨l',tm',hp',nid',df',pn',h1,h2⟩:=AeL h
    refine⟨l',tm',hp',nid',df',pn',h1,λhh=>AjV hw (λcall=>vM hev call) ?_⟩
    have:=h2 hh
    rw[putDst,vH]
    rw[hr] at this ⊢
    exact this
  simp at h
theorem onW {ops:Array Oper} {o:Oper} {l l':List Oper} (hl:AgB X.P o tm hp=true) (h:BcK X.P (o::l) tm hp nid df pn ApA=some (l',tm',hp',nid',df',pn')) (hh:pL X ops l' Q ⟨tm',hp',nid',df',pn'⟩):pL X ops (o::l) Q ⟨tm,hp,nid,df,pn⟩:=by
 obtain⟨_,_,_,_,_,_,h1,h2⟩:=AeL (Q:=Q) (ops:=ops) h
 simp only[ApA,sJ,pJ] at h1
 obtain⟨rfl,rfl,rfl,rfl,rfl,rfl⟩:=h1
 exact h2 hh
theorem onF {ops:Array Oper} {o:Oper} {l l':List Oper} (hw:wantedAt ops tm o=some false) (h:Am4 X.P ops 1 (o::l) tm hp nid df pn ApA=some (l',tm',hp',nid',df',pn')) (hh:pL X ops l' Q ⟨tm',hp',nid',df',pn'⟩):pL X ops (o::l) Q ⟨tm,hp,nid,df,pn⟩:=on 1 h hh
theorem onT {ops:Array Oper} {o:Oper} {l l':List Oper} (hw:wantedAt ops tm o=some true) (hl:AgB X.P { o with guard:=none } tm hp=true) (h:Am4 X.P ops 1 (o::l) tm hp nid df pn ApA=some (l',tm',hp',nid',df',pn')) (hh:pL X ops l' Q ⟨tm',hp',nid',df',pn'⟩):pL X ops (o::l) Q ⟨tm,hp,nid,df,pn⟩:=on 1 h hh
theorem rnW {id:Nat} {ops:Array Oper} {l':List Oper} (hz:noF (X.H f id)=true) (h:Ac5 (X.H f id) tm (λtm=>BcK X.P ops.toList tm hp nid df pn ApA)=some (l',tm',hp',nid',df',pn')) (hh:pL X ops l' Q ⟨tm',hp',nid',df',pn'⟩) :
  awp X f (.region id ops false) Q ⟨tm,hp,nid,df,pn⟩:=by
 rw[uB] at h
 refine AoG hz ?_
 obtain⟨_,_,_,_,_,_,h1,h2⟩:=AeL (Q:=Q) (ops:=ops) h
 simp only[ApA,sJ,pJ] at h1
 obtain⟨rfl,rfl,rfl,rfl,rfl,rfl⟩:=h1
 exact h2 hh
def ArS {α:Type} (P:Program) (ops:Array Oper) (vs:List Nat) (base:Nat) (nid:Nat) (df:List (Nat×List Nat)) (pn:Option D):List Oper->Nat->List Fp->List (Nat×V)->List (Nat×List C)->(List Oper->Nat->List Fp->List (Nat×V)->List (Nat×List C)->Option α)->Option α
 | [],i,pre,tm,hp,k=>qX pre λpre=>AnR i λi=>k [] i pre tm hp
 |o::l,i,pre,tm,hp,k=>match AgB P o tm hp with
  |false=>qX pre λpre=>AnR i λi=>k (o::l) i pre tm hp
  |true=>match yK o with
   |true=>none
   |false=>match eI P Ad4 ops vs (base+i) o ⟨tm,hp,nid,df,pn⟩ with
    |some (.val v s1,ft)=>match vG o.dst v s1 with
     |some s2=>qX s2.tmps λtm=>tR s2.heap λhp=>fpK (ft.fill ⟨tm,hp,nid,df,pn⟩) λfp=>ArS P ops vs base nid df pn l (i+1) (pre++[fp]) tm hp k
     |none=>none
    |_=>none
theorem AfO {α:Type} {ops:Array Oper} {vs:List Nat} {base:Nat}:∀{l:List Oper} {i:Nat} {pre:List Fp} {tm:List (Nat×V)} {hp:List (Nat×List C)} {k:List Oper->Nat->List Fp->List (Nat×V)->List (Nat×List C)->Option α} {a:α},
  ArS X.P ops vs base nid df pn l i pre tm hp k=some a->∃l' i' pre' tm' hp',k l' i' pre' tm' hp'=some a/\(nU X ops vs base pre' l' i' Q ⟨tm',hp',nid,df,pn⟩->nU X ops vs base pre l i Q ⟨tm,hp,nid,df,pn⟩)
 | [],i,pre,tm,hp,k,a,h=>by
  simp only[ArS,iM,wO] at h
  exact⟨[],i,pre,_,_,h,λh=>h⟩
 |o::l,i,pre,tm,hp,k,a,h=>by
  simp only[ArS,iM,pN,ApG,wO] at h
  split at h
  ·exact⟨o::l,i,pre,tm,hp,h,λh=>h⟩
  rename_i hl
  have hw:=AkU (ops:=ops) hl
  split at h
  ·simp at h
  rename_i hd
  split at h
  ·rename_i v s1 ft hop
   have hr1:=AmO hop hd
   split at h
   ·rename_i s2 hp
    have hr:s2=⟨s2.tmps,s2.heap,nid,df,pn⟩:=by
     rw[hr1] at hp
     exact AaM hp
    obtain⟨l',i',pre',tm',hp',h1,h2⟩:=AfO h
    refine⟨l',i',pre',tm',hp',h1,λhh=>AvP hw (λcall=>Ai2 hop call) hp ?_⟩
    have:=h2 hh
    rw[←hr] at this
    exact this
   simp at h
  simp at h
theorem BkB {ops:Array Oper} {vs:List Nat} {base i i':Nat} {pre pre':List Fp} {o:Oper} {l l':List Oper} (hl:AgB X.P o tm hp=true) (h:ArS X.P ops vs base nid df pn (o::l) i pre tm hp Ai1=some (l',i',pre',tm',hp'))
  (hh:nU X ops vs base pre' l' i' Q ⟨tm',hp',nid,df,pn⟩):nU X ops vs base pre (o::l) i Q ⟨tm,hp,nid,df,pn⟩:=by
 obtain⟨_,_,_,_,_,h1,h2⟩:=AfO (Q:=Q) h
 simp only[Ai1,sJ,pJ] at h1
 obtain⟨rfl,rfl,rfl,rfl,rfl⟩:=h1
 exact h2 hh
theorem Bk9 {ops:Array Oper} {vs:List Nat} {base i i':Nat} {pre pre':List Fp} {o:Oper} {l l':List Oper} (hw:wantedAt ops tm o=some false) (h:AfM X.P ops vs base nid df pn 1 (o::l) i pre tm hp Ai1=some (l',i',pre',tm',hp'))
 (hh:nU X ops vs base pre' l' i' Q ⟨tm',hp',nid,df,pn⟩):nU X ops vs base pre (o::l) i Q ⟨tm,hp,nid,df,pn⟩:=don 1 h hh
theorem BkA {ops:Array Oper} {vs:List Nat} {base i i':Nat} {pre pre':List Fp} {o:Oper} {l l':List Oper} (hw:wantedAt ops tm o=some true) (hl:AgB X.P { o with guard:=none } tm hp=true) (h:AfM X.P ops vs base nid df pn 1 (o::l) i pre tm hp Ai1=some (l',i',pre',tm',hp'))
 (hh:nU X ops vs base pre' l' i' Q ⟨tm',hp',nid,df,pn⟩):nU X ops vs base pre (o::l) i Q ⟨tm,hp,nid,df,pn⟩:=don 1 h hh
theorem BkD {id i' m:Nat} {ops:Array Oper} {pre':List Fp} {l':List Oper} (hn:AnR (nid+ops.size) some=some m) (hz:(noF (X.H f id)&&!(X.H f id).contains 4999999)=true)
  (h:Ac5 (X.H f id) tm (λtm=>ArS X.P ops (rI ops) nid m df pn ops.toList 0 [] tm hp Ai1)=some (l',i',pre',tm',hp')) (hh:nU X ops (rI ops) nid pre' l' i' Q ⟨tm',hp',m,df,pn⟩) :
  awp X f (.region id ops true) Q ⟨tm,hp,nid,df,pn⟩:=by
 rw[uB] at h
 rw[wO,sJ] at hn
 subst hn
 refine AvS hz ?_
 obtain⟨_,_,_,_,_,h1,h2⟩:=AfO (Q:=Q) h
 simp only[Ai1,sJ,pJ] at h1
 obtain⟨rfl,rfl,rfl,rfl,rfl⟩:=h1
 exact h2 hh
class Ok {α:Type} (e:Option α) (S:outParam (α->Prop)):Prop where
 ok:∀{r},e=some r->S r
theorem Ok.mk' {α β:Type} {g:α->Option β} {M:α->β->Prop} (h:∀a r,g a=some r->M a r):∀a,Ok (g a) (M a):=λa=>⟨λ{r} e=>h a r e⟩
class eP (fn:outParam Func) (n:outParam Nat) (ρ:outParam Type) (E:outParam (ρ->aE)):Prop where
 is:True
theorem BaG {ε α:Type} (y:Except ε α):(∃e,y=.error e)\/∃a,y=.ok a:=by
 cases y with
 |error e=>exact .inl ⟨e,rfl⟩
 |ok a=>exact .inr ⟨a,rfl⟩
theorem AnU {o:Oper} {c:Go.Call} {fo:Operand} {g:Nat} {caps ids:List Nat} {args args' args'':List C} {lh lh' lh'':List (List C)} {v v':V} (hv:aval X g args'' lh (.ret v lh'))
  (ho:o.op=.call c) (hc:c.callee=.value fo) (hf:ev tm fo=some (.c (.fn g caps)))
  (ha:oM X.P tm c.args.toList c.argTypes.toList=some args) (hr:rH hp 64 ((args++caps.map λb=>C.ptr b 0).flatMap C.ids) []=some ids) (hi:aZ (C.into ids) (args++caps.map λb=>.ptr b 0)=some args')
  (hst:args'.map C.still=args'') (hH:(X.H g 999999).isEmpty=true)
  (hb:oO hp ids=some lh) (hk:aZ (aZ (C.back (ids++bE nid (lh'.length-ids.length)))) lh'=some lh'') (hv':V.back (ids++bE nid (lh'.length-ids.length)) v=some v') (hn:AnR (nid+(lh'.length-ids.length)) some=some nid') :
  EvO X o ⟨tm,hp,nid,df,pn⟩ v' ⟨unviewIn (ids++bE nid (lh'.length-ids.length)) tm,dO (ids++bE nid (lh'.length-ids.length)) lh'' hp,nid',df,pn⟩ ⟨ids,ids,[]⟩:=
 Ag2 hv ho hc hf ha hr hi hst hH hb hk hv' (by rw[wO,sJ] at hn; exact hn)
theorem AwB {o:Oper} {c:Go.Call} {fo:Operand} {g:Nat} {caps ids:List Nat} {args args':List C} {lh lh' lh'':List (List C)} {v v':V} (hv:aval X g args' lh (.ret v lh'))
  (ho:o.op=.call c) (hc:c.callee=.value fo) (hf:ev tm fo=some (.c (.fn g caps)))
  (ha:oM X.P tm c.args.toList c.argTypes.toList=some args) (hr:rH hp 64 ((args++caps.map λb=>C.ptr b 0).flatMap C.ids) []=some ids) (hi:aZ (C.into ids) (args++caps.map λb=>.ptr b 0)=some args')
  (hb:oO hp ids=some lh) (hk:aZ (aZ (C.back (ids++bE nid (lh'.length-ids.length)))) lh'=some lh'') (hv':V.back (ids++bE nid (lh'.length-ids.length)) v=some v') (hn:AnR (nid+(lh'.length-ids.length)) some=some nid') :
  EvO X o ⟨tm,hp,nid,df,pn⟩ v' ⟨unviewIn (ids++bE nid (lh'.length-ids.length)) tm,dO (ids++bE nid (lh'.length-ids.length)) lh'' hp,nid',df,pn⟩ ⟨ids,ids,[]⟩:=
 Bg8 hv ho hc hf ha hr hi hb hk hv' (by rw[wO,sJ] at hn; exact hn)
theorem BmX {ops:Array Oper} {o:Oper} {l:List Oper} {t:TypeId} (ho:o.op=.makeMap t none) (hw:wantedAt ops tm o=some true) (hv:noView nid tm=true)
  (hk:ApZ o.dst (.c (.mp nid)) tm (λtm=>some tm)=some tm') (hn:AnR (nid+1) some=some nid') (h:pL X ops l Q ⟨tm',(nid,[.mdat []])::hp,nid',df,pn⟩):pL X ops (o::l) Q ⟨tm,hp,nid,df,pn⟩:=
 pmk ho hw hv hk (by rw[wO,sJ] at hn; exact hn) h
theorem BgA {α:Type} (g:α->D) (z:α) {xs:List α} {n:Int} {o:Oper} {t e:TypeId} {l c:Operand} {k k':IntKind} {sz:Nat} (hy:mkarr n z=some xs) (ho:o.op=.makeSlice t l c) (hs:qT l c=true) (ht:mW X.P t=some e)
  (hl:ev tm l=some (.c (.d (.int k n)))) (hc:ev tm c=some (.c (.d (.int k' n)))) (hz:((AcP X.P e).map (AnK X.P e)).bind V.toD=some (g z)) (hk:tsz X.P e=some sz) (hb:Nat.ble (X.P.bytesOf e) 1024=true) (hzl:(g z).cells.length=sz) (h0:Nat.ble 1 sz=true) (hnv:noView nid tm=true) (hn:AnR (nid+1) some=some nid') :
  EvO X o ⟨tm,hp,nid,df,pn⟩ (.c (.arr nid n.toNat sz)) ⟨tm,(nid,[.seq sz (xs.map g)])::hp,nid',df,pn⟩ eR.none:=
 AlM g z hy ho hs ht hl hc hz hk hb hzl h0 hnv (by rw[wO,sJ] at hn; exact hn)
theorem BgB {zd:D} {y:Unit} {m:Int} {o:Oper} {t e:TypeId} {l c:Operand} {k k':IntKind} {sz:Nat} (hy:mkcap m=some y) (ho:o.op=.makeSlice t l c) (hs:qT l c=false) (ht:mW X.P t=some e)
 (hl:ev tm l=some (.c (.d (.int k 0)))) (hc:ev tm c=some (.c (.d (.int k' m)))) (hz:((AcP X.P e).map (AnK X.P e)).bind V.toD=some zd) (hk:tsz X.P e=some sz) (hb:Nat.ble (X.P.bytesOf e) 1024=true) (hzl:zd.cells.length=sz) (h0:Nat.ble 1 sz=true) :
 EvO X o ⟨tm,hp,nid,df,pn⟩ (.c (.own sz [])) ⟨tm,hp,nid,df,pn⟩ eR.none:=BiN id hy ho hs ht hl hc hz hk hb hzl h0
theorem BjT {o:Oper} {s s1:St} {ft:eR} {n:Nat} {a:Arr} (h:EvO X o s (.c (.full n [aI a])) s1 ft):EvO X o s (.c (.full n ([a].map aY))) s1 ft:=by simpa only [List.map_cons,List.map_nil,qH] using h
theorem BjV {o:Oper} {s s1:St} {ft:eR} {n:Nat} {a b:Arr} (h:EvO X o s (.c (.full n [aI a,aI b])) s1 ft):EvO X o s (.c (.full n ([a,b].map aY))) s1 ft:=by simpa only [List.map_cons,List.map_nil,qH] using h
theorem BjU {o:Oper} {s s1:St} {ft:eR} {n:Nat} {a:Node} (h:EvO X o s (.c (.full n [encNode a])) s1 ft):EvO X o s (.c (.full n ([a].map rB))) s1 ft:=by simpa only [List.map_cons,List.map_nil,vL] using h
theorem BjW {o:Oper} {s s1:St} {ft:eR} {n:Nat} {a b:Node} (h:EvO X o s (.c (.full n [encNode a,encNode b])) s1 ft):EvO X o s (.c (.full n ([a,b].map rB))) s1 ft:=by simpa only [List.map_cons,List.map_nil,vL] using h
theorem BkE {o:Oper} {s s1:St} {ft:eR} {n:Nat} {a b c:Node} (h:EvO X o s (.c (.full n [encNode a,encNode b,encNode c])) s1 ft):EvO X o s (.c (.full n ([a,b,c].map rB))) s1 ft:=by simpa only [List.map_cons,List.map_nil,vL] using h
def AftO (X:Ctx) (ops:Array Oper) (o:Oper) (l:List Oper) (Q:AX->St->Prop) (s:St) (v:V) (s1:St) (ft:eR):Prop:=EvO X o s v s1 ft->pL X ops (o::l) Q s
theorem po1 {ops:Array Oper} {o:Oper} {l:List Oper} {v:V} {tm1:List (Nat×V)} {hp1:List (Nat×List C)} {ft:eR} {nid1:Nat} (hop:EvO X o ⟨tm,hp,nid,df,pn⟩ v ⟨tm1,hp1,nid1,df,pn⟩ ft) (h:AftO X ops o l Q ⟨tm,hp,nid,df,pn⟩ v ⟨tm1,hp1,nid1,df,pn⟩ ft):pL X ops (o::l) Q ⟨tm,hp,nid,df,pn⟩:=h hop
theorem po2 {ops:Array Oper} {o:Oper} {l:List Oper} {v:V} {tm1:List (Nat×V)} {hp1:List (Nat×List C)} {ft:eR} {nid1:Nat} (hw:wantedAt ops tm o=some true) (hk:ApZ o.dst v tm1 (λtm=>tR hp1 λhp=>some (tm,hp))=some (tm',hp')) (h:pL X ops l Q ⟨tm',hp',nid1,df,pn⟩) :
 AftO X ops o l Q ⟨tm,hp,nid,df,pn⟩ v ⟨tm1,hp1,nid1,df,pn⟩ ft:=λhop=>po hop hw hk h
def BjE (X:Ctx) (ops:Array Oper) (vs:List Nat) (base:Nat) (pre:List Fp) (o:Oper) (l:List Oper) (i:Nat) (Q:AX->St->Prop) (s:St) (v:V) (s1:St) (ft:eR):Prop:=EvO X o s v s1 ft->nU X ops vs base pre (o::l) i Q s
theorem pd1 {ops:Array Oper} {vs:List Nat} {base i:Nat} {pre:List Fp} {o:Oper} {l:List Oper} {v:V} {tm1:List (Nat×V)} {hp1:List (Nat×List C)} {ft:eR} {nid1:Nat} (hop:EvO X o ⟨tm,hp,nid,df,pn⟩ v ⟨tm1,hp1,nid1,df,pn⟩ ft)
 (h:BjE X ops vs base pre o l i Q ⟨tm,hp,nid,df,pn⟩ v ⟨tm1,hp1,nid1,df,pn⟩ ft):nU X ops vs base pre (o::l) i Q ⟨tm,hp,nid,df,pn⟩:=h hop
theorem pd2 {ops:Array Oper} {vs:List Nat} {base i i':Nat} {pre pre':List Fp} {o:Oper} {l:List Oper} {v:V} {tm1:List (Nat×V)} {hp1:List (Nat×List C)} {ft:eR} {nid1:Nat} (hw:wantedAt ops tm o=some true) (hm:aR o=false)
 (hk:(vG o.dst (gS vs o.dst v) (afterApp o ⟨tm1,hp1,nid1,df,pn⟩)).bind (λs2=>qX s2.tmps λtm=>tR s2.heap λhp=>some (tm,hp))=some (tm',hp'))
 (hf:fpK ((rC ops o ⟨tm,hp,nid,df,pn⟩ (gS vs o.dst v) ⟨tm1,hp1,nid1,df,pn⟩ ft).fill ⟨tm',hp',nid1,df,pn⟩) (λfp=>qX (pre++[fp]) some)=some pre') (hi:AnR (i+1) some=some i')
 (h:nU X ops vs base pre' l i' Q ⟨tm',hp',nid1,df,pn⟩):BjE X ops vs base pre o l i Q ⟨tm,hp,nid,df,pn⟩ v ⟨tm1,hp1,nid1,df,pn⟩ ft:=λhop=>pd hop hw hm hk hf (by rw[wO,sJ] at hi; exact hi) h
class Jn (f kd key:Nat) (σ:Type) where
 tp:σ->List (Nat×V)
 cp:σ->List (Nat×List (Nat×C))
def jT (ps:List (Nat×V)) (tm:List (Nat×V)):List Nat->List (Nat×V)
 | []=>[]
 |t::r=>match look t ps with
  |some v=>(t,v)::jT ps tm r
  |none=>match look t tm with
   |some v=>(t,v.calm)::jT ps tm r
   |none=>jT ps tm r
def jC:List (Nat×C)->List C->List C
 | [],cs=>cs
 |(o,c)::r,cs=>jC r (cs.set o c)
def jH (ps:List (Nat×List (Nat×C))) (n:Nat):List (Nat×List C)->List (Nat×List C)
 | []=>[]
 |(b,cs)::r=>match Nat.blt b n with
  |true=>match look b ps with
   |some l=>(b,jC l cs)::jH ps n r
   |none=>(b,cs)::jH ps n r
  |false=>jH ps n r
def stJ {σ:Type} (tp:σ->List (Nat×V)) (cp:σ->List (Nat×List (Nat×C))) (ks:List Nat) (n:Nat) (tm:List (Nat×V)) (hp:List (Nat×List C)) (df:List (Nat×List Nat)) (pn:Option D) (y:σ):St:=
 ⟨jT (tp y) tm ks,jH (cp y) n hp,n,df,pn⟩
def Az3 {α:Type} (c:C) (k:C->α):α:=match c with
 |.d x=>k (.d x)
 |.own n xs=>k (.own n xs)
 |.ptr b o=>k (.ptr b o)
 |.nilptr=>k .nilptr
 |.fn f l=>k (.fn f l)
 |.nilfn=>k .nilfn
 |.bfn f x=>k (.bfn f x)
 |.nilmap=>k .nilmap
 |.nilchan=>k .nilchan
 |.nilsl n=>k (.nilsl n)
 |.full n xs=>k (.full n xs)
 |.arr b n s=>k (.arr b n s)
 |.mp b=>k (.mp b)
 |.ment l=>k (.ment l)
 |.mdat l=>k (.mdat l)
 |.seq n l=>k (.seq n l)
 |.hid=>k .hid
 |.undef=>k .undef
theorem AsC {α:Type} {c:C} {k:C->α}:Az3 c k=k c:=by cases c<;>rfl
def Az4 {α:Type} (v:V) (k:V->α):α:=match v with
 |.c x=>Az3 x λx=>k (.c x)
 |.view l n xs=>k (.view l n xs)
 |.rptr cs=>k (.rptr cs)
 |.vagg cs=>k (.vagg cs)
 |.tuple cs=>k (.tuple cs)
theorem Bc6 {α:Type} {v:V} {k:V->α}:Az4 v k=k v:=by cases v<;>simp only[Az4,AsC]
def ApF {α:Type}:List (Nat×V)->(List (Nat×V)->α)->α
 | [],k=>k []
 |(t,v)::r,k=>Az4 v λv=>ApF r λr=>k ((t,v)::r)
theorem AlU {α:Type}:∀{l:List (Nat×V)} {k:List (Nat×V)->α},ApF l k=k l
 | [],_=>rfl
 |(t,v)::r,k=>by simp only[ApF,Bc6,AlU]
def AnV {α:Type}:List C->(List C->α)->α
 | [],k=>k []
 |c::r,k=>Az3 c λc=>AnV r λr=>k (c::r)
theorem ApD {α:Type}:∀{l:List C} {k:List C->α},AnV l k=k l
 | [],_=>rfl
 |c::r,k=>by simp only[AnV,AsC,ApD]
def ApE {α:Type}:List (Nat×List C)->(List (Nat×List C)->α)->α
 | [],k=>k []
 |(b,cs)::r,k=>AnV cs λcs=>ApE r λr=>k ((b,cs)::r)
theorem AlT {α:Type}:∀{l:List (Nat×List C)} {k:List (Nat×List C)->α},ApE l k=k l
 | [],_=>rfl
 |(b,cs)::r,k=>by simp only[ApE,ApD,AlT]
theorem nfQ {s:St} (hn:ApF s.tmps (λtm=>ApE s.heap λhp=>AnR s.nid λn=>some (tm,hp,n))=some (tm',hp',nid')) (h:Q .normal ⟨tm',hp',nid',s.defers,s.pan⟩):Q .normal s:=by
 rw[AlU,AlT,wO] at hn
 simp only[sJ,pJ] at hn
 obtain⟨rfl,rfl,rfl⟩:=hn
 exact h
theorem nJb {σ:Type} {y:σ} {id k0:Nat} {ks:List Nat} {c:Code} [J:Jn f 0 id σ] (hk:X.H f (1000000+id)=k0::ks) (h1:awp X f (.block id c) (iW (stJ J.tp J.cp ks nid tm hp df pn) y) ⟨tm,hp,nid,df,pn⟩) (h2:Q .normal (stJ J.tp J.cp ks nid tm hp df pn y)) :
 awp X f (.block id c) Q ⟨tm,hp,nid,df,pn⟩:=by exact hU _ h1 h2
theorem nJc {σ:Type} {y:σ} {t k0:Nat} {ks:List Nat} {a b:Code} [J:Jn f 1 t σ] (hk:X.H f (uS a b)=k0::ks) (h1:awp X f (.cond (.tmp t) a b) (iW (stJ J.tp J.cp ks nid tm hp df pn) y) ⟨tm,hp,nid,df,pn⟩) (h2:Q .normal (stJ J.tp J.cp ks nid tm hp df pn y)) :
 awp X f (.cond (.tmp t) a b) Q ⟨tm,hp,nid,df,pn⟩:=by exact hU _ h1 h2
theorem sJb {fn:Func} {n:Nat} {ρ σ:Type} {E:ρ->aE} [eP fn n ρ E] {res:Except ρ σ} {id k0:Nat} {ks:List Nat} {c:Code} [J:Jn f 0 id σ] (hk:X.H f (1000000+id)=k0::ks)
  (h1:awp X f (.block id c) (jY X fn n E (stJ J.tp J.cp ks nid tm hp df pn) res) ⟨tm,hp,nid,df,pn⟩) (h2:∀y,res=.ok y->Q .normal (stJ J.tp J.cp ks nid tm hp df pn y))
  (h3:∀r x s',res=.error r->x.isOut=true->xH X fn n (E r) x s'->Q x s'):awp X f (.block id c) Q ⟨tm,hp,nid,df,pn⟩:=by
 exact uQ fn n E _ h1 h2 h3
theorem sJc {fn:Func} {n:Nat} {ρ σ:Type} {E:ρ->aE} [eP fn n ρ E] {res:Except ρ σ} {t k0:Nat} {ks:List Nat} {a b:Code} [J:Jn f 1 t σ] (hk:X.H f (uS a b)=k0::ks)
  (h1:awp X f (.cond (.tmp t) a b) (jY X fn n E (stJ J.tp J.cp ks nid tm hp df pn) res) ⟨tm,hp,nid,df,pn⟩) (h2:∀y,res=.ok y->Q .normal (stJ J.tp J.cp ks nid tm hp df pn y))
  (h3:∀r x s',res=.error r->x.isOut=true->xH X fn n (E r) x s'->Q x s'):awp X f (.cond (.tmp t) a b) Q ⟨tm,hp,nid,df,pn⟩:=by
 exact uQ fn n E _ h1 h2 h3
theorem nL {σ:Type} {y:σ} {st:σ->St} {id:Nat} {c:Code} {s s1:St} {clean:St->Option St} {hk:List Nat} {n:Nat} (hv:cG X f c clean (aK id hk n (iW st y)) s1) (hc:clean s=some s1) (hc1:clean s1=some s1) (he:X.H f (1000000+id)=hk) (hcl:aH (X.H f (kR c)) s.nid=clean) (hn:s.nid=n)
  (h2:Q .normal (st y)):awp X f (.block id (.loop c)) Q s:=by
 subst he hcl hn
 exact hU st (xQ (eH (cB hc hc1 hv))) h2
theorem sL {fn:Func} {m:Nat} {ρ σ:Type} {E:ρ->aE} {res:Except ρ σ} {st:σ->St} {id:Nat} {c:Code} {s s1:St} {clean:St->Option St} {hk:List Nat} {n:Nat} (hv:cG X f c clean (aK id hk n (jY X fn m E st res)) s1) (hc:clean s=some s1) (hc1:clean s1=some s1) (he:X.H f (1000000+id)=hk) (hcl:aH (X.H f (kR c)) s.nid=clean) (hn:s.nid=n)
  (h2:∀y,res=.ok y->Q .normal (st y)) (h3:∀r x s',res=.error r->x.isOut=true->xH X fn m (E r) x s'->Q x s'):awp X f (.block id (.loop c)) Q s:=by
 subst he hcl hn
 exact uQ fn m E st (xQ (eH (cB hc hc1 hv))) h2 h3
theorem xL {i:Nat} {hk':List Nat} {n':Nat} {ρ σ:Type} {res:Except ρ σ} {st1:ρ->St} {st:σ->St} {id:Nat} {c:Code} {s s1:St} {clean:St->Option St} {hk:List Nat} {n:Nat} (hv:cG X f c clean (aK id hk n (BbF i hk' n' st1 st res)) s1) (hc:clean s=some s1) (hc1:clean s1=some s1) (he:X.H f (1000000+id)=hk) (hcl:aH (X.H f (kR c)) s.nid=clean) (hn:s.nid=n)
  (h2:∀y,res=.ok y->Q .normal (st y)) (h3:∀y s',res=.error y->yM hk' n' s'=some (st1 y)->Q (.exit i) s'):awp X f (.block id (.loop c)) Q s:=by
 subst he hcl hn
 exact Ba6 i hk' n' st1 st (xQ (eH (cB hc hc1 hv))) h2 h3
theorem aB {fn:Func} {code:Code} {args args':List C} {lh:List (List C)} {ρ:Type} (E:ρ->aE) {r:ρ} {n:Nat} (hE:X.E f=none) (hf:X.P.funcs[f]?=some fn) (hb:fn.body=some code) (hst:(if (X.H f 999999).isEmpty then args.map C.still else args)=args') (hl:args'.length=fn.params.size+fn.nfree)
  (hn:AnR lh.length some=some n) (ht:ApF (nT 0 (args'.map λc=>V.c c.plain)) (λtm=>ApE (nT 0 lh) λhp=>some (tm,hp))=some (tm,hp)) (hlow:Nat.blt f yZ=true) (h:eP fn n ρ E->awp X f code (xH X fn n (E r)) ⟨tm,hp,n,[],none⟩):aval X f args lh (E r):=by
 rw[AlU,AlT] at ht
 rw[wO,sJ] at hn
 simp only[sJ,pJ] at ht
 exact lK hE hf hb hst hl ht.1 ht.2 hn (h ⟨trivial⟩) hlow
end
end Go.AM
namespace Go.AM
open Go
def BdF (X:Ctx) (f:Nat) (o:Operand) (a b:Code) (Q:AX->St->Prop) (s:St):Prop:=awp X f (.cond o a b) Q s
section
variable {X:Ctx} {f:Nat} {Q:AX->St->Prop} {tm tm':List (Nat×V)} {hp hp':List (Nat×List C)} {nid nid':Nat} {df df':List (Nat×List Nat)} {pn pn':Option D}
theorem ctC {o:Operand} {a b:Code} {c:Bool} (hc:ev tm o=some (.c (.d (.bool c)))) (e:c=true) (h:awp X f a (fQ (X.H f (uS a b)) nid Q) ⟨tm,hp,nid,df,pn⟩):BdF X f o a b Q ⟨tm,hp,nid,df,pn⟩:=ct hc e h
theorem cfC {o:Operand} {a b:Code} {c:Bool} (hc:ev tm o=some (.c (.d (.bool c)))) (e:c=false) (h:awp X f b (fQ (X.H f (uS a b)) nid Q) ⟨tm,hp,nid,df,pn⟩):BdF X f o a b Q ⟨tm,hp,nid,df,pn⟩:=cf hc e h
theorem jnb {σ:Type} {y:σ} {id k0:Nat} {ks:List Nat} {c:Code} [J:Jn f 0 id σ] (hk:X.H f (1000000+id)=k0::ks) (h1:awp X f c (aK id (X.H f (1000000+id)) nid (iW (stJ J.tp J.cp ks nid tm hp df pn) y)) ⟨tm,hp,nid,df,pn⟩) (h2:Q .normal (stJ J.tp J.cp ks nid tm hp df pn y)) :
 awp X f (.block id c) Q ⟨tm,hp,nid,df,pn⟩:=nJb hk (xQ h1) h2
theorem jnc {σ:Type} {y:σ} {t k0:Nat} {ks:List Nat} {a b:Code} [J:Jn f 1 t σ] (hk:X.H f (uS a b)=k0::ks) (h1:BdF X f (.tmp t) a b (iW (stJ J.tp J.cp ks nid tm hp df pn) y) ⟨tm,hp,nid,df,pn⟩) (h2:Q .normal (stJ J.tp J.cp ks nid tm hp df pn y)) :
 awp X f (.cond (.tmp t) a b) Q ⟨tm,hp,nid,df,pn⟩:=nJc hk h1 h2
theorem jsb {fn:Func} {n:Nat} {ρ σ:Type} {E:ρ->aE} [eP fn n ρ E] {res:Except ρ σ} {id k0:Nat} {ks:List Nat} {c:Code} [J:Jn f 0 id σ] (hk:X.H f (1000000+id)=k0::ks)
 (h1:awp X f c (aK id (X.H f (1000000+id)) nid (jY X fn n E (stJ J.tp J.cp ks nid tm hp df pn) res)) ⟨tm,hp,nid,df,pn⟩) (h2:∀y,res=.ok y->Q .normal (stJ J.tp J.cp ks nid tm hp df pn y))
 (h3:∀r x s',res=.error r->x.isOut=true->xH X fn n (E r) x s'->Q x s'):awp X f (.block id c) Q ⟨tm,hp,nid,df,pn⟩:=sJb hk (xQ h1) h2 h3
theorem jsc {fn:Func} {n:Nat} {ρ σ:Type} {E:ρ->aE} [eP fn n ρ E] {res:Except ρ σ} {t k0:Nat} {ks:List Nat} {a b:Code} [J:Jn f 1 t σ] (hk:X.H f (uS a b)=k0::ks)
 (h1:BdF X f (.tmp t) a b (jY X fn n E (stJ J.tp J.cp ks nid tm hp df pn) res) ⟨tm,hp,nid,df,pn⟩) (h2:∀y,res=.ok y->Q .normal (stJ J.tp J.cp ks nid tm hp df pn y))
 (h3:∀r x s',res=.error r->x.isOut=true->xH X fn n (E r) x s'->Q x s'):awp X f (.cond (.tmp t) a b) Q ⟨tm,hp,nid,df,pn⟩:=sJc hk h1 h2 h3
end
theorem Wk {p:Prop} (w:p:=by
 repeat' first
 |(subst hz; first|refine nfQ rfl ?_|skip)
 |(show awp _ _ _ _ _; first
    |refine AtN ?_
    |refine rnW rfl rfl ?_
    |refine BkD rfl rfl rfl ?_
    |refine Ba7 ?_
    |refine AvT ?_
    |refine AvU ?_
    |refine ct rfl rfl ?_
    |refine cf rfl rfl ?_
    |(rcases AkR h with ⟨hc,h⟩|⟨hc,h⟩<;>first|refine ct rfl hc ?_|refine cf rfl hc ?_)
    |refine ArL ?_
    |refine ArK ?_
    |(obtain⟨y,hk,h⟩:=AfK h
      have hv:=Ok.ok hk
      first
      |refine nL hv rfl rfl rfl rfl rfl (nfQ rfl ?_)
      |refine sL hv rfl rfl rfl rfl rfl (λz hz=>?_) (λr x s' hz hx he=>?_)
      |refine xL hv rfl rfl rfl rfl rfl (λz hz=>?_) (λz s' hz hS=>?_))
    |(obtain⟨y,hs,h⟩:=AfK h
      first
      |refine jnb (y:=y) rfl ((λh=>?_) hs) (nfQ rfl ?_)
      |refine jnc (y:=y) rfl ((λh=>?_) hs) (nfQ rfl ?_)
      |refine jsb (res:=y) rfl ((λh=>?_) hs) (λz hz=>?_) (λr x s' hz hx he=>?_)
      |refine jsc (res:=y) rfl ((λh=>?_) hs) (λz hz=>?_) (λr x s' hz hx he=>?_))
    |refine xQ ?_)
 |(show BdF _ _ _ _ _ _ _; (rcases AkR h with ⟨hc,h⟩|⟨hc,h⟩<;>first|refine ctC rfl hc ?_|refine cfC rfl hc ?_))
 |(show pL _ _ _ _ _; first
    |refine AjU ?_
    |refine onW rfl rfl ?_
    |refine onF rfl rfl ?_
    |refine onT rfl rfl rfl ?_
    |(rcases AkR h with ⟨hc,h⟩|⟨hc,h⟩<;>first|refine gt rfl rfl rfl rfl hc rfl ?_|refine gf rfl rfl rfl rfl hc rfl ?_)
    |refine po1 (nC rfl rfl rfl rfl rfl rfl rfl) ?_
    |refine po1 (BjT (zK rfl)) ?_
    |refine po1 (BjV (zK rfl)) ?_
    |refine po1 (BjU (zK rfl)) ?_
    |refine po1 (BjW (zK rfl)) ?_
    |refine po1 (BkE (zK rfl)) ?_
    |refine po1 (BhK rfl rfl rfl rfl rfl rfl) ?_
    |refine po1 (BhR (by kernel_rfl) rfl rfl rfl rfl rfl) ?_
    |refine po1 (BhS (by kernel_rfl) rfl rfl rfl rfl rfl) ?_
    |refine po1 (Be7 _ rfl rfl rfl rfl rfl rfl rfl) ?_
    |refine po1 (Be6 _ rfl rfl rfl rfl rfl rfl rfl) ?_
    |refine po1 (AwC (AqA _) (.inl rfl) rfl rfl rfl rfl rfl rfl) ?_
    |refine po1 (AwC (AqA _) (.inr rfl) rfl rfl rfl rfl rfl rfl) ?_
    |refine po1 (AwC (Aq9 _) (.inl rfl) rfl rfl rfl rfl rfl rfl) ?_
    |refine po1 (AwC (Aq9 _) (.inr rfl) rfl rfl rfl rfl rfl rfl) ?_
    |refine BmX rfl rfl rfl rfl rfl ?_
    |(obtain⟨y,hk,h⟩:=AfK h
      first
      |(have hv:=Ok.ok hk
        first
        |refine po1 (oA hv rfl rfl rfl rfl rfl rfl rfl rfl rfl) ?_
        |refine po1 (AnU hv rfl rfl rfl rfl rfl rfl rfl rfl rfl rfl rfl rfl) ?_
        |refine po1 (Be3 hv rfl rfl rfl rfl rfl rfl rfl) ?_
        |refine po1 (AwB hv rfl rfl rfl rfl rfl rfl rfl rfl rfl rfl) ?_
        |refine po1 (Be4 hv rfl rfl rfl rfl rfl rfl rfl rfl rfl) ?_
        |(rcases BaG y with ⟨e,rfl⟩|⟨y,rfl⟩<;>first
           |refine pp (Az1 hv rfl rfl rfl rfl rfl rfl rfl rfl rfl rfl) rfl rfl ?_
           |refine po1 (oA hv rfl rfl rfl rfl rfl rfl rfl rfl rfl) ?_
           |refine po1 (AnU hv rfl rfl rfl rfl rfl rfl rfl rfl rfl rfl rfl rfl) ?_))
      |refine po1 (nB aI qH hk rfl rfl rfl rfl rfl) ?_
      |refine po1 (nB encNode vL hk rfl rfl rfl rfl rfl) ?_
      |refine po1 (nB _ (λ_=>rfl) hk rfl rfl rfl rfl rfl) ?_
      |refine po1 (BhP hk rfl rfl rfl rfl) ?_
      |refine po1 (Ag1 hk rfl rfl rfl rfl rfl rfl rfl rfl rfl rfl rfl rfl rfl rfl) ?_
      |refine po1 (BhJ hk rfl rfl rfl rfl rfl rfl rfl rfl rfl rfl rfl rfl) ?_
      |refine po1 (AwA hk rfl rfl rfl rfl rfl rfl rfl rfl rfl rfl rfl rfl) ?_
      |refine po1 (Aw9 hk rfl rfl rfl rfl rfl rfl rfl rfl rfl rfl rfl rfl) ?_
      |refine po1 (BaF hk rfl rfl rfl rfl rfl rfl rfl rfl rfl rfl rfl rfl rfl) ?_
      |refine po1 (As6 hk rfl rfl rfl rfl rfl rfl rfl) ?_
      |refine po1 (AlL hk rfl rfl rfl rfl rfl rfl) ?_
      |refine po1 (Bg9 hk rfl rfl rfl rfl rfl rfl) ?_
      |refine po1 (Be5 hk rfl rfl rfl rfl rfl rfl rfl) ?_
      |refine po1 (BhQ hk rfl rfl rfl rfl rfl) ?_
      |refine po1 (Be8 hk rfl rfl rfl rfl) ?_
      |refine po1 (BjY hk rfl rfl rfl rfl) ?_
      |refine po1 (BhO hk rfl rfl rfl) ?_
      |refine po1 (AcW hk rfl rfl rfl rfl rfl) ?_
      |refine po1 (BjX _ hk rfl rfl rfl (λ_=>⟨rfl,rfl,rfl⟩) (λ_=>rfl) rfl rfl) ?_
      |refine po1 (AqY _ hk rfl rfl (λ_=>⟨rfl,rfl,rfl⟩) rfl rfl) ?_
      |refine po1 (est _ hk rfl rfl (λ_=>⟨rfl,rfl,rfl⟩) rfl rfl rfl rfl) ?_
      |refine po1 (BgA _ _ hk rfl rfl rfl rfl rfl rfl rfl rfl rfl rfl rfl rfl) ?_
      |refine po1 (BgB hk rfl rfl rfl rfl rfl rfl rfl rfl rfl rfl) ?_
      |refine po1 (BhL _ hk rfl rfl rfl rfl rfl rfl rfl rfl rfl rfl) ?_
      |refine po1 (BhM hk rfl rfl rfl) ?_
      |refine po1 (BhN hk rfl rfl rfl) ?_
      |refine po1 (BgE hk rfl rfl rfl rfl rfl rfl) ?_
      |refine po1 (Ag1 hk (show List.map AbQ _=List.map (D.int .u8) (List.map u8I _) from by rw[List.map_map]; rfl) rfl rfl rfl rfl rfl rfl rfl rfl rfl rfl rfl rfl rfl) ?_
      |refine po1 (AwA hk (show List.map AbQ _=List.map (D.int .u8) (List.map u8I _) from by rw[List.map_map]; rfl) rfl rfl rfl rfl rfl rfl rfl rfl rfl rfl rfl) ?_
      |refine po1 (BaF hk (show List.map AbQ _=List.map (D.int .u8) (List.map u8I _) from by rw[List.map_map]; rfl) rfl rfl rfl rfl rfl rfl rfl rfl rfl rfl rfl rfl) ?_)
    |refine on 1 rfl ?_)
 |(show nU _ _ _ _ _ _ _ _ _; first
    |refine dz' (by kernel_rfl) ?_
    |refine BkB rfl rfl ?_
    |refine Bk9 rfl rfl ?_
    |refine BkA rfl rfl rfl ?_
    |(rcases AkR h with ⟨hc,h⟩|⟨hc,h⟩<;>first|refine dgt rfl rfl rfl rfl hc rfl ?_|refine dgf rfl rfl rfl rfl hc rfl ?_)
    |refine pd1 (nC rfl rfl rfl rfl rfl rfl rfl) ?_
    |refine pd1 (BjT (zK rfl)) ?_
    |refine pd1 (BjV (zK rfl)) ?_
    |refine pd1 (BjU (zK rfl)) ?_
    |refine pd1 (BjW (zK rfl)) ?_
    |refine pd1 (BhK rfl rfl rfl rfl rfl rfl) ?_
    |refine pd1 (BhR (by kernel_rfl) rfl rfl rfl rfl rfl) ?_
    |refine pd1 (BhS (by kernel_rfl) rfl rfl rfl rfl rfl) ?_
    |refine pd1 (AwC (Aq9 _) (.inr rfl) rfl rfl rfl rfl rfl rfl) ?_
    |refine pd1 (AwC (Aq9 _) (.inl rfl) rfl rfl rfl rfl rfl rfl) ?_
    |refine pd1 (AwC (AqA _) (.inr rfl) rfl rfl rfl rfl rfl rfl) ?_
    |refine pd1 (AwC (AqA _) (.inl rfl) rfl rfl rfl rfl rfl rfl) ?_
    |refine pd1 (Be6 _ rfl rfl rfl rfl rfl rfl rfl) ?_
    |refine pd1 (Be7 _ rfl rfl rfl rfl rfl rfl rfl) ?_
    |(obtain⟨y,hk,h⟩:=AfK h
      first
      |(have hv:=Ok.ok hk
        first
        |refine pd1 (oA hv rfl rfl rfl rfl rfl rfl rfl rfl rfl) ?_
        |refine pd1 (AnU hv rfl rfl rfl rfl rfl rfl rfl rfl rfl rfl rfl rfl) ?_
        |refine pd1 (Be3 hv rfl rfl rfl rfl rfl rfl rfl) ?_
        |refine pd1 (AwB hv rfl rfl rfl rfl rfl rfl rfl rfl rfl rfl) ?_
        |refine pd1 (Be4 hv rfl rfl rfl rfl rfl rfl rfl rfl rfl) ?_
        |(rcases BaG y with ⟨e,rfl⟩|⟨y,rfl⟩<;>first
           |refine dp rfl (Az1 hv rfl rfl rfl rfl rfl rfl rfl rfl rfl rfl) (Az1 hv rfl rfl rfl rfl rfl rfl rfl rfl rfl rfl) rfl rfl rfl rfl (by kernel_rfl) ?_
           |refine pd1 (oA hv rfl rfl rfl rfl rfl rfl rfl rfl rfl) ?_
           |refine pd1 (AnU hv rfl rfl rfl rfl rfl rfl rfl rfl rfl rfl rfl rfl) ?_))
      |refine pd1 (nB aI qH hk rfl rfl rfl rfl rfl) ?_
      |refine pd1 (nB encNode vL hk rfl rfl rfl rfl rfl) ?_
      |refine pd1 (nB _ (λ_=>rfl) hk rfl rfl rfl rfl rfl) ?_
      |refine pd1 (BhP hk rfl rfl rfl rfl) ?_
      |refine pd1 (Ag1 hk rfl rfl rfl rfl rfl rfl rfl rfl rfl rfl rfl rfl rfl rfl) ?_
      |refine pd1 (BhJ hk rfl rfl rfl rfl rfl rfl rfl rfl rfl rfl rfl rfl) ?_
      |refine pd1 (AwA hk rfl rfl rfl rfl rfl rfl rfl rfl rfl rfl rfl rfl) ?_
      |refine pd1 (Aw9 hk rfl rfl rfl rfl rfl rfl rfl rfl rfl rfl rfl rfl) ?_
      |refine pd1 (BaF hk rfl rfl rfl rfl rfl rfl rfl rfl rfl rfl rfl rfl rfl) ?_
      |refine pd1 (As6 hk rfl rfl rfl rfl rfl rfl rfl) ?_
      |refine pd1 (AlL hk rfl rfl rfl rfl rfl rfl) ?_
      |refine pd1 (Bg9 hk rfl rfl rfl rfl rfl rfl) ?_
      |refine pd1 (Be5 hk rfl rfl rfl rfl rfl rfl rfl) ?_
      |refine pd1 (BhQ hk rfl rfl rfl rfl rfl) ?_
      |refine pd1 (Be8 hk rfl rfl rfl rfl) ?_
      |refine pd1 (BjY hk rfl rfl rfl rfl) ?_
      |refine pd1 (BhO hk rfl rfl rfl) ?_
      |refine pd1 (AcW hk rfl rfl rfl rfl rfl) ?_
      |refine pd1 (BjX _ hk rfl rfl rfl (λ_=>⟨rfl,rfl,rfl⟩) (λ_=>rfl) rfl rfl) ?_
      |refine pd1 (AqY _ hk rfl rfl (λ_=>⟨rfl,rfl,rfl⟩) rfl rfl) ?_
      |refine pd1 (est _ hk rfl rfl (λ_=>⟨rfl,rfl,rfl⟩) rfl rfl rfl rfl) ?_
      |refine pdm _ _ hk rfl rfl rfl rfl rfl rfl rfl rfl rfl rfl rfl rfl rfl rfl rfl ?_
      |refine pda _ hk (ArI _ rfl) rfl rfl rfl rfl rfl rfl rfl rfl rfl rfl rfl rfl rfl rfl rfl rfl rfl rfl rfl rfl ?_
      |(obtain⟨_,hk1,hk⟩:=AvG hk
        refine pda _ hk (AtJ _ hk1 rfl) rfl rfl rfl rfl rfl rfl rfl rfl rfl rfl rfl rfl rfl rfl rfl rfl rfl rfl rfl rfl ?_)
      |refine pd1 (BhM hk rfl rfl rfl) ?_
      |refine pd1 (BhN hk rfl rfl rfl) ?_
      |refine pd1 (Ag1 hk (show List.map AbQ _=List.map (D.int .u8) (List.map u8I _) from by rw[List.map_map]; rfl) rfl rfl rfl rfl rfl rfl rfl rfl rfl rfl rfl rfl rfl) ?_)
    |refine don 1 rfl ?_)
 |refine po2 rfl rfl ?_
 |refine pd2 rfl rfl rfl rfl rfl ?_
 |refine lE.normal ?_
 |refine lE.ret ?_
 |refine lE.exit ?_
 |refine lE.pan ?_
 |refine lE.out hx ?_
 |refine fQ.ret ?_
 |refine cn rfl ?_
 |refine fQ.exit ?_
 |refine fQ.pan ?_
 |refine fQ.out hx ?_
 |refine aK.ret ?_
 |refine eh rfl ?_
 |refine en rfl ?_
 |refine aK.there rfl ?_
 |refine aK.pan ?_
 |refine aK.out hx ?_
 |refine aK.here hS ?_
 |refine cL.normal ?_
 |refine cL.ret ?_
 |refine cL.exit ?_
 |refine cL.pan ?_
 |refine cL.out hx ?_
 |(cases h; done)
 |(have hv:=Ok.ok h; exact cB rfl rfl hv)
 |(cases h; first
    |exact .ret rfl rfl
    |exact .ok rfl
    |exact .err rfl (.ret rfl rfl)
    |exact he
    |exact .err hx he
    |exact .normal rfl rfl
    |exact .err rfl (.normal rfl rfl)
    |exact .pan rfl rfl
    |exact .err rfl (.pan rfl rfl)
    |exact ex1 rfl rfl)):p:=w
end Go.AM
namespace Go.AM.Seat
open Go Go.AM Go.Proofs
structure Env where
 names:(List Str)
 vals:(List Arr)
 deriving Inhabited
def encEnv (x:Env):D:=.agg [(.list 1 (List.map D.str x.names)),(.list 2 (List.map aY x.vals))]
structure pK where
 left:Arr
 right:Arr
 deriving Inhabited
def AwE (x:pK):D:=.agg [(.list 1 (List.map (D.int .i64) x.left.shape)),(.list 3 (List.map aD x.left.cells)),(.list 1 (List.map (D.int .i64) x.right.shape)),(.list 3 (List.map aD x.right.cells))]
structure dH where
 left:Int
 used:Int
 deriving Inhabited
structure aG where
 fuel:dH
 cells:Int
 deriving Inhabited
structure cE where
 op_:Int
 turned:Bool
 deriving Inhabited
def rK (x:cE):D:=.agg [(.int .i64 x.op_),(.bool x.turned)]
structure eQ where
 hi:Int
 lo:Int
 deriving Inhabited
def Ac2 (x:eQ):D:=.agg [(.int .u64 x.hi),(.int .u64 x.lo)]
def h5:Nat->List Nat|0=>[0,1,2,3,4]|1=>[2,3,4,5,6]|3=>[2,3,4,5,6]|4=>[2,3,4,5,6,11,12,13]|6=>[2,3,4,5,6,11,12,13]|7=>[11,12,13,14,15,16]|_=>[]
def h6:Nat->List Nat|0=>[0,1,2,3]|1=>[2,3,4,5]|3=>[2,3,4,5]|4=>[2,3,9,10,11]|6=>[3,9,11]|7=>[9]|8=>[3,9]|_=>[]
def h7:Nat->List Nat|0=>[0,1,2,3,4,5]|1=>[2,3,4,6,7,11]|3=>[2,3,4,6,7,11]|4=>[2,3,4,6,7,11,13]|5=>[2,3,6,7,11,13]|6=>[2,3,6,7,13]|7=>[2,3,6,7,13]|8=>[2,3,6,7,13]|9=>[2,3,7,13,14,15,16]|10=>[14,15,16,17,18,19]|_=>[]
def h9:Nat->List Nat|0=>[0,1,2,3]|1=>[2,3,4,5]|3=>[4]|4=>[4,9]|5=>[4,9,10]|6=>[4,9,10]|7=>[4,9,10]|8=>[9]|1000000=>[0,9]|_=>[]
def h11:Nat->List Nat|0=>[0,1,2,3]|1=>[2,3,4,5,8]|2=>[8]|3=>[2,3,4,5,8]|4=>[5,8,11]|5=>[8,11,12,13]|6=>[8,12,13,14]|7=>[8,13,14]|8=>[8,12,14]|_=>[]
def h13:Nat->List Nat|0=>[0,1]|1=>[2,3]|_=>[]
def h14:Nat->List Nat|0=>[0,1]|1=>[1,2]|_=>[]
def h15:Nat->List Nat|0=>[0,1]|1=>[0,3,4]|2=>[0,3,4]|3=>[0,3,4]|4=>[0,3,4]|5=>[0,3,4]|1000000=>[0,0,3,4]|_=>[]
def h17:Nat->List Nat|0=>[0,1,2]|1=>[0,4,5,6]|2=>[4,5,6]|3=>[0,4,5,6]|4=>[0,4,5,6]|5=>[0,4,5,6]|6=>[0,4,5,6]|7=>[0,4,5,6]|1000000=>[0,0,4,5,6]|_=>[]
def h19:Nat->List Nat|0=>[0]|1=>[1]|_=>[]
def h20:Nat->List Nat|0=>[0,1]|1=>[1,2]|3=>[1,2]|4=>[1,2,5]|5=>[1,2,5]|6=>[1,2,5]|1000000=>[0]|_=>[]
def h21:Nat->List Nat|0=>[0,1]|1=>[1,2]|_=>[]
def h28:Nat->List Nat|0=>[0]|1=>[1]|_=>[]
def h29:Nat->List Nat|0=>[0,1]|1=>[0,1]|_=>[]
def h30:Nat->List Nat|0=>[0,1,2]|1=>[0,4,5,6]|2=>[0,4,5,6,8]|3=>[6,8]|4=>[0,4,5,6]|5=>[0,4,5,6,22]|6=>[0,4,6]|7=>[0,4,5,6,22]|8=>[0,4,6]|9=>[0,4,5,6,22]|10=>[5,6]|11=>[0,4,5,6,22]|12=>[5,6]|13=>[0,4,5,6]|14=>[0,4,5,6,9,10]|15=>[0,4,6,9,10]|16=>[6,10]|17=>[0,4,6,9]|18=>[0,4,5,6,9]|19=>[0,4,6,9,10,11]|20=>[6,10]|21=>[0,4,6,9,11]|_=>[]
def h31:Nat->List Nat|0=>[0]|1=>[0]|_=>[]
def h32:Nat->List Nat|0=>[0]|1=>[1,2]|2=>[1,2,3]|3=>[2,3,11,12,13]|4=>[2,3,11,12,13]|5=>[2,3,5,11,12,13]|6=>[2,3,11,12,13]|7=>[2,3]|1000000=>[0,2,3]|_=>[]
def h36:Nat->List Nat|0=>[0,1]|1=>[2,3]|2=>[2,3,5]|3=>[2,3,5,6]|4=>[2,3,5,6]|5=>[2,3,6]|6=>[2,3,5]|7=>[2,3,5,7]|8=>[2,3,5,7]|9=>[2,3,7]|10=>[2,3,5]|11=>[2,3]|12=>[5]|1000000=>[0,2,3,5]|1000002=>[0,2,3,5]|2000011=>[0,5]|_=>[]
def h37:Nat->List Nat|0=>[0,1,2]|1=>[1,2,3]|2=>[1,2,3,7]|3=>[1,2,3,7,8]|4=>[1,2,3,7,8]|5=>[1,2,3,7,8]|6=>[1,2,3,7,8,9]|7=>[1,2,3,7,8,9]|8=>[1,2,3,7,8,9]|9=>[1]|10=>[1,2,3,7,8,9]|11=>[7]|1000000=>[0,7]|1000002=>[0,1,2,3,7,8]|_=>[]
def h38:Nat->List Nat|0=>[0,1]|1=>[0,3,4]|2=>[0,3,4,6]|3=>[4,6]|4=>[0,3,4]|5=>[4]|6=>[0,3,4,18]|7=>[0,3,4,18]|8=>[0,3,4,18]|9=>[0,3,4,18]|10=>[4,18]|11=>[4]|12=>[0,3,4]|13=>[0,3,4,7]|14=>[0,4,7,33,34,35]|15=>[0,4,7,33,34,35]|16=>[0,4,7,9,33,34,35]|17=>[4]|18=>[0,4,7,9,33,34,35]|19=>[0,4,7,10,11,33,34,35]|20=>[4,11]|21=>[0,4,7,10,33,34,35]|22=>[0,4,7,33,34,35]|23=>[4,7]|1000001=>[0,4,7]|2000007=>[0,0,3,4,18,20]|_=>[]
def h39:Nat->List Nat|0=>[0,1]|1=>[0,3,4]|2=>[0,3,4,6]|3=>[4,6]|4=>[0,3,4]|5=>[0,3,4,14]|6=>[0,3,4,14]|7=>[0,3,4]|8=>[3,4,14]|9=>[3,4]|10=>[4]|2000006=>[0,0,3,4,14,15]|_=>[]
def h40:Nat->List Nat|0=>[0,1]|1=>[0,3,4]|2=>[0,3,4,6]|3=>[4,6]|4=>[0,3,4]|5=>[0,3,4]|6=>[3,4,18]|7=>[3,4]|8=>[3,4,18]|9=>[3,4]|10=>[3,4,7]|11=>[4,7,33,34,35]|12=>[4,7,33,34,35]|13=>[4,7,9,33,34,35]|14=>[4,7,33,34,35]|15=>[4,7]|16=>[3,4,18]|17=>[3,4]|18=>[3,4,18]|19=>[3,4]|20=>[3,4,18]|21=>[3,4]|22=>[3,4,18]|23=>[3,4]|24=>[3,4,18]|25=>[3,4]|26=>[3,4,18]|27=>[3,4]|28=>[4]|29=>[3,4]|30=>[3,4,18]|31=>[3,4]|32=>[3,4,18]|33=>[3,4]|34=>[3,4,18]|35=>[3,4]|36=>[4]|37=>[3,4]|38=>[3,4]|39=>[4]|1000001=>[0,4,7]|_=>[]
def h44:Nat->List Nat|0=>[0,1]|1=>[2,3,4]|2=>[2,3,4,16,17,18]|3=>[2,3,4,16,17,18]|4=>[2,3,4,7,16,17,18]|5=>[2,3,4,8,16,17,18]|6=>[4,8]|7=>[2,3,4,16,17,18]|8=>[2,3,4]|9=>[3,4,9,10]|10=>[4,10]|11=>[3,4,9]|12=>[3,4,9,10,11]|13=>[4,10]|14=>[3,4,9,11]|15=>[4]|16=>[3,4,9,11]|17=>[3,4,11,12]|18=>[3,4,12,58,59]|19=>[3,4,12,58,59]|20=>[3,4,12,13,58,59]|21=>[3,4,12,58,59]|22=>[4,12]|1000000=>[0,2,3,4]|1000002=>[0,4,12]|_=>[]
def h45:Nat->List Nat|0=>[0,1,2]|1=>[0,4,5,6]|2=>[0,4,5,6,8]|3=>[6,8]|4=>[0,4,5,6]|5=>[0,4,5,6,9]|6=>[4,5,6,9,24]|7=>[4,5,6,9]|8=>[6]|9=>[4,5,6,9]|10=>[4,5,6,9]|11=>[4,6,9,37,38,39]|12=>[4,6,9,37,38,39]|13=>[4,6,9,11,37,38,39]|14=>[4,6,9,37,38,39]|15=>[6,9]|16=>[4,5,6,9,24]|17=>[4,5,6,9]|18=>[4,5,6,9]|19=>[5,6,9,62,63,64]|20=>[5,6,9,62,63,64]|21=>[5,6,9,13,62,63,64]|22=>[5,6,9,13,14,62,63,64]|23=>[5,6,9,62,63,64]|24=>[5,6,9,14,62,63,64]|25=>[5,6,9,62,63,64]|26=>[6,9]|27=>[6]|1000001=>[0,6,9]|1000003=>[0,6,9]|2000023=>[0,5,6,9,14,62,63,64]|_=>[]
def h46:Nat->List Nat|0=>[0,1,2]|1=>[0,4,5,6]|2=>[0,4,5,6,15,16,17]|3=>[0,4,5,6,15,16,17]|4=>[0,4,5,6,9,15,16,17]|5=>[0,4,5,6,10,15,16,17]|6=>[6,10]|7=>[0,4,5,6,15,16,17]|8=>[0,4,5,6]|9=>[0,4,5,6]|10=>[6]|11=>[0,4,5,6,32]|12=>[0,4,5,6,32]|13=>[0,4,5,6]|14=>[0,4,5,6,32]|15=>[4,5,6]|16=>[0,4,5,6,32]|17=>[4,5,6]|18=>[0,4,5,6,32]|19=>[0,4,5,6,32]|20=>[0,4,5,6]|21=>[0,4,5,6,32]|22=>[0,4,5,6,32]|23=>[0,4,5,6,32]|24=>[0,4,5,6,32]|25=>[0,4,5,6]|26=>[0,5,6,11,12]|27=>[6,12]|28=>[0,5,6,11]|29=>[5,6,11]|30=>[0,5,6,11]|31=>[5,6,11]|32=>[0,5,6,11]|33=>[5,6,11]|34=>[5,6,11]|1000000=>[0,0,4,5,6]|2000012=>[0,0,4,5,6,32,34]|2000019=>[0,0,4,5,6,32,58]|2000022=>[0,0,4,5,6,68]|_=>[]
def h47:Nat->List Nat|0=>[0,1,2]|1=>[0,4,5,6]|2=>[0,4,5,6,22,23,24]|3=>[0,4,5,6,22,23,24]|4=>[0,4,5,6,9,22,23,24]|5=>[0,4,5,6,10,22,23,24]|6=>[6,10]|7=>[0,4,5,6,22,23,24]|8=>[0,4,5,6]|9=>[6]|10=>[0,4,5,6]|11=>[6]|12=>[0,4,5,6]|13=>[0,4,5,6,11,12]|14=>[6,12]|15=>[0,4,5,6,11]|16=>[0,4,5,6,11,13]|17=>[0,4,5,6,11]|18=>[0,4,5,6,11,13]|19=>[0,4,5,6,13,14]|20=>[0,4,5,6,14,73,74]|21=>[0,4,5,6,14,73,74]|22=>[0,4,5,6,14,15,73,74]|23=>[0,4,5,6,14,15,16,17,73,74]|24=>[0,4,5,6,14,15,16,17,73,74]|25=>[0,4,5,6,14,15,16,17,73,74]|26=>[0,4,5,6,14,15,16,17,73,74]|27=>[0,4,5,6,14,16,17,73,74]|28=>[0,4,5,6,14,18,19,73,74]|29=>[6,19]|30=>[0,4,5,6,14,18,73,74]|31=>[0,4,5,6,14,73,74]|32=>[6,14]|1000000=>[0,0,4,5,6]|1000002=>[0,6,14]|2000017=>[0,0,4,5,6,11,13]|2000024=>[0,0,4,5,6,14,15,16,17,73,74]|2000026=>[0,0,4,5,6,14,16,17,73,74]|_=>[]
def h52:Nat->List Nat|0=>[0,1]|1=>[1,2]|2=>[1,2,5,6]|3=>[6]|4=>[1,2,5]|6=>[1,2]|7=>[1,2,7]|8=>[1,2,7]|9=>[1,2,7]|11=>[1,2]|12=>[1,2,8]|13=>[1,2,8]|14=>[1,2,8]|15=>[1,2,8,9]|16=>[9]|1000000=>[0,1,2]|1000002=>[0]|_=>[]
def h53:Nat->List Nat|0=>[0,1,2]|1=>[1,2,3]|2=>[1,2,3,7]|3=>[1,2,3,7,8]|4=>[1,2,3,7,8]|5=>[1,2,3,7,8]|6=>[1]|7=>[1,2,3,7,8]|8=>[7]|1000000=>[0,7]|_=>[]
def h54:Nat->List Nat|0=>[0,1,2]|1=>[0,2,4]|3=>[0,2,4]|4=>[0,2,4,12]|5=>[4]|6=>[0,2,4,12]|7=>[4]|8=>[0,2,4,12]|9=>[0,2,4,12]|10=>[0,4]|12=>[0,4]|14=>[0,2,4,12]|15=>[0,2,4]|16=>[0,2,4,12]|17=>[0,2,4]|2000009=>[0,0,2,4,12,31]|_=>[]
def h55:Nat->List Nat|0=>[0]|1=>[0]|_=>[]
def h56:Nat->List Nat|0=>[0,1,2]|1=>[0,2,4,6]|2=>[0,4,6]|3=>[2,4,6]|4=>[2,6]|5=>[4,6]|2000002=>[0,2,4,6]|_=>[]
def h57:Nat->List Nat|0=>[0,1]|1=>[0,1,4]|2=>[0,1,4,12,13,14]|3=>[0,1,4,12,13,14]|4=>[0,1,4,6,7,12,13,14]|5=>[0,4,6]|6=>[4]|7=>[0,4,6]|8=>[0,1,4,12,13,14]|9=>[4]|1000000=>[0,4]|1000001=>[0,0,1,4,12,13,14]|_=>[]
def h58:Nat->List Nat|0=>[0,1,2]|1=>[0,4,5,6]|2=>[0,4,5,6,8]|3=>[6,8]|4=>[0,4,5,6]|5=>[0,4,5,6,21]|6=>[0,4,5,6]|7=>[0,4,5,6,21]|8=>[0,4,5,6]|9=>[0,4,5,6,21]|10=>[0,4,5,6]|11=>[0,4,5,6,21]|12=>[0,4,5,6,21]|13=>[0,4,5,6]|14=>[0,4,5,6,21]|15=>[0,4,5,6,21]|16=>[0,4,5,6]|17=>[0,4,5,6]|18=>[0,4,5,6,97,98]|19=>[0,4,5,6,97,98]|20=>[0,4,5,6,9,10,97,98]|21=>[6,10]|22=>[0,4,5,6,9,97,98]|23=>[0,4,5,6,97,98]|24=>[5,6]|1000001=>[0,5,6]|2000012=>[0,0,4,5,6,21,58]|2000015=>[0,0,4,5,6,77]|_=>[]
def h59:Nat->List Nat|0=>[0,1,2,3]|1=>[0,5,6,7,8]|2=>[0,5,6,7,8,10]|3=>[8,10]|4=>[0,5,6,7,8]|5=>[0,5,6,7,8,21]|6=>[0,5,6,7,8]|7=>[0,5,6,7,8,21]|8=>[0,5,6,7,8]|9=>[0,5,6,7,8,21]|10=>[0,5,6,7,8]|11=>[0,5,6,7,8]|_=>[]
def h60:Nat->List Nat|0=>[0]|1=>[1,2]|2=>[1,2]|3=>[1,2]|2000002=>[0,1,2,6000002]|_=>[]
def h69:Nat->List Nat|0=>[0,1]|1=>[0,1]|3=>[0,1]|_=>[]
def h70:Nat->List Nat|0=>[0,1]|1=>[2,3]|2=>[2,3,5]|3=>[2,3]|4=>[2,3,5]|5=>[2,3]|6=>[2,3,5]|7=>[2,3]|8=>[5]|2000003=>[0,2,3,5]|2000007=>[0,5]|_=>[]
def h71:Nat->List Nat|0=>[0]|1=>[1]|_=>[]
def h72:Nat->List Nat|0=>[0,1]|1=>[0,1]|2=>[1,6]|3=>[1]|4=>[1,6]|5=>[1]|6=>[1,6]|7=>[1]|8=>[1]|10=>[1]|_=>[]
def h73:Nat->List Nat|0=>[0]|1=>[0]|2=>[6,7,8]|3=>[6,7,8]|4=>[4,6,7,8]|5=>[5,6,7,8]|6=>[5]|7=>[6,7,8]|1000000=>[0]|_=>[]
def h74:Nat->List Nat|0=>[0,1]|1=>[2,3,4]|2=>[4]|3=>[2,3,4]|4=>[4]|5=>[2,3,4]|6=>[3,4,6]|7=>[3,4,6,7]|8=>[3,4,6,7,30,31]|9=>[3,4,6,7,30,31]|10=>[3,4,6,7,8,30,31]|11=>[3,4,6,7,30,31]|12=>[3,4,6,7]|13=>[4,7]|14=>[4,7,9]|15=>[4,9,46,47,48]|16=>[4,9,46,47,48]|17=>[4,9,11,46,47,48]|18=>[4,9,46,47,48]|19=>[4,9]|1000001=>[0,3,4,6,7]|1000003=>[0,4,9]|_=>[]
def h75:Nat->List Nat|0=>[0]|1=>[1,2]|2=>[1,2]|3=>[1,2]|4=>[1,2]|5=>[1,2,3]|6=>[1,2,3,4]|7=>[2,3,4,20,21,22]|8=>[2,3,4,20,21,22]|9=>[2,3,4,6,20,21,22]|10=>[2,3,4,6,20,21,22]|11=>[2,3,4,6,20,21,22]|12=>[2,3,4,20,21,22]|13=>[2,3,4]|14=>[2,4]|1000000=>[0,2,3,4]|1000001=>[0,2,3,4,20,21,22]|2000003=>[0,1,2,6000000]|_=>[]
def h76:Nat->List Nat|0=>[0]|1=>[1,2]|2=>[2]|3=>[1,2]|4=>[2]|5=>[1,2]|6=>[2]|7=>[1,2]|8=>[2,4]|9=>[2,4,46,47]|10=>[2,4,46,47]|11=>[2,4,5,46,47]|12=>[2,4,46,47]|13=>[2,4]|1000001=>[0,2,4]|_=>[]
def h77:Nat->List Nat|0=>[0]|1=>[0,2]|_=>[]
def h78:Nat->List Nat|0=>[0]|1=>[1]|3=>[1]|_=>[]
def h79:Nat->List Nat|0=>[0,1]|1=>[1,2,4]|2=>[2,4]|3=>[1,2,4]|4=>[1,2,4,5]|5=>[1,2,4,5,21,22,23]|6=>[1,2,4,5,21,22,23]|7=>[1,2,4,5,7,21,22,23]|8=>[1,2,4,5,21,22,23]|9=>[1,2,4,5]|10=>[2,4,5,8]|11=>[2,4,5,8,9]|12=>[2,4,5,8,9,10]|13=>[2,4,5,8,9,10]|14=>[2,4,5,8,9,10]|15=>[2,4,5,8,9,10,11]|16=>[2,4,5,8,9,10,11]|17=>[2,4,5,8,9,10,11]|18=>[2,4,9]|1000000=>[0,1,2,4,5]|1000002=>[0,2,4,9]|1000004=>[0,2,4,5,8,9,10]|_=>[]
def h80:Nat->List Nat|0=>[0]|1=>[1,2]|2=>[1,2,3]|3=>[1,2,3]|4=>[1,2,3,4]|5=>[1,2,3,4,21,22]|6=>[1,2,3,4,21,22]|7=>[1,2,3,4,5,21,22]|8=>[1,2,3,4,5,21,22,25,26]|9=>[1,2,3,4,5,21,22,25,26]|10=>[1,2,3,4,5,6,21,22,25,26]|11=>[1,2,3,4,5,21,22,25,26]|12=>[1,2,3,4,5,21,22]|13=>[1,2,3,4,21,22]|14=>[1,2,3,4,7,21,22]|15=>[1,2,3,4,7,21,22]|16=>[1,2,3,4,7,21,22]|17=>[1,2,3,4,7,21,22]|18=>[1,2,3,4,7,21,22]|19=>[1,2,3,4,21,22]|20=>[2,3]|1000000=>[0,2,3]|1000001=>[0,1,2,3,4,21,22]|1000002=>[0,1,2,3,4,5,21,22]|1000004=>[0,1,2,3,4,21,22]|_=>[]
def h81:Nat->List Nat|0=>[0]|1=>[1]|2=>[1,3]|3=>[3,7,8,9]|4=>[3,7,8,9]|5=>[3,5,7,8,9]|6=>[3,5,7,8,9]|7=>[3,7,8,9]|8=>[3]|1000000=>[0,3]|1000001=>[0,3,7,8,9]|_=>[]
def h82:Nat->List Nat|0=>[0]|1=>[1,2]|2=>[2]|3=>[1,2]|4=>[1,2]|5=>[1,2]|_=>[]
def h83:Nat->List Nat|0=>[0]|1=>[1,2]|2=>[1,2]|3=>[1,2]|4=>[2]|5=>[1,2]|_=>[]
def h95:Nat->List Nat|0=>[0]|1=>[1]|3=>[1]|4=>[1,4]|5=>[4,16,17,18]|6=>[4,16,17,18]|7=>[4,6,16,17,18]|9=>[4,6,16,17,18]|10=>[4,16,17,18]|11=>[4]|13=>[4]|15=>[4]|1000000=>[0,4]|_=>[]
def h96:Nat->List Nat|0=>[0]|1=>[0]|3=>[0]|4=>[0,4,5]|5=>[0,4,5,13,14,15]|6=>[0,4,5,13,14,15]|7=>[0,4,5,7,13,14,15]|9=>[0,4,5,7,13,14,15]|10=>[0,4,5,13,14,15]|11=>[0,4,5]|13=>[0,4]|14=>[4,28,29,30]|15=>[4,28,29,30]|16=>[4,9,28,29,30]|18=>[4,9,28,29,30]|19=>[4,28,29,30]|20=>[4]|1000000=>[0,0,4,5]|1000001=>[0,0,4,5,13,14,15]|1000002=>[0,4]|_=>[]
def h98:Nat->List Nat|0=>[0,1]|1=>[0,3]|2=>[0,5]|3=>[5]|4=>[0]|_=>[]
def h99:Nat->List Nat|0=>[0,1,2]|1=>[2,3,4,6]|2=>[3,4,6,8,9]|3=>[6,9]|4=>[3,4,6,8,14000000]|5=>[12004001,3,4,6,8,10]|6=>[8004000,3,4,6,8,10]|7=>[3,4,6,8,10,12]|8=>[6]|9=>[3,4,6,8,10]|10=>[3,4,6,8,10,13]|11=>[3,4,6,8,10,13,73,74,75]|12=>[3,4,6,8,10,13,73,74,75]|13=>[3,4,6,8,10,13,15,73,74,75]|14=>[3,4,6,8,10,13,73,74,75]|15=>[3,4,6,8,10,13]|16=>[3,4,6,8,10,16,17]|17=>[3,4,6,8,10,16,17,18]|18=>[3,4,6,10,16,17,18,100,101,102]|19=>[3,4,6,10,16,17,18,100,101,102]|20=>[3,4,6,10,16,17,18,20,100,101,102]|21=>[3,4,6,10,16,17,18,100,101,102]|22=>[3,4,6,10,16,17,18]|23=>[3,4,6,10,16,17,110,111]|24=>[3,4,6,10,16,17,110,111]|25=>[3,4,6,10,16,17,21,110,111]|26=>[3,4,6,10,16,17,110,111]|27=>[6,10]|1000000=>[0,3,4,6,8,10,13]|1000002=>[0,3,4,6,10,16,17,18]|1000004=>[0,6,10]|_=>[]
def BkG:Nat->List Nat|0=>[0,1]|1=>[2,3,4]|2=>[4]|3=>[2,3,4]|4=>[2,3,4,31,32,33]|5=>[2,3,4,31,32,33]|6=>[2,3,4,7,31,32,33]|7=>[4]|8=>[2,3,4,7,31,32,33]|9=>[4]|10=>[2,3,4,31,32,33]|11=>[2,3,4]|12=>[2,3,4,8]|13=>[2,3,4,8,10]|14=>[4,10]|15=>[2,3,4,8]|16=>[2,3,4,8,11]|17=>[3,4,8,11,79,80,81]|18=>[3,4,8,11,79,80,81]|19=>[3,4,8,11,13,79,80,81]|20=>[3,4,8,11,79,80,81]|21=>[4,8]|1000000=>[0,2,3,4]|1000003=>[0,4,8]|_=>[]
def BkH:Nat->List Nat|0=>[0,1,2]|1=>[2,3,4,6]|2=>[2,3,4,6]|3=>[2,3,4,6,8]|4=>[3,4,6]|5=>[3,4,6,8]|6=>[4,6,8,9,10]|7=>[6,10]|8=>[4,6,8,9,14000000]|9=>[12016001,4,6,8,9,11]|10=>[4,6,8,9,11]|11=>[4,6,8,9,11,52,53,54]|12=>[4,6,8,9,11,52,53,54]|13=>[4,6,8,9,11,13,52,53,54]|14=>[4,6,8,9,11,52,53,54]|15=>[8016000,4,6,8,9,11]|16=>[4,6,8,9,11,15]|17=>[6,15]|18=>[4,6,8,9,11]|19=>[4,6,8,9,11,16]|20=>[4,6,9,11,16,81,82,83]|21=>[4,6,9,11,16,81,82,83]|22=>[4,6,9,11,16,18,81,82,83]|23=>[4,6,9,11,16,81,82,83]|24=>[4,6,9,11,16]|25=>[4,6,9,11,16,19]|26=>[4,6,9,11,16,19]|27=>[4,6,9,11,16,19]|28=>[4,6,9,11,16,19,102,103,104]|29=>[4,6,9,11,16,19,102,103,104]|30=>[4,6,9,11,16,19,20,21,102,103,104]|31=>[4,6,9,11,16,19,20,102,103,104,109,110]|32=>[4,6,9,11,16,19,20,102,103,104,109,110]|33=>[4,6,9,11,16,19,20,102,103,104,109,110]|34=>[4,6,9,11,16,19,102,103,104]|35=>[6,11]|1000000=>[0,4,6,8,9,11]|1000002=>[0,4,6,9,11,16]|1000004=>[0,6,11]|1000006=>[0,4,6,9,11,16,19]|1000008=>[0,4,6,9,11,16,19,102,103,104]|2000004=>[0,3,4,6,8]|_=>[]
def BkI:Nat->List Nat|0=>[0]|1=>[1]|3=>[1]|5=>[1]|_=>[]
def BkJ:Nat->List Nat|0=>[0,1]|1=>[0,3,4]|2=>[0,3,4]|3=>[4]|4=>[0,3,4]|5=>[0,3,4,6,7]|6=>[0,3,4,6,7,8]|7=>[0,3,4,6,7,8,10]|8=>[4,10]|9=>[0,3,4,6,7,8]|10=>[0,3,4,6,7]|11=>[3,4,6,7]|12=>[3,4,6]|13=>[0,3,4,6,7,8]|14=>[0,3,4,6,7,8,11,12]|15=>[4,12]|16=>[0,3,4,6,7,8,11]|17=>[0,3,4,8,11,13]|18=>[0,3,4,8,11,13,78,79]|19=>[0,3,4,8,11,13,78,79]|20=>[0,3,4,8,11,13,14,78,79]|21=>[0,3,4,8,11,13,78,79]|22=>[0,3,4,8,13]|23=>[3,4,8,13,14000000]|24=>[7000013,3,4,8,13]|1000000=>[0,0,3,4,8,13]|_=>[]
def BkK:Nat->List Nat|0=>[0,1]|1=>[0,3,4]|2=>[0,3,4]|3=>[0,3,4,5]|4=>[3,4]|5=>[0,3,4,5]|6=>[0,3,4,5]|7=>[0,3,4,5]|_=>[]
def BkL:Nat->List Nat|0=>[0,1,2]|1=>[0,2,4,6]|2=>[4,6]|3=>[0,2,4,6]|4=>[0,2,4,6,7]|5=>[0,2,4,6,7,30,31,32]|6=>[0,2,4,6,7,30,31,32]|7=>[0,2,4,6,7,9,30,31,32]|8=>[0,2,4,6,7,30,31,32]|9=>[0,2,4,6,7]|10=>[0,4,6,7,10]|11=>[4,6,7,10,11]|12=>[4,6,7,10,11]|13=>[4,6,7,10,11]|14=>[4,6,7,10,11,12]|15=>[4,6,7,10,11,12,13]|16=>[4,6,7,10,11,12,13]|17=>[4,6,7,10,11,12,13]|18=>[4,6,7,10,11,12,13,14]|19=>[4,6,7,10,11,12,13,14]|20=>[6,12]|1000000=>[0,0,2,4,6,7]|1000002=>[0,6,12]|2000012=>[0,4,6,7,10,11]|_=>[]
def BkM:Nat->List Nat|0=>[0]|1=>[0]|_=>[]
def BkN:Nat->List Nat|0=>[0,1]|1=>[0,1]|2=>[1]|3=>[0,1]|4=>[0]|5=>[0,1]|7=>[0,1]|8=>[0,1,26,27]|9=>[0,1,26,27]|10=>[0,1,6,26,27]|12=>[0,1,26,27]|13=>[0]|1000001=>[0,0]|_=>[]
def BkO:Nat->List Nat|0=>[0,1,2]|1=>[0,4,5,6]|2=>[0,4,5,6,8]|3=>[6]|4=>[0,4,5,6,8]|5=>[6]|6=>[0,4,5,6,8]|7=>[0,6]|8=>[0,4,5,6,8]|9=>[6]|10=>[0,4,5,6]|11=>[0,4,5,6]|12=>[0,4,5,6]|13=>[6,9,10]|1000000=>[0,0,4,5,6]|_=>[]
def BkP:Nat->List Nat|0=>[0]|1=>[0]|3=>[0]|4=>[0,4]|5=>[0,4,5]|6=>[0,4,5]|7=>[0,4,5]|9=>[0,4,5]|10=>[0,5]|11=>[0,4]|13=>[0]|14=>[0,6]|15=>[0,6,7]|16=>[0,6,7]|17=>[0,6,7]|19=>[0,6,7]|20=>[0,6,7]|22=>[6]|1000000=>[0,0,4]|1000001=>[0,0,4,5]|1000002=>[0,6]|_=>[]
def BkQ:Nat->List Nat|0=>[0,1]|1=>[1,2]|2=>[1,2]|4=>[1,2]|5=>[2]|7=>[2]|_=>[]
def BkR:Nat->List Nat|0=>[0,1]|1=>[0,1]|2=>[0,1]|_=>[]
def BkS:Nat->List Nat|0=>[0,1,2,3,4]|1=>[1,2,3,4,5]|_=>[]
def BkT:Nat->List Nat|0=>[0]|1=>[1]|3=>[1]|4=>[1,27,28,29]|5=>[1,27,28,29]|6=>[1,4,27,28,29]|8=>[1,27,28,29]|1000000=>[0]|1000001=>[0,1,27,28,29]|_=>[]
def BkU:Nat->List Nat|0=>[0]|1=>[0]|2=>[0,6,7]|3=>[0,6,7]|4=>[0,3,6,7]|5=>[0,3,4,6,7]|7=>[0,6,7]|8=>[0]|1000000=>[0,0]|1000001=>[0,0,6,7]|_=>[]
def BkV:Nat->List Nat|0=>[0,1,2]|1=>[0,2,4]|3=>[0,2,4]|4=>[0,2,4,12]|5=>[4]|6=>[0,2,4,12]|7=>[0,2,4]|8=>[0,2,4,12]|9=>[0,2,4,12]|10=>[0,2,4,12]|11=>[0,2,4,12]|12=>[0,2,4]|13=>[0,2,4,12]|14=>[0,2,4]|15=>[0,2,4,12]|16=>[0,2,4]|2000009=>[0,0,2,4,12,33]|_=>[]
def BkW:Nat->List Nat|0=>[0,1,2]|1=>[0,2,4]|2=>[0,2,4,8]|3=>[0,2,4]|4=>[0,2,4,8]|5=>[0,2,4]|6=>[0,2,4]|_=>[]
def BkX:Nat->List Nat|0=>[0,1]|1=>[0,1]|3=>[0,1]|_=>[]
def BkY:Nat->List Nat|0=>[0,1]|1=>[0,3]|_=>[]
def BkZ:Nat->List Nat|0=>[0,1,2]|1=>[2,3,4,6]|2=>[2,3,4,6,8]|3=>[6,8]|4=>[2,3,4,6]|5=>[4,6]|6=>[2,3,4,6]|7=>[3,4,6,9]|8=>[3,4,6,9,10]|9=>[3,4,6,9,10,12]|10=>[6,12]|11=>[3,4,6,9,10]|12=>[3,4,6,10,13,14,15]|13=>[3,4,6,10,14,15,63,64]|14=>[3,4,6,10,14,15,63,64]|15=>[3,4,6,10,14,15,16,63,64]|16=>[3,4,6,10,14,15,16,63,64,67,68]|17=>[3,4,6,10,14,15,16,63,64,67,68]|18=>[3,4,6,10,14,15,16,17,63,64,67,68]|19=>[3,4,6,10,14,15,16,18,19,63,64,67,68]|20=>[6,19]|21=>[3,4,6,10,14,15,16,18,63,64,67,68]|22=>[3,4,6,10,14,15,16,63,64,67,68]|23=>[3,4,6,10,14,15,63,64]|24=>[6,10]|1000000=>[0,6,10]|1000002=>[0,3,4,6,10,14,15,63,64]|_=>[]
def Bl0:Nat->List Nat|0=>[0]|1=>[1,2]|2=>[1,2]|3=>[1,2]|_=>[]
def Bl1:Nat->List Nat|0=>[0,1,2]|1=>[2,3,4,6]|2=>[2,3,4,6,8]|3=>[6,8]|4=>[2,3,4,6,14000000]|5=>[2,3,4,6,9]|6=>[6,9]|7=>[2,3,4,6,9]|8=>[3,4,6,9,10,11,12]|9=>[3,4,6,9,11,12,45,46]|10=>[3,4,6,9,11,12,45,46]|11=>[3,4,6,9,11,12,13,45,46]|12=>[3,4,6,9,11,12,13,45,46,49,50]|13=>[3,4,6,9,11,12,13,45,46,49,50]|14=>[3,4,6,9,11,12,13,14,45,46,49,50]|15=>[3,4,6,9,11,12,13,15,45,46,49,50]|16=>[3,4,6,9,11,12,13,15,16,45,46,49,50]|17=>[3,4,6,9,11,12,13,15,16,17,45,46,49,50]|18=>[3,4,6,9,11,12,13,15,16,17,45,46,49,50]|19=>[3,4,6,9,11,12,13,15,16,17,45,46,49,50]|20=>[3,4,6,9,11,12,13,15,16,17,18,19,45,46,49,50]|21=>[6,19]|22=>[3,4,6,9,11,12,13,15,16,17,18,45,46,49,50]|23=>[3,4,6,9,11,12,13,45,46,49,50]|24=>[3,4,6,9,11,12,45,46]|25=>[6,9]|1000000=>[0,6,9]|1000002=>[0,3,4,6,9,11,12,45,46]|1000004=>[0,3,4,6,9,11,12,13,45,46,49,50]|_=>[]
def Bl2:Nat->List Nat|0=>[0,1,2]|1=>[3,4,5,6]|2=>[3,4,5,6,8]|3=>[6,8]|4=>[3,4,5,6]|5=>[8011000,3,4,5,6,9]|6=>[3,4,5,6,9,11]|7=>[6,11]|8=>[3,4,5,6,9]|9=>[3,5,6,9,45,46,47]|10=>[3,5,6,9,45,46,47]|11=>[3,5,6,9,13,45,46,47]|12=>[3,5,6,9,13,45,46,47,52,53,54]|13=>[3,5,6,9,13,45,46,47,52,53,54]|14=>[3,5,6,9,13,15,45,46,47,52,53,54]|15=>[3,5,6,9,13,16,17,45,46,47,52,53,54]|16=>[6,17]|17=>[3,5,6,9,13,16,45,46,47,52,53,54]|18=>[3,5,6,9,13,45,46,47,52,53,54]|19=>[3,5,6,9,45,46,47]|20=>[6,9]|1000000=>[0,6,9]|1000002=>[0,3,5,6,9,45,46,47]|_=>[]
def Bl3:Nat->List Nat|0=>[0,1]|1=>[1,2]|2=>[1,2,5,6]|3=>[6]|4=>[1,2,5]|6=>[1,2]|7=>[1,2,27,28,29]|8=>[1,2,27,28,29]|9=>[1,2,8,27,28,29]|11=>[1,2,27,28,29]|12=>[1,2]|13=>[1,37,38,39]|14=>[1,37,38,39]|15=>[1,10,37,38,39]|16=>[1,10,37,38,39]|18=>[1,10,37,38,39]|19=>[1,11,37,38,39]|20=>[11]|21=>[1,10,37,38,39]|23=>[1,37,38,39]|1000000=>[0,1,2]|1000002=>[0]|1000003=>[0,1,37,38,39]|_=>[]
def Bl4:Nat->List Nat|0=>[0]|1=>[0]|_=>[]
def Bl5:Nat->List Nat|0=>[0]|1=>[0]|3=>[0]|_=>[]
def Bl6:Nat->List Nat|0=>[0]|1=>[0]|2=>[0]|3=>[0]|_=>[]
def Bl7:Nat->List Nat|0=>[0]|1=>[0]|2=>[0,5,6,7]|3=>[0,5,6,7]|4=>[0,4,5,6,7]|6=>[0,5,6,7]|1000000=>[0]|_=>[]
def Bl8:Nat->List Nat|0=>[0]|1=>[1]|2=>[1,3]|4=>[1,3]|5=>[1,3,4]|6=>[1,3,4,22,23]|7=>[1,3,4,22,23]|8=>[1,3,4,5,22,23]|9=>[1,3,4,22,23]|10=>[3]|1000000=>[0,3]|_=>[]
def Bl9:Nat->List Nat|0=>[0,1]|_=>[]
def BlA:Nat->List Nat|0=>[0,1,2,3]|1=>[0,1,2,3]|2=>[3,7]|3=>[7]|4=>[7]|_=>[]
def BlB:Nat->List Nat|0=>[0,1,2]|1=>[0,1,2]|2=>[0,1,2,11,12,13]|3=>[0,1,2,11,12,13]|4=>[0,1,2,7,8,11,12,13]|6=>[0,1,2,7,8,11,12,13]|7=>[0,1,2,8,9,11,12,13]|8=>[0,1,2,10,11,12,13]|9=>[10]|10=>[0,1,2,11,12,13]|11=>[0,1]|1000000=>[0,0,1]|_=>[]
def BlC:Nat->List Nat|0=>[0,1]|1=>[2,3]|2=>[2,3,5]|3=>[5]|4=>[2,3]|5=>[2,3,6]|6=>[2,3,6]|7=>[2,3]|8=>[6]|9=>[2,3]|_=>[]
def BlD:Nat->List Nat|0=>[0,1]|1=>[0,1]|_=>[]
def BlE:Nat->List Nat|0=>[0,1]|1=>[0,1]|_=>[]
def BlF:Nat->List Nat|0=>[0]|1=>[0]|2=>[0]|3=>[0]|4=>[0,3]|5=>[0,3,4]|6=>[0,3,4]|7=>[0,3,4]|8=>[3]|1000000=>[0,3]|_=>[]
def BlG:Nat->List Nat|0=>[0,1]|1=>[0,1]|2=>[0,1,7,8]|3=>[0,1,7,8]|4=>[0,1,5,7,8]|5=>[5]|6=>[0,1,7,8]|1000000=>[0]|_=>[]
def BlH:Nat->List Nat|0=>[0,1]|1=>[1,2]|_=>[]
def BlI:Nat->List Nat|0=>[0,1,2]|1=>[2,3,4,6,7]|2=>[3,4,6,7]|3=>[2,3,4,6,7]|4=>[2,3,4,6,7,10]|5=>[3,4,6,7]|6=>[3,4,6,7,10]|7=>[3,4,6,7,10,11]|8=>[3,4,6,7,10]|9=>[3,4,6,7,10,11]|10=>[3,4,6,7,10]|11=>[3,4,6,7,10,11]|12=>[3,4,6,7,10]|13=>[3,4,6,7,10,11]|14=>[3,4,6,7,10]|15=>[3,4,6,7,10,11]|16=>[3,4,6,7]|17=>[3,4,6,7,10]|18=>[3,4,6,7,10,12,13]|19=>[3,4,6,7,10,12,13,101,102]|20=>[3,4,6,7,10,12,13,101,102]|21=>[3,4,6,7,10,12,13,14,101,102]|22=>[3,4,6,7]|23=>[3,4,6,7,10,12,13,101,102]|24=>[3,4,6,7,10]|1000000=>[0,3,4,6,7,10]|1000001=>[0,3,4,6,7,10]|2000005=>[0,3,4,6,7,10]|_=>[]
def BlJ:Nat->List Nat|0=>[0]|1=>[1]|2=>[1,3]|3=>[3,8,9,10]|4=>[3,8,9,10]|5=>[3,5,8,9,10]|6=>[3,8,9,10]|7=>[3]|1000000=>[0,3]|_=>[]
def BlK:Nat->List Nat|0=>[0]|1=>[1,2]|2=>[1,2]|3=>[1,2]|2000002=>[0,1,2,6000000]|_=>[]
def BlL:Nat->List Nat|0=>[0,1]|1=>[1,2]|3=>[1,2]|4=>[1,2,17,18,19]|5=>[1,2,17,18,19]|6=>[1,2,7,17,18,19]|8=>[1,2,17,18,19]|9=>[1,2]|11=>[1,2]|12=>[2,8,9]|13=>[2,8,9,46,47]|14=>[2,8,9,46,47]|15=>[2,8,9,10,46,47]|16=>[2,8,9,10,11,46,47]|17=>[2,8,9,10,11,46,47]|18=>[2,8,9,10,11,46,47]|20=>[2,8,9,10,11,46,47]|21=>[2,8,9,10,46,47]|22=>[2,8,9,46,47]|23=>[7000008,8]|1000000=>[0,1,2]|1000002=>[0,8]|2000017=>[0,2,8,9,10,11,46,47]|_=>[]
def BlM:Nat->List Nat|0=>[0,1,2]|1=>[1,2,3,6]|2=>[1,2,3,6,7]|3=>[1,2,3,6,7,8]|4=>[6,8]|_=>[]
def BlN:Nat->List Nat|0=>[0]|1=>[1,2]|2=>[2]|3=>[1,2]|4=>[2]|5=>[2]|_=>[]
def BlO:Nat->List Nat|0=>[0]|1=>[0]|_=>[]
def BlP:Nat->List Nat|0=>[0,1,2]|1=>[0,1,2]|2=>[1,2,8]|3=>[1,2]|4=>[1,2,8]|5=>[1,2]|6=>[1,2,8]|7=>[1,2]|8=>[1,2,8]|9=>[1,2]|10=>[1,2,8]|11=>[1,2]|12=>[1,2]|_=>[]
def BlQ:Nat->List Nat|0=>[0]|1=>[0]|_=>[]
def BlR:Nat->List Nat|0=>[0,1,2]|1=>[0,2,4]|3=>[0,2,4]|4=>[0,2,4,7]|5=>[0,2,4,7]|6=>[0,4,7,8]|7=>[0,4,7,8,9,10]|8=>[4,8,9,10]|9=>[8,9]|10=>[8,9,10]|_=>[]
def BlS:Nat->List Nat|0=>[0,1,2]|1=>[0,2,4]|2=>[0,2,4]|4=>[0,2,4]|5=>[0,2,4]|2000002=>[0,0,2,4]|_=>[]
def BlT:Nat->List Nat|0=>[0,1,2]|1=>[0,2,4]|3=>[0,2,4]|4=>[0,2,7]|_=>[]
def BlU:Nat->List Nat|0=>[0,1,2]|1=>[0,2,4]|3=>[0,2,4]|4=>[0,2,4,12]|5=>[4]|6=>[0,2,4,12]|7=>[0,2,4]|_=>[]
def BlV:Nat->List Nat|0=>[0]|1=>[1]|2=>[1,3]|3=>[3,12,13,14]|4=>[3,12,13,14]|5=>[3,5,12,13,14]|6=>[3,12,13,14,19,20,21]|7=>[3,12,13,14,19,20,21]|8=>[3,7,12,13,14,19,20,21]|9=>[3,12,13,14,19,20,21]|10=>[3,12,13,14]|11=>[3]|1000000=>[0,3]|1000002=>[0,3,12,13,14]|_=>[]
def BlW:Nat->List Nat|0=>[0,1]|1=>[1,2]|2=>[2,8,9,10]|3=>[2,8,9,10]|4=>[2,6,8,9,10]|5=>[2,7,8,9,10]|6=>[7]|7=>[2,8,9,10]|8=>[2]|1000000=>[0,2]|_=>[]
def BlX:Nat->List Nat|0=>[0,1]|1=>[1,2]|2=>[2]|_=>[]
def BlY:Nat->List Nat|0=>[0,1]|1=>[0,1]|2=>[0,1,4,5]|3=>[0,1,4,5,13,14,15]|4=>[0,1,4,5,13,14,15]|5=>[0,1,4,5,8,13,14,15]|6=>[0,1,4,5,13,14,15]|7=>[0,1,4,5]|8=>[0,1,4,5,26,27,28]|9=>[0,1,4,5,26,27,28]|10=>[0,1,4,5,10,26,27,28]|11=>[0,1,4,5,26,27,28]|12=>[0,1,4,5]|1000000=>[0,0,1,4,5]|1000002=>[0,0,1,4,5]|_=>[]
def BlZ:Nat->List Nat|0=>[0,1]|1=>[1,2,4]|2=>[1,4]|3=>[1,2,4]|4=>[4]|5=>[1,2,4]|6=>[4]|7=>[1,2,4]|8=>[4]|9=>[1,2,4]|10=>[1,2,4]|11=>[2,4,6,7]|12=>[4,7]|13=>[2,4,6]|14=>[2,4,6,8]|15=>[4,6]|16=>[4,6,8]|17=>[4,7,9]|18=>[1,2,4]|19=>[1,4,10]|20=>[1,4,10,11]|21=>[1,4,10,11,13]|22=>[1,4,10,11,13]|23=>[1,4,10,11,13]|24=>[1,4,10,11,12,13]|25=>[4,12]|26=>[4,11]|1000000=>[0,1,2,4]|1000001=>[0,4,11]|_=>[]
def Bm0:Nat->List Nat|0=>[0,1,2,3]|1=>[0,1,2,3]|2=>[0,1,2,3,9]|3=>[0,1,2,9,13,14]|4=>[0,1,2,9,13,14]|5=>[0,1,2,9,10,13,14]|6=>[0,1,2,9,13,14]|7=>[9]|1000000=>[0,9]|_=>[]
def Bm1:Nat->List Nat|0=>[0,1,2]|1=>[3,4,5,6]|2=>[3,4,5,6]|3=>[3,4,5,6]|2000002=>[0,3,4,5,6]|_=>[]
def Bm2:Nat->List Nat|0=>[0]|1=>[0]|_=>[]
def Bm3:Nat->List Nat|0=>[0,1]|1=>[0,1]|3=>[0,1]|_=>[]
def Bm4:Nat->List Nat|0=>[0,1,2]|1=>[0,1,2,6]|2=>[0,1,2,6,7,8]|3=>[0,1,2,6,7,8]|4=>[0,1,2,6,8]|5=>[0,1,2,6,7,8]|6=>[0,1,2,6,7]|7=>[0,1,2,6]|8=>[0,1,2,6]|9=>[0,1,2,6,7,8]|10=>[0,1,2,6,7,8]|11=>[0,1,2,6,8]|12=>[0,1,2,6,7,8]|13=>[0,1,2,6,7]|14=>[0,1,2,6,7,9]|15=>[0,1,2,6,7,9]|16=>[0,1,2,6]|1000000=>[0,0,1,2,6,7]|1000002=>[0]|1000004=>[0,0,1,2,6,7]|2000015=>[0,0,1,2,6]|_=>[]
def Bm5:Nat->List Nat|0=>[0,1]|1=>[0,1]|3=>[0,1]|_=>[]
def Bm6:Nat->List Nat|0=>[0,1]|1=>[0,1]|3=>[0,1]|_=>[]
def Bm7:Nat->List Nat|0=>[0,1]|1=>[2,3]|2=>[2,3,5]|3=>[2,3,5,6]|4=>[6]|5=>[2,3,5]|6=>[2,3,5,7]|7=>[7]|8=>[2,3,5]|9=>[2,3,8]|10=>[8]|11=>[2,3]|_=>[]
def Bm8:Nat->List Nat|0=>[0,1]|1=>[0,1]|2=>[0,1,7,8]|3=>[0,1,7,8]|4=>[0,1,5,7,8]|5=>[5]|6=>[0,1,7,8]|1000000=>[0]|_=>[]
def Bm9:Nat->List Nat|0=>[0,1]|1=>[1,2,4]|2=>[1,2,4,5]|3=>[2,4,5,7]|4=>[2,4,7,15,16]|5=>[2,4,7,15,16]|6=>[2,4,7,15,16]|7=>[4,7]|1000000=>[0,4,7]|_=>[]
def BmA:Nat->List Nat|0=>[0,1]|1=>[0,1]|_=>[]
def BmB:Nat->List Nat|0=>[0,1]|1=>[0,1]|_=>[]
def BmC:Nat->List Nat|0=>[0,1]|1=>[0,1]|3=>[0,1]|_=>[]
def BmD:Nat->List Nat|0=>[0,1]|1=>[0,1]|_=>[]
def BmE:Nat->List Nat|0=>[0,1]|1=>[0,1]|2=>[1]|3=>[0,1]|5=>[0,1]|6=>[0,5]|7=>[0,5]|8=>[5]|2000007=>[0,5]|_=>[]
def BmF:Nat->List Nat|0=>[0]|1=>[0]|_=>[]
def BmG:Nat->List Nat|0=>[0]|1=>[0]|2=>[0,4]|3=>[4,10,11,12]|4=>[4,10,11,12]|5=>[4,5,6,10,11,12]|7=>[4,5,6,10,11,12]|8=>[4,10,11,12]|9=>[7000004,4]|1000000=>[0,4]|_=>[]
def BmH:Nat->List Nat|0=>[0]|1=>[0]|2=>[0,4,5]|3=>[0,4,5,10,11]|4=>[0,4,5,10,11]|5=>[0,4,5,6,10,11]|6=>[0,4,5,7,8,10,11]|7=>[0,4,5,7,10,11]|8=>[0,4,5,7,10,11]|9=>[0,4,5,10,11]|10=>[4,5]|11=>[4,5]|12=>[5]|13=>[4,5]|14=>[4]|1000000=>[0,4,5]|1000001=>[0,0,4,5,10,11]|_=>[]
def BmI:Nat->List Nat|0=>[0]|1=>[0]|2=>[0,4,5]|3=>[0,4,5,6]|4=>[0,4,5,6,11,12]|5=>[0,4,5,6,11,12]|6=>[0,4,5,6,7,11,12]|7=>[0,4,5,6,8,9,11,12]|9=>[0,4,5,6,8,9,11,12]|10=>[0,4,5,6,8,11,12]|11=>[0,4,5,11,12]|12=>[0,4,5,6,8,11,12]|13=>[0,4,5,6,11,12]|14=>[4,5,6]|16=>[4,5]|1000000=>[0,4,5,6]|1000001=>[0,0,4,5,6,11,12]|_=>[]
def BmJ:Nat->List Nat|0=>[0,1,2,3]|1=>[0,1,2,3,8]|2=>[0,1,2,3,8]|3=>[0,1,2,3,8]|4=>[0,1,2,3,8,9]|5=>[0,1,2,3,8,9]|6=>[0,1,2,3,8,9]|1000000=>[0]|1000002=>[0,0,1,2,3,8]|_=>[]
def BmK:Nat->List Nat|0=>[0,1,2,3,4]|1=>[0,1,2,3,4]|2=>[0,1,3,4,10]|3=>[0,1,4,10,11]|4=>[0,1,4,10,11]|5=>[0,1,4,10,11,12]|6=>[0,1,4,11,12]|7=>[0,1,4,10,12]|8=>[0,1,10]|9=>[0,10,13]|10=>[0,10,13]|11=>[0,10,13]|12=>[0,1,2,3,4]|13=>[0,1,2,4]|14=>[0,2,4,14]|15=>[0,2,4,14,15]|16=>[0,2,4,14,15]|17=>[0,2,4,14,15,16]|18=>[0,2,4,15,16]|19=>[0,2,4,14,16]|20=>[0,2,14]|21=>[0,14,17]|22=>[0,14,17]|23=>[0,14,17]|24=>[0,1,2,3,4]|25=>[0,1,2,3,4,18]|26=>[0,1,2,3,4,18,19]|27=>[0,1,2,3,4,18,19]|28=>[0,1,2,3,4,18,19]|29=>[0,1,2,3,4,18,19,20]|30=>[0,1,2,3,4,18,19]|31=>[0,1,2,3,4,18,19,20]|32=>[0,1,2,3,4,18,19,20,21]|33=>[0,1,2,3,4,18,19,20,21,22]|34=>[0,1,2,3,4,18,19,20,21,22]|35=>[0,1,2,3,4,18,19,20,21,22,23]|36=>[0,1,2,3,4,18,19,21,22,23]|37=>[0,1,2,3,4,18,19,20,22,23]|38=>[0,1,2,3,4,18,19,20]|39=>[0,1,2,3,4,18,20,24]|40=>[0,1,2,3,4,18,20,24]|41=>[0,1,3,4,18,20,24]|42=>[0,1,3,4,18,20,24]|43=>[0,3,4,18,24]|44=>[0,3,4,18,24]|1000000=>[0,0,1,10]|1000002=>[0]|1000004=>[0,0,2,14]|1000006=>[0]|1000008=>[0,0,1,2,3,4,18,19,20]|2000028=>[0,0,1,2,3,4,18,19,20,21]|2000040=>[0,0,1,3,4,18,20,24]|2000042=>[0,0,3,4,18,24]|_=>[]
def BmL:Nat->List Nat|0=>[0,1]|1=>[0,1]|2=>[1,7,8]|3=>[1,7,8]|4=>[1,5,7,8]|5=>[1,6,7,8]|6=>[6]|7=>[1,7,8]|1000000=>[0]|_=>[]
def BmM:Nat->List Nat|0=>[0,1,2]|1=>[0,1,2]|_=>[]
def BmN:Nat->List Nat|0=>[0,1,2]|1=>[0,1,2]|_=>[]
def BmO:Nat->List Nat|0=>[0]|1=>[0]|2=>[0]|3=>[0]|_=>[]
def BmP:Nat->List Nat|0=>[0,1]|1=>[0,1]|2=>[0]|_=>[]
def BmQ:Nat->List Nat|0=>[0,1]|1=>[2,3]|_=>[]
def BmR:Nat->List Nat|0=>[0,1]|1=>[0,3]|2=>[0,3]|3=>[0,3]|2000002=>[0,0,3]|_=>[]
def BmS:Nat->List Nat|0=>[0,1]|1=>[1,2]|2=>[2]|5=>[1,2]|_=>[]
def BmT:Nat->List Nat|0=>[0,1]|1=>[0,1]|2=>[0]|3=>[0,1]|4=>[0]|1000000=>[0]|_=>[]
def BmU:Nat->List Nat|0=>[0,1,2,3,4]|1=>[0,2,3,4,10]|2=>[0,2,4,10,11]|3=>[0,2,4,10,11]|4=>[0,2,4,10,11]|5=>[0,2,4,10,11]|6=>[0,2,4,10,11]|7=>[0,2,4,10,11]|8=>[0,2,4,10]|1000000=>[0,0,2,4,10]|_=>[]
def BmV:Nat->List Nat|0=>[0,1,2,3]|1=>[0,1,2,3,10]|2=>[0,1,2,3,10]|3=>[0,1,2,3,10]|1000000=>[0]|_=>[]
def BeH:Nat->List Nat|0=>[0]|1=>[1,2,14000000]|2=>[10003001,1,2,3]|3=>[2,3,11,12,13,16003001]|4=>[2,3,11,12,13]|5=>[2,3,5,11,12,13]|6=>[2,3,11,12,13]|7=>[2,3]|1000000=>[0,2,3,16003001]|_=>[]
def H:Nat->Nat->List Nat
 |5=>h5
 |6=>h6
 |7=>h7
 |9=>h9
 |11=>h11
 |13=>h13
 |14=>h14
 |15=>h15
 |17=>h17
 |19=>h19
 |20=>h20
 |21=>h21
 |28=>h28
 |29=>h29
 |30=>h30
 |31=>h31
 |32=>h32
 |36=>h36
 |37=>h37
 |38=>h38
 |39=>h39
 |40=>h40
 |44=>h44
 |45=>h45
 |46=>h46
 |47=>h47
 |52=>h52
 |53=>h53
 |54=>h54
 |55=>h55
 |56=>h56
 |57=>h57
 |58=>h58
 |59=>h59
 |60=>h60
 |69=>h69
 |70=>h70
 |71=>h71
 |72=>h72
 |73=>h73
 |74=>h74
 |75=>h75
 |76=>h76
 |77=>h77
 |78=>h78
 |79=>h79
 |80=>h80
 |81=>h81
 |82=>h82
 |83=>h83
 |95=>h95
 |96=>h96
 |98=>h98
 |99=>h99
 |100=>BkG
 |101=>BkH
 |102=>BkI
 |103=>BkJ
 |104=>BkK
 |105=>BkL
 |106=>BkM
 |107=>BkN
 |108=>BkO
 |109=>BkP
 |120=>BkQ
 |121=>BkR
 |122=>BkS
 |123=>BkT
 |124=>BkU
 |125=>BkV
 |126=>BkW
 |127=>BkX
 |128=>BkY
 |129=>BkZ
 |130=>Bl0
 |131=>Bl1
 |132=>Bl2
 |144=>Bl3
 |145=>Bl4
 |146=>Bl5
 |147=>Bl6
 |148=>Bl7
 |149=>Bl8
 |150=>Bl9
 |151=>BlA
 |152=>BlB
 |153=>BlC
 |154=>BlD
 |155=>BlE
 |164=>BlF
 |165=>BlG
 |166=>BlH
 |167=>BlI
 |168=>BlJ
 |169=>BlK
 |170=>BlL
 |171=>BlM
 |172=>BlN
 |173=>BlO
 |175=>BlP
 |185=>BlQ
 |186=>BlR
 |187=>BlS
 |188=>BlT
 |189=>BlU
 |190=>BlV
 |191=>BlW
 |192=>BlX
 |194=>BlY
 |195=>BlZ
 |196=>Bm0
 |197=>Bm1
 |209=>Bm2
 |210=>Bm3
 |211=>Bm4
 |212=>Bm5
 |213=>Bm6
 |214=>Bm7
 |215=>Bm8
 |217=>Bm9
 |218=>BmA
 |219=>BmB
 |220=>BmC
 |221=>BmD
 |222=>BmE
 |224=>BmF
 |225=>BmG
 |226=>BmH
 |227=>BmI
 |229=>BmJ
 |230=>BmK
 |231=>BmL
 |232=>BmM
 |233=>BmN
 |236=>BmO
 |237=>BmP
 |238=>BmQ
 |239=>BmR
 |240=>BmS
 |241=>BmT
 |242=>BmU
 |244=>BmV
 |1000032=>BeH
 |_=>λ_=>[]
def g10:Nat->List Nat|2=>[1]|3=>[1,2,3,4]|4=>[1,2,3,4,7]|5=>[2,3,4,7,10]|_=>[]
def g22:Nat->List Nat|0=>[0,1]|1=>[2,3,4]|_=>[]
def g23:Nat->List Nat|0=>[0,1]|1=>[0,3,4]|_=>[]
def g24:Nat->List Nat|0=>[0]|1=>[0,2]|_=>[]
def g25:Nat->List Nat|0=>[0]|1=>[1,2]|_=>[]
def g26:Nat->List Nat|0=>[0]|1=>[0,2]|2=>[0,2,3]|3=>[0,2,3,4]|4=>[0,2,3,4]|5=>[0,2,3,4]|6=>[2,3]|1000000=>[0,2,3]|_=>[]
def g27:Nat->List Nat|0=>[0]|1=>[0,2]|_=>[]
def H0:Nat->Nat->List Nat
 |10=>g10
 |22=>g22
 |23=>g23
 |24=>g24
 |25=>g25
 |26=>g26
 |27=>g27
 |n=>H n
noncomputable abbrev P:=Go.Proofs.Tryz.prog
def AdD:Option Bool:=some true
def AmC:Call:=λ_ args lh=>match args,lh with
 | [],[]=>some (.ret (.d (.bool true)) [])
 |_,_=>none
def E0:Nat->Option Call:=λf=>if f=97 then some Ah9 else if f=193 then some Ae4 else if f=156 then some AcM else if f=174 then some Run.heldCall else none
def E:Nat->Option Call:=λf=>if f=10 then some AmC else E0 f
noncomputable abbrev X:Ctx:=⟨P,E,H⟩
theorem AwV {r:Bool} (h:AdD=some r):aval X 10 [] [] (.ret (.d (.bool r)) []):=
 aval_ext (g:=AmC) (args':=[]) rfl rfl (by cases h; rfl)
instance:Ok AdD λr=>aval X 10 [] [] (.ret (.d (.bool r)) []):=⟨AwV⟩
def sB (l:List Int):Option (Nat×List Int):=if l.length<=4294967296 then some (l.length,l) else none
theorem AwU {l:List Int} {r:Nat×List Int} (h:sB l=some r):aval X 97 [.d (.list 1 (l.map (D.int .i64)))] [] (.ret (.c (.arr 0 r.1 1)) [[.seq 1 (r.2.map (D.int .i64))]]):=
 aval_ext (g:=Ah9) (args':=[.d (.list 1 (l.map (D.int .i64)))]) rfl rfl (by
  unfold sB at h
  split at h
  ·rename_i hl
   cases h
   show Option.bind _ _=_
   rw[AeE]
   show ite _ _ _=_
   rw[if_pos hl]; rfl
  cases h)
def AdC (n:Nat) (i j:Int) (l:List Int):Option (List Int×List Int):=if l.length=n/\0<n/\n<=4294967296/\0<=i/\i<=j/\j<=n then some (l.take i.toNat++l.drop j.toNat,[]) else none
theorem Au8 {n:Nat} {i j:Int} {l:List Int} {r:List Int×List Int} (h:AdC n i j l=some r) :
  aval X 193 [.arr 0 n 1,.d (.int .i64 i),.d (.int .i64 j)] [[.seq 1 (l.map (D.int .i64))]] (.ret (.d (.list 1 (r.1.map (D.int .i64)))) [[.seq 1 (r.2.map (D.int .i64))]]):=
 aval_ext (g:=Ae4) (args':=[.arr 0 n 1,.d (.int .i64 i),.d (.int .i64 j)]) rfl rfl (by
  unfold AdC at h
  split at h
  ·rename_i hl
   cases h
   show Option.bind _ _=_
   rw[AeE]
   show ite _ _ _=_
   rw[if_pos hl]; rfl
  cases h)
def Ab6 (n:Nat) (l:List Int):Option (List Int):=if l.length=n/\n<=4294967296 then some l.reverse else none
theorem Ar4 {n:Nat} {l r:List Int} (h:Ab6 n l=some r):aval X 156 [.arr 0 n 1] [[.seq 1 (l.map (D.int .i64))]] (.ret (.tuple []) [[.seq 1 (r.map (D.int .i64))]]):=
 aval_ext (g:=AcM) (args':=[.arr 0 n 1]) rfl rfl (by
  unfold Ab6 at h
  split at h
  ·rename_i hl
   cases h
   show Option.bind _ _=_
   rw[AeE]
   show ite _ _ _=_
   rw[if_pos hl]; rfl
  cases h)
def rX (op a b:Int):Option Int:=Run.heldI op a b
theorem Az6 {op a b r:Int} (h:rX op a b=some r):aval X 174 [.d (.int .i64 op),.d (.int .i64 a),.d (.int .i64 b)] [] (.ret (.d (.int .i64 r)) []):=
 aval_ext (g:=Run.heldCall) (args':=[.d (.int .i64 op),.d (.int .i64 a),.d (.int .i64 b)]) rfl rfl (by show Option.map _ (Run.heldI op a b)=_; rw[show Run.heldI op a b=some r from h]; rfl)
instance {op a b:Int}:Ok (rX op a b) λr=>aval X 174 [.d (.int .i64 op),.d (.int .i64 a),.d (.int .i64 b)] [] (.ret (.d (.int .i64 r)) []):=⟨Az6⟩
instance {l:List Int}:Ok (sB l) λr=>aval X 97 [.d (.list 1 (l.map (D.int .i64)))] [] (.ret (.c (.arr 0 r.1 1)) [[.seq 1 (r.2.map (D.int .i64))]]):=⟨AwU⟩
instance {n:Nat} {l:List Int}:Ok (Ab6 n l) λr=>aval X 156 [.arr 0 n 1] [[.seq 1 (l.map (D.int .i64))]] (.ret (.tuple []) [[.seq 1 (r.map (D.int .i64))]]):=⟨Ar4⟩
instance {n:Nat} {i j:Int} {l:List Int}:Ok (AdC n i j l) λr=>aval X 193 [.arr 0 n 1,.d (.int .i64 i),.d (.int .i64 j)] [[.seq 1 (l.map (D.int .i64))]] (.ret (.d (.list 1 (r.1.map (D.int .i64)))) [[.seq 1 (r.2.map (D.int .i64))]]):=⟨Au8⟩
abbrev LI:=List Int
theorem I {α:Sort _} {a:α}:a=a:=rfl
abbrev iZ (n:Int):D:=.int .i64 n
abbrev lI (l:List Int):D:=.list 1 (List.map (D.int .i64) l)
abbrev oI (l:List Int):C:=.own 1 (List.map (D.int .i64) l)
abbrev lS (l:List Str):D:=.list 1 (List.map D.str l)
abbrev oS (l:List Str):C:=.own 1 (List.map D.str l)
abbrev lC (l:List aA):D:=.list 3 (List.map aD l)
abbrev oC (l:List aA):C:=.own 3 (List.map aD l)
abbrev lN (l:List Node):D:=.list 7 (List.map rB l)
abbrev oN (l:List Node):C:=.own 7 (List.map rB l)
abbrev B:=@AfK
abbrev E_:=@AkR
abbrev S_:=@AtN
abbrev N_:=@lE.normal
abbrev P_:=@fQ.pan
abbrev C_:=@fQ.ret
abbrev R_:=@Ba7
abbrev K_:=@AvU
abbrev W_:=@xQ
abbrev Q_:=@lE.ret
abbrev U_:=@lE.pan
abbrev O_:=@AjU
abbrev X_:=@AvT
end Go.AM.Seat
namespace Go.Proofs
open Go.Shelf
def Tryz.laysSlE35_f156_ren:Go.Shelf.Ren:=⟨fun|35=>156|n=>n,fun|22=>26|23=>3|3=>3|4=>4|0=>0|n=>n,fun|n=>n⟩
theorem Tryz.laysSlE35_f156:Go.Proofs.SlLaysE.n35 Tryz.prog Tryz.laysSlE35_f156_ren:={
 mixed:=by kernel_rfl
 f35:=⟨Tryz.f156.name,by decide,Tryz.func156.trans (congrArg some (by kernel_rfl))⟩
 t0:=Tryz.underlying0
 a0:=Tryz.isAgg0
 z0:=Tryz.sizeOf0
 v0:=Tryz.zeroValue0
 t3:=Tryz.underlying3
 a3:=Tryz.isAgg3
 z3:=Tryz.sizeOf3
 v3:=Tryz.zeroValue3
 t4:=Tryz.underlying4
 a4:=Tryz.isAgg4
 z4:=Tryz.sizeOf4
 v4:=Tryz.zeroValue4
 t22:=Tryz.underlying26
 a22:=Tryz.isAgg26
 z22:=Tryz.sizeOf26
 v22:=Tryz.zeroValue26
 a23:=Tryz.isAgg3
 z23:=Tryz.sizeOf3 }
def Tryz.laysSlE45_f193_ren:Go.Shelf.Ren:=⟨fun|45=>193|n=>n,fun|22=>26|23=>3|3=>3|4=>4|0=>0|n=>n,fun|n=>n⟩
theorem Tryz.laysSlE45_f193:Go.Proofs.SlLaysE.n45 Tryz.prog Tryz.laysSlE45_f193_ren:={
 mixed:=by kernel_rfl
 f45:=⟨Tryz.f193.name,by decide,Tryz.func193.trans (congrArg some (by kernel_rfl))⟩
 t0:=Tryz.underlying0
 a0:=Tryz.isAgg0
 z0:=Tryz.sizeOf0
 v0:=Tryz.zeroValue0
 t3:=Tryz.underlying3
 a3:=Tryz.isAgg3
 z3:=Tryz.sizeOf3
 v3:=Tryz.zeroValue3
 t4:=Tryz.underlying4
 a4:=Tryz.isAgg4
 z4:=Tryz.sizeOf4
 v4:=Tryz.zeroValue4
 t22:=Tryz.underlying26
 a22:=Tryz.isAgg26
 z22:=Tryz.sizeOf26
 v22:=Tryz.zeroValue26
 a23:=Tryz.isAgg3
 z23:=Tryz.sizeOf3 }
def Tryz.laysSlE041_f97_ren:Go.Shelf.Ren:=⟨fun|41=>97|n=>n,fun|22=>26|23=>3|4=>4|n=>n,fun|n=>n⟩
theorem Tryz.laysSlE041_f97:Go.Proofs.SlLaysE0.n41 Tryz.prog Tryz.laysSlE041_f97_ren:={
 mixed:=by kernel_rfl
 f41:=⟨Tryz.f97.name,by decide,Tryz.func97.trans (congrArg some (by kernel_rfl))⟩
 t4:=Tryz.underlying4
 a4:=Tryz.isAgg4
 z4:=Tryz.sizeOf4
 v4:=Tryz.zeroValue4
 t22:=Tryz.underlying26
 a22:=Tryz.isAgg26
 z22:=Tryz.sizeOf26
 v22:=Tryz.zeroValue26 }
end Go.Proofs
namespace Go.AM.Seat
open Go Go.AM Go.Proofs
set_option maxRecDepth 100000
set_option maxHeartbeats 0
theorem BeX:oB P where
 func f fn h:=by
  have hall:(P.funcs.toList.all Aj6)=true:=by kernel_rfl
  exact List.all_eq_true.1 hall fn (by rw[←Array.getElem?_toList] at h; exact List.mem_of_getElem? h)
 mixed:=Tryz.laysSlE35_f156.mixed
theorem AtQ:Callee P 97:=⟨_,Tryz.func97,by kernel_rfl⟩
theorem AqS:Callee P 193:=⟨_,Tryz.func193,by kernel_rfl⟩
theorem AoJ:Callee P 156:=⟨_,Tryz.func156,by kernel_rfl⟩
theorem Aw1:Callee P 174:=⟨_,Tryz.func174,by kernel_rfl⟩
theorem BeK:(P.info? 3).isSome=true:=by kernel_rfl
noncomputable def i3:TypeInfo:=(P.info? 3).get BeK
theorem BiD:i3.zero.isSome=true:=by kernel_rfl
noncomputable def z3:Value:=i3.zero.get BiD
instance:cR:=⟨[]⟩
theorem Ap7:∀f g,E0 f=some g->∀args lh r,g f args lh=some r->Callee P f/\CallOK P f args lh r:=by
 intro f g hf args lh r h
 unfold E0 at hf
 split at hf
 ·rename_i e
  subst e
  simp only[sJ] at hf
  subst hf
  exact⟨AtQ,BdX (ρ:=Tryz.laysSlE041_f97_ren) Tryz.laysSlE041_f97 i3 z3 (Option.some_get BeK).symm (Option.some_get BiD).symm (by kernel_rfl) (by kernel_rfl) (by kernel_rfl) h⟩
 split at hf
 ·rename_i e
  subst e
  simp only[sJ] at hf
  subst hf
  exact⟨AqS,BbS (ρ:=Tryz.laysSlE45_f193_ren) Tryz.laysSlE45_f193 Tryz.zeroValue3 i3 (Option.some_get BeK).symm (by kernel_rfl) h⟩
 split at hf
 ·rename_i e
  subst e
  simp only[sJ] at hf
  subst hf
  exact⟨AoJ,AzM (ρ:=Tryz.laysSlE35_f156_ren) Tryz.laysSlE35_f156 h⟩
 split at hf
 ·rename_i e
  subst e
  simp only[sJ] at hf
  subst hf
  exact⟨Aw1,Run.held_ok h⟩
 cases hf
theorem BcY:zO P E0 H0 200 10 [] []=some (.ret (.d (.bool true)) []):=by kernel_rfl
theorem Bc3:∀f g,E f=some g->∀args lh r,g f args lh=some r->Callee P f/\CallOK P f args lh r:=by
 intro f g hf args lh r h
 unfold E at hf
 split at hf
 ·rename_i e
  subst e
  simp only[sJ] at hf
  subst hf
  unfold AmC at h
  split at h
  ·simp only[sJ] at h
   subst h
   exact (AbO BeX Ap7 H0 200).o 10 [] [] _ BcY
  cases h
 exact Ap7 f g hf args lh r h
theorem call_ok {f:Nat} {args:List C} {lh:List (List C)} {r:aE} (h:aval X f args lh r):CallOK P f args lh r:=by
 obtain⟨k,hk⟩:=h
 refine ((AbO BeX Bc3 H k).o f args lh r ?_).2
 exact hk k (Nat.le_refl k)
theorem no_glob (w:World):Av9 w:=λx hx=>by simp[cR.tab] at hx
end Go.AM.Seat
