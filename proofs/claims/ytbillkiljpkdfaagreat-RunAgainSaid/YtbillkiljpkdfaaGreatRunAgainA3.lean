/- Part of a proof about the given program: the abstract machine, the printed functions, the plain laws. -/
import Derived.Test.YtbillkiljpkdfaaGreatRunAgainA2
import Derived.Recover
import Derived.Below
import Derived.Shelf.Strings.Fields
import Derived.Shelf.Strings.OnBuilder
import Derived.Shelf.Strings.IndexAnyAll
import Derived.Shelf.Small.Strs
import Derived.Shelf.SlicesE.Clone
import Derived.Shelf.SlicesE.Reverse
import Derived.Shelf.SlicesE.Delete
import Derived.Laws.AppendOwnNone
import Derived.Test.YtbillkiljpkdfaaGreatProg
import Derived.WalkKit
import Derived.ProofKit
import Derived.Handy
import Derived.KernelRfl
import Derived.LaidSub
import Derived.MakeChecks
set_option linter.all false
set_option maxRecDepth 100000
set_option maxHeartbeats 4000000
namespace Go.AM
open Go
variable [cU]
section
variable {P:Program} {K K':Col} {μ μ':Nat->Nat} {w w':World} {s:St} {a:Act}
structure zZ (P:Program) (call:Call):Prop where
 o:pY P (AcC call)
 v:pY P (As6 call)
theorem BaD {call:Call} (hcall:zZ P call) (hP:oW P) (hs:Sim K μ s a w) {o:Oper} {V:V} {s':St} (h:spec P call o s=some (V,s')) (hd:∀t,o.dst=some t->t<a.tmps.size)
  {next:Act->World->Prop} {Q:Exit->Act->World->Prop} (hb:AjF P K μ s a w o (.val V s') next Q):o.wp P a w next Q:=by
 unfold spec at h
 split at h
 ·rename_i r hr
  simp only[sJ] at h; subst h
  exact AnV hs hr hd hb
 split at h
 ·rename_i c ho
  split at h
  ·rename_i f hc
   split at h
   ·rename_i g args hf hargs
    split at h
    ·rename_i v s1 ids hdc
     simp only[sJ,pJ] at h
     obtain⟨rfl,rfl⟩:=h
     have hev:cV P (As6 call) s.nid o s=some (.val v s1,⟨ids,ids,[]⟩):=by
      simp only[cV,ho,hc,hf,hargs,List.map_nil,List.append_nil,hdc]
     exact uV hcall.v hP hs hev hd hb
    simp at h
   simp at h
  simp at h
 simp at h
theorem AaS {call:Call} (hcall:zZ P call) (hP:oW P) {ops:Array Oper} {sz:Nat} (hd:∀o∈ops.toList,∀t,o.dst=some t->t<sz) {x:AX} {s':St}
  {Q:Exit->Act->World->Prop}:∀(l:List Oper) (i:Nat) (K:Col) (μ:Nat->Nat) (s:St) (a:Act) (w:World),ops.toList.drop i=l->AbO P call ops l s=some (x,s') ->
   Sim K μ s a w->a.tmps.size=sz->AjG K μ w s.nid sz x s' Q->wpOps P ops Q (List.range' i l.length) a w
 | [],i,K,μ,s,a,w,_,h,hs,hsz,hg=>by
  simp only[AbO,sJ,pJ] at h
  obtain⟨rfl,rfl⟩:=h
  exact hg .normal K μ a w rfl (fT.refl _ _ _ _) (Nat.le_refl _) hs hsz
 |o::l,i,K,μ,s,a,w,hl,h,hs,hsz,hg=>by
  have hoi:ops[i]?=some o:=by
   have:(ops.toList.drop i)[0]?=some o:=by rw[hl]; rfl
   rw[rS] at this
   simpa using this
  have hl':ops.toList.drop (i+1)=l:=by
   rw[←List.drop_drop,hl]; rfl
  have hom:o∈ops.toList:=by
   have:o∈ops.toList.drop i:=by rw[hl]; simp
   exact List.mem_of_mem_drop this
  have hdo:∀t,o.dst=some t->t<a.tmps.size:=by rw[hsz]; exact hd o hom
  simp only[List.length_cons,List.range'_succ,wpOps,hoi]
  simp only[AbO] at h
  split at h
  ·simp at h
  ·rename_i hw
   rw[wT hs hw]
   simp only[fJ,if_false]
   have hs':=hs.put (dst:=o.dst) (V:=.c .undef) (v:=Go.undef) hdo sW
   have hn:(putDst o (.c .undef) s).nid=s.nid:=by unfold putDst mR; cases o.dst<;>rfl
   exact AaS hcall hP hd l (i+1) K μ _ _ w hl' h hs' (by rw[mS]; exact hsz) (by rw[hn]; exact hg)
  rename_i hw
  rw[wT hs hw]
  simp only[if_true]
  split at h
  ·rename_i v s1 hop
   refine .inl (BaD hcall hP hs hop hdo ⟨?_,sM⟩)
   intro V s'' K' μ' a' w' e haf hn hs' hsz'
   simp only[gR.val.injEq] at e
   obtain⟨rfl,rfl⟩:=e
   have hn':(putDst o v s1).nid=s1.nid:=by unfold putDst mR; cases o.dst<;>rfl
   exact AaS hcall hP hd l (i+1) K' μ' _ a' w' hl' h hs' (by rw[hsz',hsz]) (by rw[hn']; exact hg.later haf hn)
  split at h
  ·rename_i v s1 f hop
   refine .inl (uV hcall.o hP hs hop hdo ⟨?_,sM⟩)
   intro V s'' K' μ' a' w' e haf hn hs' hsz'
   simp only[gR.val.injEq] at e
   obtain⟨rfl,rfl⟩:=e
   have hn':(putDst o v s1).nid=s1.nid:=by unfold putDst mR; cases o.dst<;>rfl
   exact AaS hcall hP hd l (i+1) K' μ' _ a' w' hl' h hs' (by rw[hsz',hsz]) (by rw[hn']; exact hg.later haf hn)
  ·rename_i d s1 f hop
   simp only[sJ,pJ] at h
   obtain⟨rfl,rfl⟩:=h
   refine .inl (uV hcall.o hP hs hop hdo ⟨sM,?_⟩)
   intro d' s'' K' μ' w' u e haf hn hs' hr
   simp only[gR.pan.injEq] at e
   obtain⟨rfl,rfl⟩:=e
   exact hg _ K' μ' a w' ⟨u,rfl,hr⟩ haf hn hs' hsz
  simp at h
theorem AqD {f:St->Option (AX×St)} {keep:List Nat} {n sz:Nat} {c:Code} {x:AX} {s':St} {Q:Exit->Act->World->Prop}
  (hf:∀{K:Col} {μ:Nat->Nat} {w:World} {s:St} {a:Act} {x:AX} {s':St} {Q:Exit->Act->World->Prop},f s=some (x,s')->Sim K μ s a w->a.tmps.size=sz->AjG K μ w s.nid sz x s' Q->c.wp P Q a w) :
  ∀(k:Nat) (K:Col) (μ:Nat->Nat) (s:St) (a:Act) (w:World),iter f (aJ keep n) k s=some (x,s')->Sim K μ s a w->a.tmps.size=sz->n<=s.nid->AjG K μ w n sz x s' Q->Code.rounds P c Q k a w
 |0,K,μ,s,a,w,h,_,_,_,_=>by simp[iter] at h
 |k+1,K,μ,s,a,w,h,hs,hsz,hn,hg=>by
  simp only[iter] at h
  rw[rounds_succ]
  split at h
  ·simp at h
  rename_i s1 hc
  obtain⟨K1,μ1,hst1,hmu1,hs1,hn1,_⟩:=hs.clean hc
  have ha1:fT K μ w n K1 μ1 w:=⟨hst1,hmu1⟩
  split at h
  ·rename_i s2 hf2
   refine hf hf2 hs1 hsz ?_
   intro e K' μ' a' w' ho ha hn2 hs2 hsz2
   simp only[Out] at ho
   subst ho
   have ha2:fT K μ w n K' μ' w':=ha1.trans ha hn1
   exact AqD hf k K' μ' s2 a' w' h hs2 hsz2 oM (hg.later ha2 (Nat.le_refl _))
  rename_i r hnot
  cases hr:f s1 with
  |none=>rw[hr] at h; simp at h
  |some r'=>
   obtain⟨x',s2⟩:=r'
   rw[hr] at h
   have hx':x'≠.normal:=by
    intro e; subst e
    exact hnot s2 hr
   simp only[sJ,pJ] at h
   obtain⟨rfl,rfl⟩:=h
   refine hf hr hs1 hsz ?_
   intro e K' μ' a' w' ho ha hn2 hs2 hsz2
   have ha2:fT K μ w n K' μ' w':=ha1.trans ha hn1
   have hq:=hg e K' μ' a' w' ho ha2 oM hs2 hsz2
   cases e with
   |normal=>cases x'<;>simp[Out] at ho; exact absurd rfl hx'
   |_=>exact hq
theorem AhR {h:List Nat} {n sz:Nat} {r:Option (AX×St)} {x:AX} {s':St} (hr:settle h n r=some (x,s')) :
  ∃s0,r=some (x,s0)/\∀{K:Col} {μ:Nat->Nat} {w:World} {Q:Exit->Act->World->Prop},AjG K μ w n sz x s' Q->AjG K μ w n sz x s0 Q:=by
 unfold settle at hr
 split at hr
 ·rename_i s0
  split at hr
  ·simp only[sJ,pJ] at hr
   obtain⟨rfl,rfl⟩:=hr
   exact⟨_,rfl,λh=>h⟩
  split at hr
  ·rename_i s1 hc
   simp only[sJ,pJ] at hr
   obtain⟨rfl,rfl⟩:=hr
   refine⟨_,rfl,λhg e K' μ' a' w' ho ha hn hs hsz=>?_⟩
   obtain⟨K1,μ1,g1,g2,h1,h2,_⟩:=hs.clean hc
   exact hg e K1 μ1 a' w' (by simp only[Out] at ho ⊢; exact ho) (ha.trans ⟨g1,g2⟩ (Nat.le_refl _)) h2 h1 hsz
  simp at hr
 exact⟨_,hr,λh=>h⟩
theorem AxR {id:Nat} {r:Option (AX×St)} {x:AX} {s':St} (hr:leaves id r=some (x,s')) :
  (x=.normal/\r=some (.exit id,s'))\/(r=some (x,s')/\x≠.exit id):=by
 unfold leaves at hr
 split at hr
 ·rename_i id' s0
  split at hr
  ·rename_i he
   simp only[sJ,pJ] at hr
   obtain⟨rfl,rfl⟩:=hr
   exact .inl ⟨rfl,by rw[he]⟩
  rename_i he
  simp only[sJ,pJ] at hr
  obtain⟨rfl,rfl⟩:=hr
  exact .inr ⟨rfl,by simpa using he⟩
 rename_i hno
 refine .inr ⟨hr,?_⟩
 rintro rfl
 exact hno _ _ hr
theorem iX {H:Nat->List Nat} {call:Call} {rounds sz:Nat} (hcall:zZ P call) (hP:oW P) :
  ∀(c:Code) {K:Col} {μ:Nat->Nat} {w:World} {s:St} {a:Act} {x:AX} {s':St} {Q:Exit->Act->World->Prop},dP sz c=true->iW P H call rounds c s=some (x,s') ->
   Sim K μ s a w->a.tmps.size=sz->AjG K μ w s.nid sz x s' Q->c.wp P Q a w
 |.skip,K,μ,w,s,a,x,s',Q,_,h,hs,hsz,hg=>by
  simp only[iW,sJ,pJ] at h
  obtain⟨rfl,rfl⟩:=h
  exact wp_skip (hg _ K μ a w rfl (fT.refl _ _ _ _) (Nat.le_refl _) hs hsz)
 |.label l,K,μ,w,s,a,x,s',Q,_,h,hs,hsz,hg=>by
  simp only[iW,sJ,pJ] at h
  obtain⟨rfl,rfl⟩:=h
  exact wp_label (hg _ K μ a w rfl (fT.refl _ _ _ _) (Nat.le_refl _) hs hsz)
 |.ret,K,μ,w,s,a,x,s',Q,_,h,hs,hsz,hg=>by
  simp only[iW,sJ,pJ] at h
  obtain⟨rfl,rfl⟩:=h
  exact wp_ret (hg _ K μ a w rfl (fT.refl _ _ _ _) (Nat.le_refl _) hs hsz)
 |.exit id,K,μ,w,s,a,x,s',Q,_,h,hs,hsz,hg=>by
  simp only[iW,sJ,pJ] at h
  obtain⟨rfl,rfl⟩:=h
  exact wp_exit (hg _ K μ a w rfl (fT.refl _ _ _ _) (Nat.le_refl _) hs hsz)
 |.seq c d,K,μ,w,s,a,x,s',Q,hd,h,hs,hsz,hg=>by
  simp only[dP,Bool.and_eq_true] at hd
  simp only[iW] at h
  refine wp_seq ?_
  split at h
  ·rename_i s1 h1
   refine iX hcall hP c hd.1 h1 hs hsz ?_
   intro e K' μ' a' w' ho ha hn hs1 hsz1
   simp only[Out] at ho; subst ho
   exact iX hcall hP d hd.2 h hs1 hsz1 (hg.later ha hn)
  rename_i r hnot
  cases hr:iW P H call rounds c s with
  |none=>rw[hr] at h; simp at h
  |some r'=>
   obtain⟨x',s2⟩:=r'
   rw[hr] at h
   have hx':x'≠.normal:=by intro e; subst e; exact hnot s2 hr
   simp only[sJ,pJ] at h
   obtain⟨rfl,rfl⟩:=h
   refine iX hcall hP c hd.1 hr hs hsz ?_
   intro e K' μ' a' w' ho ha hn hs1 hsz1
   have hq:=hg e K' μ' a' w' ho ha hn hs1 hsz1
   cases e with
   |normal=>cases x'<;>simp[Out] at ho; exact absurd rfl hx'
   |_=>exact hq
 |.cond o c d,K,μ,w,s,a,x,s',Q,hd,h,hs,hsz,hg=>by
  simp only[dP,Bool.and_eq_true] at hd
  simp only[iW] at h
  split at h
  ·rename_i ho
   have hr:=cY hs ho
   simp only[bY,RepC,Rep] at hr
   obtain⟨s0,h0,hgo⟩:=AhR (sz:=sz) h
   exact wp_cond_true hr (iX hcall hP c hd.1 h0 hs hsz (hgo hg))
  ·rename_i ho
   have hr:=cY hs ho
   simp only[bY,RepC,Rep] at hr
   obtain⟨s0,h0,hgo⟩:=AhR (sz:=sz) h
   exact wp_cond_false hr (iX hcall hP d hd.2 h0 hs hsz (hgo hg))
  simp at h
 |.block id c,K,μ,w,s,a,x,s',Q,hd,h,hs,hsz,hg=>by
  simp only[dP] at hd
  simp only[iW] at h
  obtain⟨s0,h0,hgo⟩:=AhR (sz:=sz) h
  replace hg:=hgo hg
  refine wp_block ?_
  rcases AxR h0 with ⟨rfl,h1⟩|⟨h1,hne⟩
  ·refine iX hcall hP c hd h1 hs hsz ?_
   intro e K' μ' a' w' ho ha hn hs1 hsz1
   simp only[Out] at ho; subst ho
   simp only[Exit.inBlock,if_true]
   exact hg _ K' μ' a' w' rfl ha hn hs1 hsz1
  refine iX hcall hP c hd h1 hs hsz ?_
  intro e K' μ' a' w' ho ha hn hs1 hsz1
  have hq:=hg e K' μ' a' w' ho ha hn hs1 hsz1
  cases e with
  |exit id'=>
   cases x<;>simp[Out] at ho
   subst ho
   simp only[Exit.inBlock]
   rw[if_neg (by intro e; exact hne (by rw[e]))]
   exact hq
  |_=>exact hq
 |.scope c,K,μ,w,s,a,x,s',Q,hd,h,hs,hsz,hg=>by
  simp only[dP] at hd
  simp only[iW] at h
  refine wp_scope_straight ?_
  refine iX hcall hP c hd h hs hsz ?_
  intro e K' μ' a' w' ho ha hn hs1 hsz1
  have hq:=hg e K' μ' a' w' ho ha hn hs1 hsz1
  cases e with
  |goto l=>cases x<;>simp[Out] at ho
  |_=>exact hq
 |.loop c,K,μ,w,s,a,x,s',Q,hd,h,hs,hsz,hg=>by
  simp only[dP] at hd
  simp only[iW] at h
  exact wp_loop_rounds rounds (AqD (λh1 h2 h3 h4=>iX hcall hP c hd h1 h2 h3 h4) rounds K μ s a w h hs hsz (Nat.le_refl _) hg)
 |.region id ops draw,K,μ,w,s,a,x,s',Q,hd,h,hs,hsz,hg=>by
  simp only[dP,List.all_eq_true] at hd
  have hd':∀o∈ops.toList,∀t,o.dst=some t->t<sz:=by
   intro o ho t ht
   have:=hd o ho
   rw[ht] at this
   simpa using this
  simp only[iW] at h
  split at h
  ·simp at h
  rename_i s0 hfz
  obtain⟨K0,hst0,hn0,_,hs0⟩:=AmH hs hfz
  have hg0:AjG K0 μ w s0.nid sz x s' Q:=hg.later ⟨hst0,λ_ _=>rfl⟩ hn0
  have hk:=hs0.keep (H id)
  split at h
  ·cases draw with
   |true=>
    simp only[if_true] at h
    exact ApD hcall.o hP hP.mixed hd' h hk hsz hg0
   |false=>
    simp only[fJ,if_false] at h
    refine wp_region ?_
    have:=AaS hcall hP hd' ops.toList 0 K0 μ _ a w sM h hk hsz hg0
    rw[List.range_eq_range']
    simpa using this
  cases draw with
  |true=>
   simp only[if_true] at h
   split at h
   ·exact ApD hcall.o hP hP.mixed hd' h hk hsz hg0
   exact ArO hcall.o hP hd' h hk hsz hg0 _
  |false=>
   simp only[fJ,if_false] at h
   split at h
   ·rename_i x1 s1 fs hev
    simp only[sJ,pJ] at h
    obtain⟨rfl,rfl⟩:=h
    refine wp_region ?_
    have:=AgQ hcall.o hP hd' ops.toList 0 K0 μ _ a w [] sM hev hk hsz hg0
    rw[List.range_eq_range']
    simpa using this
   simp at h
 |.rangeFunc _ _ _ _,K,μ,w,s,a,x,s',Q,_,h,_,_,_=>by simp[iW] at h
 |.goto _,K,μ,w,s,a,x,s',Q,_,h,_,_,_=>by simp[iW] at h
 |.refuse _,K,μ,w,s,a,x,s',Q,_,h,_,_,_=>by simp[iW] at h
end
end Go.AM
namespace Go.AM
open Go
variable [cU]
theorem iA {n m:Nat} (h:n<=m):∀c:Code,dP n c=true->dP m c=true
 |.region _ ops _,hd=>by
  simp only[dP,List.all_eq_true] at hd ⊢
  intro o ho
  have:=hd o ho
  cases hdst:o.dst with
  |none=>rfl
  |some d=>
   rw[hdst] at this
   simp only[decide_eq_true_eq] at this ⊢
   exact Nat.lt_of_lt_of_le this h
 |.seq a b,hd=>by
  simp only[dP,Bool.and_eq_true] at hd ⊢
  exact⟨iA h a hd.1,iA h b hd.2⟩
 |.cond _ a b,hd=>by
  simp only[dP,Bool.and_eq_true] at hd ⊢
  exact⟨iA h a hd.1,iA h b hd.2⟩
 |.block _ c,hd=>by simp only[dP] at hd ⊢; exact iA h c hd
 |.loop c,hd=>by simp only[dP] at hd ⊢; exact iA h c hd
 |.scope c,hd=>by simp only[dP] at hd ⊢; exact iA h c hd
 |.skip,_|.label _,_|.ret,_|.exit _,_|.goto _,_|.refuse _,_=>rfl
 |.rangeFunc _ _ _ _,_=>rfl
theorem Af0 {α:Type}:∀{l:List α} {n k:Nat},look k (oK n l)=if n<=k then l[k-n]? else none
 | [],n,k=>by simp[oK,look]
 |x::l,n,k=>by
  simp only[oK,look]
  by_cases h:n=k
  ·subst h; simp
  rw[if_neg h,Af0]
  by_cases h1:n<=k
  ·rw[if_pos oM,if_pos h1,show k-n=(k-(n+1))+1 from by omega]; simp
  rw[if_neg oM,if_neg h1]
def Ac7 (tmps:Array Value):ResultVar->Sem Value
 |.tmp t=>pure (tmps.getD t Go.undef)
 |.cell p t=>do loadVar t (←asAddr (tmps.getD p Go.undef))
theorem Ak6 (fn:Func) (tmps:Array Value):results fn tmps=(do
  let vs ←fn.results.mapM (Ac7 tmps)
  pure (if h:vs.size=1 then vs[0] else .tuple vs)):=by
 unfold results
 congr 2
section
variable {P:Program} {K K':Col} {μ μ':Nat->Nat} {w w':World} {s:St} {a:Act}
theorem BfN (hs:Sim K μ s a w) {r:ResultVar} {c:C} (h:BdC P s r=some c) :
  ∃u,(Ac7 a.tmps r).run P w=.ok u w/\RepC K μ w c u /\
   (∀b∈c.ids,b<s.nid)/\∀sz xs,c≠.own sz xs:=by
 cases r with
 |tmp t=>
  simp only[BdC,Option.map_eq_some_iff,Option.bind_eq_some_iff] at h
  obtain⟨c',⟨v,hv,hc⟩,rfl⟩:=h
  obtain⟨_,hr⟩:=hs.tm t v hv
  exact⟨_,rfl,C.still_rep (AkG hr hc).1,λb hb=>hs.tids t v hv b (Ap0 hc b (by rw[C.still_ids] at hb; exact hb)),by intro sz xs; cases c'<;>simp[C.still]⟩
 |cell p t=>
  simp only[BdC] at h
  split at h
  ·rename_i b off hp
   have hpr:=(hs.tm p _ hp).2
   simp only[bY,RepC] at hpr
   split at h
   ·rename_i cs hb0
    obtain⟨cs0,hb,hbm,rfl⟩:=yO hb0
    obtain⟨vs,hrv,hcv⟩:=(hs.heap b cs0 hb).2.2.vals hbm
    split at h
    ·rename_i n ht hn
     split at h
     ·rename_i hle
      simp only[Option.map_eq_some_iff] at h
      obtain⟨ds,hds,rfl⟩:=h
      have hnh:∀i,i<n->(fK cs0)[off+i]?≠some .hid:=by
       intro i hi e
       have hm:C.hid∈((fK cs0).drop off).take n:=by
        refine List.mem_of_getElem? (i:=i) ?_
        rw[List.getElem?_take,if_pos hi,rS]; exact e
       exact As0 hds _ hm rfl
      have hl:=AcR (P:=P) (w:=w) ht hn (μ b) off ((vs.drop off).take n) (by have:=hrv.length; simp; omega)
       (λi v hv=>by
        rw[List.getElem?_take] at hv
        split at hv
        ·rename_i hin; rw[rS] at hv; exact (hcv _ v hv (hnh i hin)).1
        simp at hv)
      refine⟨_,by simp only[Ac7,hpr,asAddr,Sem.run_bind,Sem.run_pure,Result.andThen_ok]; exact hl,?_,by simp[C.ids],sM⟩
      simp only[RepC,Rep]
      refine⟨_,rfl,Ab9 hds ((hrv.drop off).take n) ?_⟩
      intro u hu
      obtain⟨i,hi⟩:=List.getElem?_of_mem hu
      rw[List.getElem?_take] at hi
      split at hi
      ·rename_i hin; rw[rS] at hi; exact (hcv _ u hi (hnh i hin)).2.1
      simp at hi
     simp at h
    ·rename_i ht
     simp only[Option.bind_eq_some_iff] at h
     obtain⟨c',hc',htold⟩:=h
     obtain⟨hch,rfl⟩:c'≠.hid/\c'.still=c:=by
      cases c'<;>simp only[C.told,reduceCtorEq,sJ] at htold<;>exact⟨sM,htold⟩
     obtain⟨v,hv1,hv2⟩:=hrv.get hc'
     refine⟨v,by simp only[Ac7,hpr,asAddr,Sem.run_bind,Sem.run_pure,Result.andThen_ok]; exact zO ht _ _ _ (hcv off v hv1 (by rw[hc']; simpa using hch)).1,C.still_rep hv2,?_,by intro sz xs; cases c'<;>simp[C.still]⟩
     intro i hi
     rw[C.still_ids] at hi
     exact hs.flat_ids hb (List.mem_of_getElem? hc') i hi
    simp at h
   simp at h
  simp at h
theorem AaW (hs:Sim K μ s a w):∀{rs:List ResultVar} {cs:List C},aY (BdC P s) rs=some cs ->
  ∃us,(rs.mapM (Ac7 a.tmps)).run P w=.ok us w /\
   aZ K μ w cs us/\(∀c∈cs,(∀b∈c.ids,b<s.nid)/\∀sz xs,c≠.own sz xs)
 | [],cs,h=>by
  simp only[aY,sJ] at h; subst h
  exact⟨[],sM,.nil,sM⟩
 |r::rs,cs,h=>by
  simp only[aY] at h
  split at h
  ·rename_i c cs' hc hcs
   simp only[sJ] at h; subst h
   obtain⟨u,h1,h2,h3,h4⟩:=BfN hs hc
   obtain⟨us,h5,h6,h7⟩:=AaW hs hcs
   refine⟨u::us,?_,.cons h2 h6,?_⟩
   ·simp only[List.mapM_cons,Sem.run_bind,h1,Result.andThen_ok,h5,Sem.run_pure]
   intro x hx
   rcases List.mem_cons.1 hx with rfl|hx
   ·exact⟨h3,h4⟩
   exact h7 x hx
  simp at h
theorem AyH {fn:Func} {r:ResultVar} {tmps:Array Value} {u:Value} (hr:fn.results=#[r]) (h:(Ac7 tmps r).run P w=.ok u w):(results fn tmps).run P w=.ok u w:=by
 rw[Ak6,Sem.run_bind,Array.mapM_eq_mapM_toList,Sem.run_map,hr]
 have:(List.mapM (Ac7 tmps) [r]).run P w=.ok [u] w:=by
  simp only[List.mapM_cons,List.mapM_nil,Sem.run_bind,h,Result.andThen_ok,Sem.run_pure]
 rw[show (#[r]:Array ResultVar).toList=[r] from rfl,this]
 rfl
theorem BfO (hs:Sim K μ s a w) {fn:Func} {v:V} (h:BhS P s fn.results.toList=some v) :
  ∃u,(results fn a.tmps).run P w=.ok u w/\bY K μ w v u/\(∀b∈v.ids,b<s.nid)/\lG v:=by
 unfold BhS at h
 have harr:∀us:List Value,(fn.results.toList.mapM (Ac7 a.tmps)).run P w=.ok us w ->
   (results fn a.tmps).run P w=.ok (if h:us.toArray.size=1 then us.toArray[0] else .tuple us.toArray) w:=by
  intro us hu
  rw[Ak6,Sem.run_bind,Array.mapM_eq_mapM_toList,Sem.run_map,hu]
  rfl
 split at h
 ·rename_i c hm
  simp only[sJ] at h; subst h
  obtain⟨us,h1,h2,h3⟩:=AaW hs hm
  cases h2 with
  |cons hc hn=>
   cases hn with
   |nil=>
    rename_i u
    refine⟨u,?_,hc,?_,?_⟩
    ·rw[harr _ h1]; rfl
    ·exact (h3 c sM).1
    refine⟨λsz xs e=>?_,sM⟩
    simp only[V.c.injEq] at e
    exact (h3 c sM).2 sz xs e
 ·rename_i cs hno hm
  simp only[sJ] at h; subst h
  obtain⟨us,h1,h2,h3⟩:=AaW hs hm
  have hl:us.toArray.size≠1:=by
   intro e
   have h4:=h2.length
   have h5:cs.length=1:=by simpa[h4] using e
   match cs,h5 with
   | [c],_=>exact hno c rfl
  refine⟨.tuple us.toArray,?_,⟨us,rfl,h2⟩,?_,by simp[lG]⟩
  ·rw[harr _ h1]
   rw[dif_neg hl]
  intro b hb
  simp only[V.ids,List.mem_flatMap] at hb
  obtain⟨c,hc,hb⟩:=hb
  exact (h3 c hc).1 b hb
 simp at h
theorem Ay4 (hs:Sim K μ s a w) {n:Nat} {extra ids:List Nat} {lh':List (List C)} (h:Af7 s.heap n extra=some (ids,lh')) :
  AkA (λb o=>iK ids (K b o)) (λi=>μ (ids.getD i 0)) w lh'/\lh'.length=ids.length/\(∃r,ids=bD 0 n++r):=by
 unfold Af7 at h
 split at h
 ·simp at h
 split at h
 ·simp at h
 rename_i ids' hr
 split at h
 ·rename_i lh hlh
  simp only[sJ,pJ] at h
  obtain⟨rfl,rfl⟩:=h
  obtain⟨h1,h2,h3⟩:=Ac6 hr (AdJ 0 n)
  obtain⟨h4,h5⟩:=At0 hs h1 hlh
  exact⟨h4,h5,h2⟩
 simp at h
theorem V.into_rep {ids:List Nat} (hK:∀b o,K b o=.ro->K' b o=.ro) (hμ:∀i b,ids[i]?=some b->μ' i=μ b) {c c':V} {v:Value} (hc:V.into ids c=some c') (h:bY K μ w c v)
  (hp:lG c):bY K' μ' w c' v/\(∀b∈c'.ids,b<ids.length)/\lG c':=by
 have many:∀{cs cs':List C} {vs:List Value},aY (C.into ids) cs=some cs'->aZ K μ w cs vs->aZ K' μ' w cs' vs/\∀c∈cs',∀b∈c.ids,b<ids.length:=by
  intro cs cs' vs hm hr
  refine⟨hr.mapM hm λc c' v h1 h2=>(AM.into_rep hK hμ h1 h2).1,?_⟩
  intro c' hc' b hb
  obtain⟨i,hi⟩:=List.getElem?_of_mem hc'
  obtain⟨c,hci,hcc⟩:=hC hm hi
  obtain⟨u,_,hru⟩:=hr.get hci
  exact (AM.into_rep hK hμ hcc hru).2.1 b hb
 cases c with
 |c x=>
  simp only[V.into,Option.map_eq_some_iff] at hc
  obtain⟨x',hx,rfl⟩:=hc
  obtain⟨h1,h2,h3⟩:=AM.into_rep (μ':=μ') hK hμ hx h
  refine⟨h1,h2,?_,sM⟩
  intro sz xs e
  simp only[V.c.injEq] at e
  exact hp.1 sz xs (by rw[(h3 sz xs).1 e])
 |view l sz xs=>exact absurd rfl (hp.2 l sz xs)
 |rptr cs=>
  simp only[V.into,sJ] at hc; subst hc
  obtain⟨blk,off,vs,h1,h2,h3⟩:=h
  exact⟨⟨blk,off,vs,h1,λi u hu=>⟨hK _ _ (h2 i u hu).1,(h2 i u hu).2⟩,dN.recolor hK _ _ h3⟩,by simp[V.ids],hp⟩
 |vagg cs=>
  simp only[V.into,Option.map_eq_some_iff] at hc
  obtain⟨cs',hm,rfl⟩:=hc
  obtain⟨vs,h1,h2,h3⟩:=h
  obtain⟨q1,q2⟩:=many hm h2
  refine⟨⟨vs,h1,q1,h3⟩,?_,by simp[lG]⟩
  intro b hb
  simp only[V.ids,List.mem_flatMap] at hb
  obtain⟨c,hc,hb⟩:=hb
  exact q2 c hc b hb
 |vtup nn cs=>
  simp only[V.into,Option.map_eq_some_iff] at hc
  obtain⟨cs',hm,rfl⟩:=hc
  obtain⟨vs,h1,h2,h3⟩:=h
  obtain⟨q1,q2⟩:=many hm h2
  refine⟨⟨vs,h1,q1,h3⟩,?_,by simp[lG]⟩
  intro b hb
  simp only[V.ids,List.mem_flatMap] at hb
  obtain⟨c,hc,hb⟩:=hb
  exact q2 c hc b hb
 |tuple cs=>
  simp only[V.into,Option.map_eq_some_iff] at hc
  obtain⟨cs',hm,rfl⟩:=hc
  obtain⟨vs,h1,h2⟩:=h
  obtain⟨q1,q2⟩:=many hm h2
  refine⟨⟨vs,h1,q1⟩,?_,by simp[lG]⟩
  intro b hb
  simp only[V.ids,List.mem_flatMap] at hb
  obtain⟨c,hc,hb⟩:=hb
  exact q2 c hc b hb
theorem AmS {args:List C} {lh:List (List C)} {vs:List Value} {n:Nat} (hr:aZ K μ w args vs) (hi:∀c∈args,∀b∈c.ids,b<lh.length) (hh:AkA K μ w lh) (hb:sR K w) (hgl:Ak9 K w) :
  Sim K μ { tmps:=oK 0 (args.map λc=>V.c c.plain),heap:=oK 0 lh,nid:=lh.length,defers:=[],pan:=none }
   { tmps:=vs.toArray++Array.replicate n Go.undef,defers:=[] } w:=by
 have back:∀{t:Nat} {v:V},look t (oK 0 (args.map λc=>V.c c.plain))=some v->∃c,args[t]?=some c/\v=.c c.plain:=by
  intro t v h
  rw[Af0,if_pos oM] at h
  simp only[Nat.sub_zero,List.getElem?_map,Option.map_eq_some_iff] at h
  obtain⟨c,h1,rfl⟩:=h
  exact⟨c,h1,rfl⟩
 refine⟨?_,?_,?_,?_,?_,hb,rfl,sM,hgl⟩
 ·intro t v ht
  obtain⟨c,h1,rfl⟩:=back ht
  obtain⟨u,h2,h3⟩:=hr.get h1
  have hlt:=(List.getElem?_eq_some_iff.1 h2).1
  refine⟨by simp; omega,?_⟩
  have:(vs.toArray++Array.replicate n Go.undef).getD t Go.undef=u:=by
   simp only[Array.getD_eq_getD_getElem?]
   rw[Array.getElem?_append_left (by simpa using hlt)]
   simp[h2]
  rw[this]
  exact C.plain_rep h3
 ·intro t v ht b hb'
  obtain⟨c,h1,rfl⟩:=back ht
  simp only[V.ids,C.plain_ids] at hb'
  exact hi c (List.mem_of_getElem? h1) b hb'
 ·intro t sz xs ht
  obtain⟨c,_,e⟩:=back ht
  cases c<;>simp[C.plain] at e
 ·intro t l sz xs ht
  obtain⟨c,_,e⟩:=back ht
  simp at e
 intro b cells hc
 rw[show (St.heap { tmps:=oK 0 (args.map λc=>V.c c.plain),heap:=oK 0 lh,nid:=lh.length,defers:=[],pan:=none })=oK 0 lh from rfl,Af0,if_pos oM,Nat.sub_zero] at hc
 obtain⟨h1,h2⟩:=hh b cells hc
 exact⟨(List.getElem?_eq_some_iff.1 hc).1,h1,h2⟩
def EndOK (K:Col) (μ:Nat->Nat) (w:World) (n:Nat) (r:aF) (e:Ending) (w':World):Prop:=
 ∃K' μ',Step iD K w K' w'/\sR K' w'/\(∀i,i<n->μ' i=μ i) /\
  match r with
  |.ret v lh'=>n<=lh'.length/\AkA K' μ' w' lh'/\lG v/\(∀b∈v.ids,b<lh'.length)/\∃u,e=.returned u/\bY K' μ' w' v u
  |.pan d lh'=>lh'.length=n/\AkA K' μ' w' lh'/\∃u,e=.panicked [⟨u,false,false⟩]/\Rep K' w' d u
theorem AvA {n:Nat} {s':St} {a':Act} {extra ids:List Nat} {lh':List (List C)} (ha:fT K μ w n K' μ' w') (hs':Sim K' μ' s' a' w')
  (ho:Af7 s'.heap n extra=some (ids,lh')) :
  Step iD K w (λb o=>iK ids (K' b o)) w'/\sR (λb o=>iK ids (K' b o)) w'/\(∀i,i<n->μ' (ids.getD i 0)=μ i)/\n<=lh'.length /\
   AkA (λb o=>iK ids (K' b o)) (λi=>μ' (ids.getD i 0)) w' lh'/\lh'.length=ids.length:=by
 obtain⟨q1,q2,r',q3⟩:=Ay4 hs' ho
 refine⟨⟨ha.step.os,ha.step.tape,ha.step.output,ha.step.size,ha.step.block,λb o hb' hn=>?_,ha.step.ex⟩,λb o hb'=>by simp only[hs'.bound b o hb']; rfl,?_,?_,q1,q2⟩
 ·have hc:=ha.step.cell b o hb' hn
  refine⟨hc.1,hc.2.1,?_⟩
  simp only[hc.2.2]
  have:K b o=.ro\/K b o=.other:=by
   by_cases h1:K b o=.ro
   ·exact .inl h1
   by_cases h2:K b o=.other
   ·exact .inr h2
   exact absurd ⟨h1,h2⟩ hn
  rcases this with h1|h1<;>rw[h1]<;>rfl
 ·intro i hi'
  have hgd:ids.getD i 0=i:=by
   rw[q3]
   simp only[List.getD,List.getElem?_append_left (show i<(bD 0 n).length by rw[xF]; exact hi'),AnM hi']
   simp
  rw[hgd,ha.mu i hi']
 rw[q2,q3,List.length_append,xF]; omega
theorem Al1 {n:Nat} {s':St} {a':Act} {fn:Func} {r:aF} (ha:fT K μ w n K' μ' w') (hs':Sim K' μ' s' a' w') (h:uJ P fn n s'=some r) :
  ∃u,(results fn a'.tmps).run P w'=.ok u w'/\EndOK K μ w n r (.returned u) w'/\∃v lh,r=.ret v lh:=by
 unfold uJ at h
 split at h
 ·simp at h
 rename_i s1 hfz
 obtain⟨K1,hst1,hn1,hd1,hs1⟩:=AaQ hs' hfz
 have ha:=ha.trans (m:=n) ⟨hst1,λ_ _=>rfl⟩ (Nat.le_refl _)
 clear hs'
 have hs':=hs1
 split at h
 ·rename_i v hv
  split at h
  ·rename_i ids lh' hob
   split at h
   ·rename_i v' hv'
    simp only[sJ] at h; subst h
    obtain⟨u,hu,hru,hvi,hpl⟩:=BfO hs' hv
    obtain⟨g1,g2,g3,g4,g5,g6⟩:=AvA ha hs' hob
    obtain⟨k1,k2,k3⟩:=V.into_rep (K':=λb o=>iK ids (K1 b o)) (μ':=λi=>μ' (ids.getD i 0)) (λb o h=>by rw[h]; rfl)
     (λi b h=>by simp[List.getD,h]) hv' hru hpl
    exact⟨u,hu,⟨_,_,g1,g2,g3,g4,g5,k3,by rw[g6]; exact k2,u,rfl,k1⟩,v',lh',rfl⟩
   simp at h
  simp at h
 simp at h
theorem AuH {n:Nat} {s':St} {a':Act} {d:D} {u:Value} {r:aF} (ha:fT K μ w n K' μ' w') (hs':Sim K' μ' s' a' w') (hu:Rep K' w' d u) (h:Am8 d n s'=some r) :
  EndOK K μ w n r (.panicked [⟨u,false,false⟩]) w':=by
 unfold Am8 at h
 split at h
 ·rename_i ids lh' hob
  split at h
  ·rename_i hl
   simp only[sJ] at h; subst h
   obtain⟨g1,g2,g3,g4,g5,g6⟩:=AvA ha hs' hob
   exact⟨_,_,g1,g2,g3,by rw[g6]; exact hl,g5,u,rfl,Rep.recolor (λb o h=>by rw[h]; rfl) _ _ hu⟩
  simp at h
 simp at h
theorem Sim.defs_nil (hs:Sim K μ s a w):Sim K μ { s with defers:=[] } { a with defers:=[] } w:=
 ⟨hs.tm,hs.tids,hs.own,hs.view,hs.heap,hs.bound,rfl,sM,hs.glob⟩
def Ac2:Option D->Value->FrameMode
 |none,_=>.returning
 |some _,u=>.panicking [⟨u,false,false⟩]
def At8:Option D->Value->FrameMode
 |none,_=>.returning
 |some _,u=>.panicking [⟨u,true,false⟩]
def BgI (P:Program) (pan:Option D) (f:Nat) (args:List C) (lh:List (List C)) (r:aF):Prop:=
 ∀K μ w vs pu,aZ K μ w args vs->(∀c∈args,∀b∈c.ids,b<lh.length)->AkA K μ w lh->sR K w->Ak9 K w->(∀d,pan=some d->Rep K w d pu) ->
  CallsD P f vs.toArray (Ac2 pan pu) w λe m w'=>EndOK K μ w lh.length r e w'/\m=(if AjA P f then At8 pan pu else Ac2 pan pu)/\∃u,e=.returned u
theorem AnT {o:Oper} (h:BbL o=true):(execOp a.eval o).run P w=.ok .recover w/\o.guard=none:=by
 unfold BbL at h
 split at h
 ·rename_i c ho hg
  split at h
  ·rename_i hc
   refine⟨?_,hg⟩
   simp[execOp,ho,resolve,hc,invoke,builtin]
  simp at h
 simp at h
theorem Au0 (hP:oW P) (H:Nat->Nat->List Nat) {call:Call} (ih:zZ P call) (k:Nat) (pan:Option D) {f:Nat} {args:List C} {lh:List (List C)} {r:aF} (h:AoT P H call k pan f args lh=some r) :
  Callee P f/\BgI P pan f args lh r:=by
 unfold AoT at h
 split at h
 ·rename_i fn hfn
  split at h
  ·rename_i code hcode
   split at h
   ·rename_i hlen
    refine⟨⟨fn,hfn,by rw[hcode]; rfl⟩,?_⟩
    intro K μ w vs pu hr hi hh hb hgl hpu
    have hfo:=hP.func f fn hfn
    simp only[AjT,hcode,Bool.and_eq_true] at hfo
    have hsim:=AmS (n:=fn.ntmps-vs.toArray.size) hr hi hh hb hgl
    have hdb:=iA (m:=(vs.toArray++Array.replicate (fn.ntmps-vs.toArray.size) Go.undef).size) (by simp; omega) code hfo.2
    have hrec:AjA P f=BdA code:=by simp only[AjA,hfn,hcode]
    have done:∀{x:AX} {s':St} {e:Exit} {K':Col} {μ':Nat->Nat} {a':Act} {w':World},(match x with|.normal|.ret=>if s'.defers.isEmpty then uJ P fn lh.length s' else none|_=>none)=some r->Out K' w' x e->fT K μ w lh.length K' μ' w' ->
      Sim K' μ' s' a' w'->(e=.normal\/e=.ret)/\a'.defers=[]/\∃u,(results fn a'.tmps).run P w'=.ok u w'/\EndOK K μ w lh.length r (.returned u) w':=by
     intro x s' e K' μ' a' w' hx ho ha hs'
     have key:∀{o:Option aF},(if s'.defers.isEmpty then uJ P fn lh.length s' else none)=o->o=some r->a'.defers=[]/\∃u,(results fn a'.tmps).run P w'=.ok u w'/\EndOK K μ w lh.length r (.returned u) w':=by
      intro o h1 h2
      subst h2
      split at h1
      ·rename_i hd
       obtain⟨u,hu,hE,_⟩:=Al1 ha hs' h1
       exact⟨by rw[hs'.defs,List.isEmpty_iff.1 hd]; rfl,u,hu,hE⟩
      simp at h1
     cases x with
     |normal=>exact⟨.inl ho,key rfl hx⟩
     |ret=>exact⟨.inr ho,key rfl hx⟩
     |exit id=>simp at hx
     |pan d=>simp at hx
    have h':∃x s',Az8 P (H f) call k pan code (AaR args lh)=some (x,s')/\(match x with|.normal|.ret=>if s'.defers.isEmpty then uJ P fn lh.length s' else none|_=>none)=some r:=by
     split at h
     ·rename_i s' he; exact⟨_,s',he,h⟩
     ·rename_i s' he; exact⟨_,s',he,h⟩
     simp at h
    obtain⟨x,s',hex,hx⟩:=h'
    unfold Az8 at hex
    split at hex
    ·rename_i hrc
     refine (callsD_of_wp (R:=λe w'=>EndOK K μ w lh.length r e w'/\∃u,e=.returned u) hfn hcode (iX ih hP code hdb hex hsim rfl ?_)).mono ?_
     ·intro e K' μ' a' w' ho ha hn hs' hsz
      obtain⟨he,hd,u,hu,hE⟩:=done hx ho ha hs'
      rcases he with rfl|rfl
      ·exact⟨hd,u,hu,hE,u,rfl⟩
      exact⟨hd,u,hu,hE,u,rfl⟩
     rintro e u' w' ⟨rfl,hE,hu⟩
     exact⟨hE,by rw[hrec,hrc]; rfl,hu⟩
    rename_i hrc
    split at hex
    ·rename_i id ops b
     split at hex
     ·rename_i o o1 hops
      have hdops:∀q∈ops.toList,∀t,q.dst=some t->t<(vs.toArray++Array.replicate (fn.ntmps-vs.toArray.size) Go.undef).size:=by
       intro q hq t ht
       simp only[dP,Bool.and_eq_true,List.all_eq_true] at hdb
       have:=hdb.1 q hq
       rw[ht] at this
       simpa using this
      have hdbb:dP (vs.toArray++Array.replicate (fn.ntmps-vs.toArray.size) Go.undef).size b=true:=by
       simp only[dP,Bool.and_eq_true] at hdb
       exact hdb.2
      simp only[BdA,hops] at hrc
      obtain⟨hr0,d,hd0,ha1,hg1⟩:BbL o=true/\∃d,o.dst=some d/\o1.op=.assign (.tmp d)/\o1.guard=none:=by
       revert hrc
       simp only[Bool.and_eq_true]
       rintro⟨h1,h2⟩
       refine⟨h1,?_⟩
       split at h2
       ·rename_i d x e1 e2 e3
        simp only[beq_iff_eq] at h2
        subst h2
        exact⟨_,e1,e2,e3⟩
       simp at h2
      refine callsD_of_wpS hfn hcode ?_
      generalize hA0:({ tmps:=vs.toArray++Array.replicate (fn.ntmps-vs.toArray.size) Go.undef,defers:=[] }:Act)=a0 at hsim ⊢
      have hsz0:a0.tmps.size=(vs.toArray++Array.replicate (fn.ntmps-vs.toArray.size) Go.undef).size:=by rw[←hA0]
      rw[←hsz0] at hdbb hdops
      intro c₀ cs hc0
      refine wpS_seq (wpS_region ?_)
      have h0:ops[0]?=some o:=by rw[←Array.getElem?_toList,hops]; rfl
      have h1:ops[1]?=some o1:=by rw[←Array.getElem?_toList,hops]; rfl
      have hsize:ops.size=2:=by rw[←Array.length_toList,hops]; rfl
      rw[hsize,show List.range 2=[0,1] from rfl]
      simp only[wpOpsS,h0,h1]
      have wanted:∀{q:Oper} {t:Array Value},q.guard=none->Region.wanted q (yielded ops t)=true:=by
       intro q t hq
       simp[Region.wanted,hq]
      rw[wanted (AnT (a:={ tmps:=#[],defers:=[] }) (P:=P) (w:=w) hr0).2]
      simp only[if_true]
      rw[(AnT hr0).1]
      simp only
      have hdl:d<a0.tmps.size:=hdops o (by rw[hops]; simp) d hd0
      have hrun1:∀v,(execOp (Act.put a0 o.dst v).eval o1).run P w=.ok (.value v) w:=by
       intro v
       have:(Act.put a0 o.dst v).eval (.tmp d)=v:=by
        rw[hd0]
        show (Act.put a0 (some d) v).tmps.getD d Go.undef=v
        rw[AgV,if_pos ⟨rfl,hdl⟩]
       simp[execOp,ha1,this]
      have fin:∀(v:Value) (cs':List Frame),bY K μ w (Ba6 pan) v->(∃u',cs'={ c₀ with mode:=u' }::cs/\u'=At8 pan pu) ->
        b.wpS P (bodyPostS P fn c₀ cs λe m w'=>EndOK K μ w lh.length r e w'/\m=(if AjA P f then At8 pan pu else Ac2 pan pu)/\∃u,e=.returned u) ((Act.put a0 o.dst v).put o1.dst v) cs' w:=by
       intro v cs' hv hcs
       refine wpS_of_wp ?_
       have hs0:=hsim.keep (H f id)
       have hgood:∀{K:Col} {μ:Nat->Nat} {s:St} {a:Act} {w:World} {dst:Option Nat},bY K μ w (Ba6 pan) v->Good K μ s a w dst (Ba6 pan) v:=by
        intro K μ s a w dst hv
        refine⟨hv,?_,?_,?_⟩<;>cases pan<;>simp[Ba6,Go.AM.V.ids,C.ids]
       have hs1:=hs0.put (dst:=o.dst) (hdops o (by rw[hops]; simp)) (hgood hv)
       have hs2:=hs1.put (dst:=o1.dst) (by rw[mS]; exact hdops o1 (by rw[hops]; simp)) (hgood hv)
       have hnid:∀(q:Oper) (V:V) (s:St),(putDst q V s).nid=s.nid:=by intro q V s; unfold putDst mR; cases q.dst<;>rfl
       refine iX ih hP b (by rw[mS,mS]; exact hdbb) hex hs2 rfl ?_
       intro e K' μ' a' w' ho ha hn hs' hsz
       have hnid2:∀(dst:Option Nat) (V:V) (s:St),(mR dst V s).nid=s.nid:=by intro dst V s; cases dst<;>rfl
       simp only[hnid,hnid2] at ha
       obtain⟨he,hd,u,hu,hE⟩:=done hx ho ha hs'
       obtain⟨u',hcs,hu'⟩:=hcs
       have hm:u'=(if AjA P f then At8 pan pu else Ac2 pan pu):=by
        rw[hrec,show BdA (.seq (.region id ops false) b)=true from by simp only[BdA,hops]; exact hrc]; exact hu'
       rcases he with rfl|rfl
       ·exact⟨hd,u',hcs,u,hu,hE,hm,u,rfl⟩
       exact⟨hd,u',hcs,u,hu,hE,hm,u,rfl⟩
      cases pan with
      |none=>
       have e:({ c₀ with mode:=.returning }:Frame)=c₀:=by cases c₀; simp only[Ac2] at hc0; simp only[hc0]
       have:recoverD (c₀::cs)=none:=by simp only[recoverD,hc0,Ac2]
       rw[this]
       simp only[wanted hg1,if_true,hrun1,Oper.upon_value]
       exact fin .nilIface (c₀::cs) (by simp[Ba6,bY,RepC,Rep]) ⟨.returning,by rw[e],rfl⟩
      |some d'=>
       have:recoverD (c₀::cs)=some (pu,{ c₀ with mode:=.panicking [⟨pu,true,false⟩] }::cs):=by simp only[recoverD,hc0,Ac2]
       rw[this]
       simp only[wanted hg1,if_true,hrun1,Oper.upon_value]
       exact fin pu _ (show Rep K w d' pu from hpu d' rfl) ⟨.panicking [⟨pu,true,false⟩],rfl,rfl⟩
     simp at hex
    simp at hex
   simp at h
  simp at h
 simp at h
theorem ArD (hP:oW P) (H:Nat->Nat->List Nat) {call:Call} (ih:zZ P call) (k:Nat) (pan:Option D) {f:Nat} {args:List C} {r:gR} {ids:List Nat} (h:mU (AoT P H call k pan) f args s=some (r,ids)) (hs:Sim K μ s a w)
  {vs:List Value} (hargs:aZ K μ w args vs) {pu:Value} (hpu:∀d,pan=some d->Rep K w d pu) :
  Callee P f/\CallsD P f vs.toArray (Ac2 pan pu) w λe m w'=>m=(if AjA P f then At8 pan pu else Ac2 pan pu)/\∃K' μ',fT K μ w s.nid K' μ' w'/\BdT K' μ' s a w' s.nid r e/\∃u,e=.returned u:=by
 obtain⟨args',lh,r',h1,h2,h3,h4,h5,h6,h7⟩:=AkN h hs hargs
 obtain⟨q1,q2⟩:=Au0 hP H ih k pan h1
 refine⟨q1,(q2 _ _ _ _ _ h2 h3 h4 h5 h6 (λd hd=>?_)).mono ?_⟩
 ·exact Rep.recolor (λb o h=>by rw[h]; rfl) _ _ (hpu d hd)
 rintro e m w' ⟨hE,hm,hu⟩
 obtain⟨K',μ',hA,hR⟩:=h7 e w' hE
 exact⟨hm,K',μ',hA,hR,hu⟩
theorem vO (hP:oW P) (H:Nat->Nat->List Nat) {call:Call} (ih:zZ P call) (k:Nat) {fn:Func} {tmps:Array Value} {R:Ending->World->Prop} :
  ∀(ds:List (Nat×List Nat)) (pan:Option D) (pu:Value) (s:St) (K:Col) (μ:Nat->Nat) (w:World) {pan':Option D} {s':St},uD P H call k ds pan s=some (pan',s')->s.defers=[] ->
   Sim K μ s { tmps:=tmps,defers:=[] } w->(∀x∈ds,∀b∈x.2,b<s.nid)->(∀d,pan=some d->Rep K w d pu) ->
   (∀K' μ' w' pu',fT K μ w s.nid K' μ' w'->s.nid<=s'.nid->Sim K' μ' s' { tmps:=tmps,defers:=[] } w'->(∀d,pan'=some d->Rep K' w' d pu')->Leaves P fn tmps R [] (Ac2 pan' pu') w') ->
   Leaves P fn tmps R (ds.map (AbE μ)) (Ac2 pan pu) w
 | [],pan,pu,s,K,μ,w,pan',s',h,_,hs,_,hpu,hend=>by
  simp only[uD,sJ,pJ] at h
  obtain⟨rfl,rfl⟩:=h
  exact hend K μ w pu (fT.refl _ _ _ _) (Nat.le_refl _) hs hpu
 |(g,caps)::ds,pan,pu,s,K,μ,w,pan',s',h,hd0,hs,hin,hpu,hend=>by
  simp only[uD] at h
  split at h
  ·rename_i v s1 ids hc
   have hargs:aZ K μ w (caps.map λb=>C.ptr b 0) (caps.map λb=>Value.pointer (some (ad (μ b) 0))):=by
    refine aZ.of_get sM λi c v hc hv=>?_
    simp only[List.getElem?_map,Option.map_eq_some_iff] at hc hv
    obtain⟨b,hb,rfl⟩:=hc
    obtain⟨b',hb',rfl⟩:=hv
    rw[hb,sJ] at hb'; subst hb'
    rfl
   obtain⟨⟨fg,hfg,hbg⟩,hcall⟩:=ArD hP H ih k pan hc hs hargs hpu
   have hmode:Ac2 pan pu≠.run:=by cases pan<;>simp[Ac2]
   simp only[List.map_cons]
   refine leaves_cons (fv:=.func g) (f:=g) hmode ?_ (hcall.mono ?_)
   ·have hbn:fg.body.isNone=false:=by cases hb:fg.body<;>simp[hb] at hbg ⊢
    have hnm:(fg.name == "runtime.NumGoroutine")=false:=by
     have:=hP.func g fg hfg
     simp only[AjT,Bool.and_eq_true,Bool.not_eq_true'] at this
     exact this.1
    simp[invoke,callFunc,hfg,hnm,hbn,-beq_iff_eq,-beq_eq_false_iff_ne,-Option.isNone_iff_eq_none]
   rintro e m w' ⟨hm,K',μ',hA,hR,u,rfl⟩
   obtain⟨hs',hn,hpl,hvi,hdf,_⟩:=hR
   have hset:Go.settle m=Ac2 (if AjA P g then none else pan) pu:=by
    subst hm
    cases hr:AjA P g<;>cases pan<;>simp[Ac2,At8,Go.settle]
   show Leaves P fn tmps R (ds.map (AbE μ)) (Go.settle m) w'
   rw[hset]
   have hmap:ds.map (AbE μ)=ds.map (AbE μ'):=by
    refine List.map_congr_left λx hx=>?_
    unfold AbE
    congr 3
    refine List.map_congr_left λb hb=>?_
    rw[hA.mu b (hin x (List.mem_cons_of_mem _ hx) b hb)]
   rw[hmap]
   refine vO hP H ih k ds _ pu s1 K' μ' w' h (by rw[hdf,hd0]) hs' (λx hx b hb=>Nat.lt_of_lt_of_le (hin x (List.mem_cons_of_mem _ hx) b hb) hn) ?_ ?_
   ·intro d hd
    split at hd
    ·simp at hd
    exact Rep.step hA.step (by simp[iD]) _ _ (hpu d hd)
   intro K2 μ2 w2 pu2 hA2 hn2 hs2 hp2
   exact hend K2 μ2 w2 pu2 (hA.trans hA2 hn) oM hs2 hp2
  simp at h
theorem AuO (hP:oW P) (H:Nat->Nat->List Nat) {call:Call} (ih:zZ P call) (k:Nat) {fn:Func} {n:Nat} {x:AX} {s':St} {r:aF} {e:Exit} {a':Act} (h:finish P H call k fn n x s'=some r)
  (ho:Out K' w' x e) (ha:fT K μ w n K' μ' w') (hn:n<=s'.nid) (hs':Sim K' μ' s' a' w'):bodyPostD P fn (λe w'=>EndOK K μ w n r e w') e a' w':=by
 have hs0:Sim K' μ' { s' with defers:=[] } { tmps:=a'.tmps,defers:=[] } w':=hs'.defs_nil
 have ret0:∀{s2:St} {K2:Col} {μ2:Nat->Nat} {w2:World},uJ P fn n s2=some r->fT K μ w n K2 μ2 w2->Sim K2 μ2 s2 { tmps:=a'.tmps,defers:=[] } w2->Leaves P fn a'.tmps (λe w'=>EndOK K μ w n r e w') [] .returning w2:=by
  intro s2 K2 μ2 w2 he ha2 hs2
  obtain⟨u,hu,hE,_⟩:=Al1 ha2 hs2 he
  exact⟨u,hu,hE⟩
 have pan0:∀{d:D} {u:Value} {s2:St} {K2:Col} {μ2:Nat->Nat} {w2:World},Am8 d n s2=some r->fT K μ w n K2 μ2 w2->Sim K2 μ2 s2 { tmps:=a'.tmps,defers:=[] } w2->Rep K2 w2 d u->Leaves P fn a'.tmps (λe w'=>EndOK K μ w n r e w') [] (.panicking [⟨u,false,false⟩]) w2:=
  fun he ha2 hs2 hu=>AuH ha2 hs2 hu he
 have normal:∀{o:Option aF},(if s'.defers.isEmpty then uJ P fn n s' else
   match uD P H call k s'.defers none { s' with defers:=[] } with
   |some (none,s')=>uJ P fn n s'
   |_=>none)=o->o=some r->Leaves P fn a'.tmps (λe w'=>EndOK K μ w n r e w') a'.defers .returning w':=by
  intro o h1 h2
  subst h2
  rw[hs'.defs]
  split at h1
  ·rename_i hd
   rw[List.isEmpty_iff.1 hd]
   refine ret0 (s2:=s') h1 ha ?_
   have:=hs'.defs_nil
   rw[←List.isEmpty_iff.1 hd] at this
   exact this
  split at h1
  ·rename_i s2 hrun
   refine vO hP H ih k s'.defers none Go.undef _ K' μ' w' hrun rfl hs0 hs'.dids sM ?_
   intro K2 μ2 w2 pu2 hA hn2 hs2 _
   exact ret0 h1 (ha.trans hA hn) hs2
  simp at h1
 cases x with
 |normal=>simp only[Out] at ho; subst ho; exact normal rfl h
 |ret=>simp only[Out] at ho; subst ho; exact normal rfl h
 |exit id=>simp[finish] at h
 |pan d=>
  obtain⟨u,rfl,hu⟩:=ho
  show Leaves P fn a'.tmps _ a'.defers (.panicking [⟨u,false,false⟩]) w'
  rw[hs'.defs]
  simp only[finish] at h
  split at h
  ·rename_i hd
   rw[List.isEmpty_iff.1 hd]
   refine pan0 (s2:=s') h ha ?_ hu
   have:=hs'.defs_nil
   rw[←List.isEmpty_iff.1 hd] at this
   exact this
  split at h
  ·rename_i s2 hrun
   refine vO hP H ih k s'.defers (some d) u _ K' μ' w' hrun rfl hs0 hs'.dids (by intro d' e; simp only[sJ] at e; subst e; exact hu) ?_
   intro K2 μ2 w2 pu2 hA hn2 hs2 _
   exact ret0 h (ha.trans hA hn) hs2
  ·rename_i d' s2 hrun
   refine vO hP H ih k s'.defers (some d) u _ K' μ' w' hrun rfl hs0 hs'.dids (by intro d' e; simp only[sJ] at e; subst e; exact hu) ?_
   intro K2 μ2 w2 pu2 hA hn2 hs2 hp2
   exact pan0 h (ha.trans hA hn) hs2 (hp2 d' rfl)
  simp at h
theorem AtZ (hP:oW P) {E:Nat->Option Call} (hE:∀f g,E f=some g->∀args lh r,g f args lh=some r->Callee P f/\pO P f args lh r) (H:Nat->Nat->List Nat) {call:Call} (ih:zZ P call) (k:Nat):pY P (Am0 P E H call k):=by
 intro f args lh r h
 simp only[Am0] at h
 split at h
 ·rename_i g hg
  exact hE f g hg args lh r h
 split at h
 ·rename_i fn hfn
  split at h
  ·rename_i code hcode
   split at h
   ·rename_i hlen
    refine⟨⟨fn,hfn,by rw[hcode]; rfl⟩,?_⟩
    intro K μ w vs hr hi hh hb hgl
    have hfo:=hP.func f fn hfn
    simp only[AjT,hcode,Bool.and_eq_true] at hfo
    have hsim:=AmS (n:=fn.ntmps-vs.toArray.size) hr hi hh hb hgl
    have hdb:=iA (m:=(vs.toArray++Array.replicate (fn.ntmps-vs.toArray.size) Go.undef).size) (by simp; omega) code hfo.2
    split at h
    ·rename_i x s' hex
     refine calls_of_wp_defers (R:=λe w'=>EndOK K μ w lh.length r e w') hfn hcode (iX ih hP code hdb hex hsim rfl ?_)
     intro e K' μ' a' w' ho ha hn hs' hsz
     exact AuO hP H ih k h ho ha hn hs'
    simp at h
   simp at h
  simp at h
 simp at h
theorem pO.of_still {f:Nat} {args:List C} {lh:List (List C)} {r:aF} (h:pO P f (args.map C.still) lh r):pO P f args lh r:=by
 intro K μ w vs hr hi hh hb hg
 refine h K μ w vs hr.still ?_ hh hb hg
 intro c hc b hbb
 simp only[List.mem_map] at hc
 obtain⟨c',hc',rfl⟩:=hc
 rw[C.still_ids] at hbb
 exact hi c' hc' b hbb
omit [cU] in
theorem AwJ {f g:Nat} (h:g=f+zQ):Nat.blt g zQ=false:=by
 have h1:zQ<=g:=by rw[h]; exact Nat.le_add_left _ _
 cases hb:Nat.blt g zQ with
 |false=>rfl
 |true=>exact absurd (Nat.lt_of_lt_of_le (Nat.blt_eq.mp hb) h1) (Nat.lt_irrefl _)
omit [cU] in
theorem AyW {f g:Nat} (h:g=f+zQ):g-zQ=f:=by rw[h]; exact Nat.add_sub_cancel _ _
theorem AyG (hs:Sim K μ s a w) {p t:Nat} {l:List C} (h:BhR P s p t=some l) :
  ∃vs:List Value,(Ac7 a.tmps (.cell p t)).run P w=.ok (.agg vs.toArray) w/\aZ K μ w l vs/\(∀x∈vs,eZ x=true)/\∀c∈l,∀b∈c.ids,b<s.nid:=by
 unfold BhR at h
 split at h
 ·rename_i b off n hp ht hn
  split at h
  ·rename_i cs hb0
   obtain⟨cs0,hb,hbm,rfl⟩:=yO hb0
   obtain⟨vs,hrv,hcv⟩:=(hs.heap b cs0 hb).2.2.vals hbm
   split at h
   ·rename_i hle
    have hds:=h
    have hpr:=(hs.tm p _ hp).2
    simp only[bY,RepC] at hpr
    obtain⟨hl0,hsp⟩:=kO hds
    have hnh:∀i,i<n->(fK cs0)[off+i]?≠some .hid:=by
     intro i hi e
     obtain⟨y,hy,_⟩:=hsp i C.hid (by rw[List.getElem?_take,if_pos hi,rS]; exact e)
     simp[C.told] at hy
    have hl:=AcR (P:=P) (w:=w) ht hn (μ b) off ((vs.drop off).take n) (by have:=hrv.length; simp; omega)
     (λi v hv=>by
      rw[List.getElem?_take] at hv
      split at hv
      ·rename_i hin; rw[rS] at hv; exact (hcv _ v hv (hnh i hin)).1
      simp at hv)
    have h1:∀u∈(vs.drop off).take n,eZ u=true:=by
     intro u hu
     obtain⟨i,hi⟩:=List.getElem?_of_mem hu
     rw[List.getElem?_take] at hi
     split at hi
     ·rename_i hin; rw[rS] at hi; exact (hcv _ u hi (hnh i hin)).2.1
     simp at hi
    have htold:∀{l l':List C} {us:List Value},aY C.told l=some l'->aZ K μ w l us->aZ K μ w l' us/\∀c∈l',∀i∈c.ids,∃c0∈l,i∈c0.ids:=by
     intro l
     induction l with
     |nil=>
      intro l' us e hr
      simp only[aY,sJ] at e; subst e
      cases hr
      exact⟨.nil,sM⟩
     |cons c l ih=>
      intro l' us e hr
      simp only[aY] at e
      split at e
      ·rename_i y ys hy hys
       simp only[sJ] at e; subst e
       cases hr with
       |cons r1 r2=>
        obtain⟨q1,q2⟩:=ih hys r2
        have hyc:y=c.still:=by cases c<;>simp only[C.told,reduceCtorEq,sJ] at hy<;>exact hy.symm
        subst hyc
        refine⟨.cons (C.still_rep r1) q1,λx hx i hi=>?_⟩
        rcases List.mem_cons.1 hx with rfl|hx
        ·exact⟨c,sM,by rw[C.still_ids] at hi; exact hi⟩
        obtain⟨c0,h0,h1⟩:=q2 x hx i hi
        exact⟨c0,by simp[h0],h1⟩
      simp at e
    obtain⟨g1,g2⟩:=htold hds ((hrv.drop off).take n)
    refine⟨(vs.drop off).take n,?_,g1,h1,?_⟩
    ·simp only[Ac7,hpr,asAddr,Sem.run_bind,Sem.run_pure,Result.andThen_ok]; exact hl
    intro c hc i hi
    obtain⟨c0,h0,hi⟩:=g2 c hc i hi
    exact hs.flat_ids hb (List.mem_of_mem_drop (List.mem_of_mem_take h0)) i hi
   simp at h
  simp at h
 simp at h
theorem BfP (hs:Sim K μ s a w) {fn:Func} {v:V} (h:BjS P s fn.results.toList=some v) :
  ∃u,(results fn a.tmps).run P w=.ok u w/\bY K μ w v u/\(∀b∈v.ids,b<s.nid)/\lG v:=by
 unfold BjS at h
 split at h
 ·rename_i p t hres
  simp only[Option.map_eq_some_iff] at h
  obtain⟨l,hl,rfl⟩:=h
  obtain⟨vs,h1,h2,h3,h4⟩:=AyG hs hl
  have hres':fn.results=#[.cell p t]:=by apply Array.ext'; simpa using hres
  refine⟨.agg vs.toArray,AyH hres' h1,⟨_,rfl,h2,h3⟩,?_,by simp[lG]⟩
  intro i hi
  simp only[V.ids,List.mem_flatMap] at hi
  obtain⟨c,hc,hi⟩:=hi
  exact h4 c hc i hi
 ·rename_i p t r hno hres
  split at h
  ·rename_i l us hl hus
   simp only[sJ] at h; subst h
   obtain⟨vs,h1,h2,h3,h4⟩:=AyG hs hl
   obtain⟨ws,g1,g2,g3⟩:=AaW hs hus
   have hlen:=h2.length
   have hr:r≠[]:=λe=>hno e
   have hun:us.length=r.length:=(kO hus).1
   have hwn:=g2.length
   refine⟨.tuple (.agg vs.toArray::ws).toArray,?_,⟨vs++ws,?_,h2.append g2,?_⟩,?_,by simp[lG]⟩
   ·rw[Ak6,Sem.run_bind,Array.mapM_eq_mapM_toList,Sem.run_map,hres]
    have:(List.mapM (Ac7 a.tmps) (.cell p t::r)).run P w=.ok (.agg vs.toArray::ws) w:=by
     simp only[List.mapM_cons,Sem.run_bind,h1,Result.andThen_ok,g1,Sem.run_pure]
    rw[this]
    have hsz:(Value.agg vs.toArray::ws).toArray.size≠1:=by
     cases r with
     |nil=>exact absurd rfl hr
     |cons _ _=>
      simp only[List.length_cons] at hun
      simp
      intro e
      rw[e] at hwn
      simp at hwn
      rw[hwn] at hun
      simp at hun
    simp only[Result.andThen_ok]
    rw[dif_neg hsz]
    rfl
   ·rw[hlen,List.take_left,List.drop_left]
   ·rw[hlen,List.take_left]; exact h3
   intro i hi
   simp only[V.ids,List.mem_flatMap,List.mem_append] at hi
   obtain⟨c,hc|hc,hi⟩:=hi
   ·exact h4 c hc i hi
   exact (g3 c hc).1 i hi
  simp at h
 simp at h
theorem Ag5 {b off:Nat}:∀{n:Nat} {K:Col} {s s':St},Sim K μ s a w->Ag4 b off n s=some s'->∃K',Step iD K w K' w/\s.nid<=s'.nid/\s'.defers=s.defers/\Sim K' μ s' a w
 |0,K,s,s',h,e=>by
  simp only[Ag4,sJ] at e; subst e
  exact⟨K,Step.refl _ _ _,Nat.le_refl _,rfl,h⟩
 |n+1,K,s,s',h,e=>by
  simp only[Ag4] at e
  split at e
  ·rename_i s1 h1
   have:∃K1,Step iD K w K1 w/\s.nid<=s1.nid/\s1.defers=s.defers/\Sim K1 μ s1 a w:=by
    unfold BaR at h1
    split at h1
    ·exact AnK h h1
    simp only[sJ] at h1; subst h1
    exact⟨K,Step.refl _ _ _,Nat.le_refl _,rfl,h⟩
   obtain⟨K1,a1,a2,a3,a4⟩:=this
   obtain⟨K2,b1,b2,b3,b4⟩:=Ag5 a4 e
   exact⟨K2,a1.trans b1,Nat.le_trans a2 b2,b3.trans a3,b4⟩
  simp at e
theorem AuG {rs:List ResultVar} {K:Col} {s s':St} (h:Sim K μ s a w) (e:AzP P rs s=some s'):∃K',Step iD K w K' w/\s.nid<=s'.nid/\s'.defers=s.defers/\Sim K' μ s' a w:=by
 unfold AzP at e
 split at e
 ·split at e
  ·exact Ag5 h e
  ·simp only[sJ] at e; subst e
   exact⟨K,Step.refl _ _ _,Nat.le_refl _,rfl,h⟩
 simp only[sJ] at e; subst e
 exact⟨K,Step.refl _ _ _,Nat.le_refl _,rfl,h⟩
theorem ArH {n:Nat} {s':St} {a':Act} {fn:Func} {r:aF} (ha:fT K μ w n K' μ' w') (hs':Sim K' μ' s' a' w') (h:Ai2 P fn n s'=some r) :
  ∃u,(results fn a'.tmps).run P w'=.ok u w'/\EndOK K μ w n r (.returned u) w':=by
 unfold Ai2 at h
 split at h
 ·simp at h
 rename_i s1 hfz
 obtain⟨K1,hst1,hn1,hd1,hs1⟩:=AuG hs' hfz
 have ha:=ha.trans (m:=n) ⟨hst1,λ_ _=>rfl⟩ (Nat.le_refl _)
 clear hs'
 have hs':=hs1
 split at h
 ·rename_i v hv
  split at h
  ·rename_i ids lh' hob
   split at h
   ·rename_i v' hv'
    simp only[sJ] at h; subst h
    obtain⟨u,hu,hru,hvi,hpl⟩:=BfP hs' hv
    obtain⟨g1,g2,g3,g4,g5,g6⟩:=AvA ha hs' hob
    obtain⟨k1,k2,k3⟩:=V.into_rep (K':=λb o=>iK ids (K1 b o)) (μ':=λi=>μ' (ids.getD i 0)) (λb o h=>by rw[h]; rfl)
     (λi b h=>by simp[List.getD,h]) hv' hru hpl
    exact⟨u,hu,⟨_,_,g1,g2,g3,g4,g5,k3,by rw[g6]; exact k2,u,rfl,k1⟩⟩
   simp at h
  simp at h
 simp at h
theorem Au1 (hP:oW P) (H:Nat->Nat->List Nat) {call:Call} (ih:zZ P call) (k:Nat) {g f:Nat} {args:List C} {lh:List (List C)} {r:aF} (h:Am1 P H call k g f args lh=some r) :
  Callee P f/\pO P f args lh r:=by
 unfold Am1 at h
 split at h
 ·rename_i fn hfn
  split at h
  ·rename_i code hcode
   split at h
   ·rename_i hlen
    refine⟨⟨fn,hfn,by rw[hcode]; rfl⟩,?_⟩
    intro K μ w vs hr hi hh hb hgl
    have hfo:=hP.func f fn hfn
    simp only[AjT,hcode,Bool.and_eq_true] at hfo
    have hsim:=AmS (n:=fn.ntmps-vs.toArray.size) hr hi hh hb hgl
    have hdb:=iA (m:=(vs.toArray++Array.replicate (fn.ntmps-vs.toArray.size) Go.undef).size) (by simp; omega) code hfo.2
    have h':∃x s',iW P (H g) call k code (AaR args lh)=some (x,s')/\(x=.normal\/x=.ret)/\s'.defers=[]/\Ai2 P fn lh.length s'=some r:=by
     split at h
     ·rename_i s' he
      split at h
      ·rename_i hd; exact⟨_,s',he,.inl rfl,List.isEmpty_iff.1 hd,h⟩
      simp at h
     ·rename_i s' he
      split at h
      ·rename_i hd; exact⟨_,s',he,.inr rfl,List.isEmpty_iff.1 hd,h⟩
      simp at h
     simp at h
    obtain⟨x,s',hex,hx,hd,hend⟩:=h'
    refine calls_of_wp_defers (R:=λe w'=>EndOK K μ w lh.length r e w') hfn hcode (iX ih hP code hdb hex hsim rfl ?_)
    intro e K' μ' a' w' ho ha hn hs' hsz
    obtain⟨u,hu,hE⟩:=ArH ha hs' hend
    have he:e=.normal\/e=.ret:=by
     rcases hx with rfl|rfl
     ·exact .inl ho
     exact .inr ho
    have hdd:a'.defers=[]:=by rw[hs'.defs,hd]; rfl
    rcases he with rfl|rfl
    ·show Leaves P fn a'.tmps _ a'.defers .returning w'
     rw[hdd]; exact⟨u,hu,hE⟩
    show Leaves P fn a'.tmps _ a'.defers .returning w'
    rw[hdd]; exact⟨u,hu,hE⟩
   simp at h
  simp at h
 simp at h
omit [cU] in
theorem AoV {E:Nat->Option Call} (H:Nat->Nat->List Nat) (f:Nat) (args:List C) (lh:List (List C)):Aa7 P E H 0 f args lh=none:=rfl
omit [cU] in
theorem AhW {E:Nat->Option Call} (H:Nat->Nat->List Nat) (k:Nat) {f:Nat} (hf:Nat.blt f zQ=true) (args:List C) (lh:List (List C)) :
 Aa7 P E H (k+1) f args lh=Am0 P E H (Aa7 P E H k) k f (if (H f 999999).isEmpty then args.map C.still else args) lh:=by rw[Aa7,hf]
omit [cU] in
theorem AoU {E:Nat->Option Call} (H:Nat->Nat->List Nat) (k:Nat) {f g:Nat} (h1:Nat.blt g zQ=false) (h2:g-zQ=f) (args:List C) (lh:List (List C)) :
 Aa7 P E H (k+1) g args lh=Am1 P H (Aa7 P E H k) k g f (args.map C.still) lh:=by rw[Aa7,h1,h2]
theorem BgO (hP:oW P) {E:Nat->Option Call} (hE:∀f g,E f=some g->∀args lh r,g f args lh=some r->Callee P f/\pO P f args lh r) (H:Nat->Nat->List Nat) {k:Nat} (ih:zZ P (Aa7 P E H k)):pY P (AcC (Aa7 P E H (k+1))):=by
 intro f args lh r h
 have ih:=AtZ hP hE H ih k
 unfold AcC at h
 split at h
 ·rename_i hf
  rw[AhW H k hf] at h
  have:=ih _ _ _ _ h
  split at this
  ·exact⟨this.1,this.2.of_still⟩
  exact this
 simp at h
theorem BdX (hP:oW P) {E:Nat->Option Call} (H:Nat->Nat->List Nat) {k:Nat} (ih:zZ P (Aa7 P E H k)) {f g:Nat} (h1:Nat.blt g zQ=false) (h2:g-zQ=f) {args:List C} {lh:List (List C)} {r:aF} (h:Aa7 P E H (k+1) g args lh=some r) :
  Callee P f/\pO P f args lh r:=by
 rw[AoU H k h1 h2] at h
 have:=Au1 hP H ih k h
 exact⟨this.1,this.2.of_still⟩
theorem AwL {call:Call} (h:∀f g args lh r,g=f+zQ->call g args lh=some r->Callee P f/\pO P f args lh r):pY P (As6 call):=
 fun f args lh r e=>h f (f+zQ) args lh r rfl e
theorem Ac9 (hP:oW P) {E:Nat->Option Call} (hE:∀f g,E f=some g->∀args lh r,g f args lh=some r->Callee P f/\pO P f args lh r) (H:Nat->Nat->List Nat) :
  ∀k,zZ P (Aa7 P E H k)
 |0=>⟨λf args lh r h=>by unfold AcC at h; split at h<;>simp[AoV] at h,AwL λf g args lh r _ h=>by simp[AoV] at h⟩
 |k+1=>⟨BgO hP hE H (Ac9 hP hE H k),AwL λf g args lh r hg h=>BdX hP H (Ac9 hP hE H k) (AwJ hg) (AyW hg) h⟩
end
end Go.AM
namespace Go.AM
open Go Go.RowKit
variable [cU]
def colRo (w:World):Col:=λb _=>if b<w.heap.size then .ro else .other
theorem Ar8 {w w':World} {K':Col} (h:Step iD (colRo w) w K' w'):Below w.heap.size w w':=
 ⟨h.os,h.tape,h.output,h.size,λb hb=>h.block b hb λoff hm=>by
  simp only[colRo,hb,if_true] at hm
  exact hm.1 rfl⟩
def AvS (w:World):Prop:=∀x∈cU.tab,∀i v,x.2[i]?=some v->w.cell? (ad x.1 i)=some v
theorem AvS.glob {w:World} (h:AvS w):Ak9 (colRo w) w:=by
 intro x hx i v hv
 have:=h x hx i v hv
 rw[Nat.zero_add]
 exact⟨by simp[colRo,block_lt this],this⟩
section
variable {P:Program} {f:Nat} {args:List C} {w:World} {vs:List Value}
theorem BcC {v:V} (h:pO P f args [] (.ret v [])) (hargs:aZ (colRo w) (λ_=>0) w args vs) (hids:∀c∈args,c.ids=[]) (hg:AvS w) :
  Calls P f vs.toArray w λe w'=>Below w.heap.size w w'/\∃u K' μ',e=.returned u/\bY K' μ' w' v u:=by
 refine (h (colRo w) (λ_=>0) w vs hargs (λc hc b hb=>by rw[hids c hc] at hb; simp at hb) (λi cells hi=>by simp at hi)
  (λb off hb=>by simp only[colRo]; rw[if_neg oM]) hg.glob).mono ?_
 rintro e w' ⟨K',μ',hst,_,_,_,_,_,_,u,rfl,hu⟩
 exact⟨Ar8 hst,u,K',μ',rfl,hu⟩
theorem calls_true (h:pO P f args [] (.ret (.d (.bool true)) [])) (hargs:aZ (colRo w) (λ_=>0) w args vs) (hids:∀c∈args,c.ids=[]) (hg:AvS w) :
  Calls P f vs.toArray w λe w'=>e=.returned (.bool true)/\Below w.heap.size w w':=by
 refine (BcC h hargs hids hg).mono ?_
 rintro e w' ⟨hb,u,K',μ',rfl,hu⟩
 simp only[bY,RepC,Rep] at hu
 subst hu
 exact⟨rfl,hb⟩
end
end Go.AM
namespace Go.AM
open Go
def Evt (p:Nat->Prop):Prop:=∃k₀,∀k,k₀<=k->p k
theorem Evt.of {p:Nat->Prop} (h:∀k,p k):Evt p:=⟨0,λk _=>h k⟩
theorem Evt.and {p q:Nat->Prop} (h:Evt p) (h':Evt q):Evt λk=>p k/\q k:=by
 obtain⟨a,ha⟩:=h; obtain⟨b,hb⟩:=h'
 exact⟨max a b,λk hk=>⟨ha k oM,hb k oM⟩⟩
theorem Evt.imp {p q:Nat->Prop} (h:Evt p) (hq:∀k,p k->q k):Evt q:=by
 obtain⟨a,ha⟩:=h; exact⟨a,λk hk=>hq k (ha k hk)⟩
theorem Evt.succ {p:Nat->Prop} (h:Evt λk=>p (k+1)):Evt p:=by
 obtain⟨a,ha⟩:=h
 refine⟨a+1,λk hk=>?_⟩
 obtain⟨j,rfl⟩:∃j,k=j+1:=⟨k-1,oM⟩
 exact ha j oM
structure Ctx where
 P:Program
 E:Nat->Option Call
 H:Nat->Nat->List Nat
abbrev Ctx.raw (X:Ctx) (k:Nat):Call:=Aa7 X.P X.E X.H k
abbrev Ctx.call (X:Ctx) (k:Nat):Call:=AcC (X.raw k)
def bF (X:Ctx) (f:Nat) (args:List C) (lh:List (List C)) (r:aF):Prop:=Evt λk=>X.call k f args lh=some r
structure awp (X:Ctx) (f:Nat) (c:Code) (Q:AX->St->Prop) (s:St):Prop where
 ex:∃x s',(Evt λk=>iW X.P (X.H f) (X.raw k) k c s=some (x,s'))/\Q x s'
structure qA (X:Ctx) (ops:Array Oper) (l:List Oper) (Q:AX->St->Prop) (s:St):Prop where
 ex:∃x s',(Evt λk=>∀fs,∃fs',AiZ X.P (X.call k) ops l s fs=some (x,s',fs'))/\Q x s'
structure oO (X:Ctx) (ops:Array Oper) (vs:List Nat) (base:Nat) (pre:List Fp) (l:List Oper) (i:Nat) (Q:AX->St->Prop) (s:St):Prop where
 ex:∃x s' fs,(Evt λk=>tS X.P (X.call k) ops false vs base l i s=some (x,s',fs))/\(AgC x.isPan ops base (pre++fs)&&decide (base<=s'.nid))=true/\Q x s'
structure cL (X:Ctx) (f:Nat) (c:Code) (clean:St->Option St) (Q:AX->St->Prop) (s:St):Prop where
 ex:∃x s',(∃m₀,Evt λk=>∀m,m₀<=m->iter (iW X.P (X.H f) (X.raw k) k c) clean m s=some (x,s'))/\Q x s'
inductive kW (X:Ctx) (f:Nat) (b:Code) (Q:AX->St->Prop):AX->St->Prop where
 |normal {s:St}:awp X f b Q s->kW X f b Q .normal s
 |exit {id:Nat} {s:St}:Q (.exit id) s->kW X f b Q (.exit id) s
 |ret {s:St}:Q .ret s->kW X f b Q .ret s
 |pan {d:D} {s:St}:Q (.pan d) s->kW X f b Q (.pan d) s
def zF (h:List Nat) (n:Nat) (s:St):Option St:=match h with
 | []=>some s
 |_::ks=>aJ ks n s
theorem AdQ {h:List Nat} {n:Nat} {s s':St} (hs:zF h n s=some s'):settle h n (some (.normal,s))=some (.normal,s'):=by
 cases h with
 |nil=>simp only[zF,sJ] at hs; subst hs; rfl
 |cons k ks=>simp only[zF] at hs; simp only[settle,hs]
inductive aL (id:Nat) (hk:List Nat) (n:Nat) (Q:AX->St->Prop):AX->St->Prop where
 |here {s s':St}:zF hk n s=some s'->Q .normal s'->aL id hk n Q (.exit id) s
 |there {id':Nat} {s:St}:(id'==id)=false->Q (.exit id') s->aL id hk n Q (.exit id') s
 |normal {s s':St}:zF hk n s=some s'->Q .normal s'->aL id hk n Q .normal s
 |ret {s:St}:Q .ret s->aL id hk n Q .ret s
 |pan {d:D} {s:St}:Q (.pan d) s->aL id hk n Q (.pan d) s
inductive fW (hk:List Nat) (n:Nat) (Q:AX->St->Prop):AX->St->Prop where
 |normal {s s':St}:zF hk n s=some s'->Q .normal s'->fW hk n Q .normal s
 |exit {id:Nat} {s:St}:Q (.exit id) s->fW hk n Q (.exit id) s
 |ret {s:St}:Q .ret s->fW hk n Q .ret s
 |pan {d:D} {s:St}:Q (.pan d) s->fW hk n Q (.pan d) s
theorem fW.settled {hk:List Nat} {n:Nat} {Q:AX->St->Prop} {x:AX} {s:St} (h:fW hk n Q x s):∃s',settle hk n (some (x,s))=some (x,s')/\Q x s':=by
 cases h with
 |normal h1 h2=>exact⟨_,AdQ h1,h2⟩
 |exit h=>exact⟨_,rfl,h⟩
 |ret h=>exact⟨_,rfl,h⟩
 |pan h=>exact⟨_,rfl,h⟩
theorem aL.settled {id:Nat} {hk:List Nat} {n:Nat} {Q:AX->St->Prop} {x:AX} {s:St} (h:aL id hk n Q x s):∃x' s',settle hk n (leaves id (some (x,s)))=some (x',s')/\Q x' s':=by
 cases h with
 |here h1 h2=>exact⟨_,_,by simp only[leaves,if_true]; exact AdQ h1,h2⟩
 |there hn h=>
  refine⟨_,_,?_,h⟩
  simp only[leaves]
  rw[if_neg (by simpa using hn)]; rfl
 |normal h1 h2=>exact⟨_,_,AdQ h1,h2⟩
 |ret h=>exact⟨_,_,rfl,h⟩
 |pan h=>exact⟨_,_,rfl,h⟩
section
variable {X:Ctx} {f:Nat} {Q:AX->St->Prop} {s:St}
theorem AwF (h:Q .normal s):awp X f .skip Q s:=⟨_,_,.of λ_=>rfl,h⟩
theorem BaU (h:Q .ret s):awp X f .ret Q s:=⟨_,_,.of λ_=>rfl,h⟩
theorem AwE {id:Nat} (h:Q (.exit id) s):awp X f (.exit id) Q s:=⟨_,_,.of λ_=>rfl,h⟩
theorem As3 {id:Nat} (h:Q .normal s):awp X f (.label id) Q s:=⟨_,_,.of λ_=>rfl,h⟩
theorem Au5 {a b:Code} (h:awp X f a (kW X f b Q) s):awp X f (.seq a b) Q s:=by
 obtain⟨x,s',h1,h2⟩:=h
 cases x with
 |normal=>
  cases h2 with|normal h2=>
  obtain⟨x2,s2,h3,h4⟩:=h2
  exact⟨x2,s2,(h1.and h3).imp λk ⟨p,q⟩=>by simp only[iW,p,q],h4⟩
 |exit id=>cases h2 with|exit h2=>exact⟨_,s',h1.imp λk p=>by simp only[iW,p],h2⟩
 |ret=>cases h2 with|ret h2=>exact⟨_,s',h1.imp λk p=>by simp only[iW,p],h2⟩
 |pan d=>cases h2 with|pan h2=>exact⟨_,s',h1.imp λk p=>by simp only[iW,p],h2⟩
theorem AwC {o:Operand} {a b:Code} {c:Bool} (hc:ev s.tmps o=some (.c (.d (.bool c)))) (h:c=true->awp X f a (fW (X.H f (vK a b)) s.nid Q) s) (h':c=false->awp X f b (fW (X.H f (vK a b)) s.nid Q) s):awp X f (.cond o a b) Q s:=by
 cases c with
 |true=>
  obtain⟨x,s',h1,h2⟩:=h rfl
  obtain⟨s2,h3,h4⟩:=h2.settled
  exact⟨x,s2,h1.imp λk p=>by simp only[iW,hc,p,h3],h4⟩
 |false=>
  obtain⟨x,s',h1,h2⟩:=h' rfl
  obtain⟨s2,h3,h4⟩:=h2.settled
  exact⟨x,s2,h1.imp λk p=>by simp only[iW,hc,p,h3],h4⟩
theorem yK {id:Nat} {c:Code} (h:awp X f c (aL id (X.H f (1000000+id)) s.nid Q) s):awp X f (.block id c) Q s:=by
 obtain⟨x,s',h1,h2⟩:=h
 obtain⟨x2,s2,h3,h4⟩:=h2.settled
 exact⟨x2,s2,h1.imp λk p=>by simp only[iW,p,h3],h4⟩
theorem As4 {c:Code} (h:awp X f c Q s):awp X f (.scope c) Q s:=by
 obtain⟨x,s',h1,h2⟩:=h
 exact⟨x,s',h1.imp λk p=>by simp only[iW,p],h2⟩
theorem An2 {id:Nat} {ops:Array Oper} {s0:St} (hM:isM (X.H f id)=false) (hz:frz (X.H f id) s=some s0) (h:qA X ops ops.toList Q { s0 with tmps:=uT (X.H f id) s0.tmps }):awp X f (.region id ops false) Q s:=by
 obtain⟨x,s',h1,h2⟩:=h
 refine⟨x,s',h1.imp λk p=>?_,h2⟩
 obtain⟨fs',hp⟩:=p []
 simp only[iW,hz,hM,fJ,if_false,hp]
theorem As2 {id:Nat} {ops:Array Oper} {s0:St} (hM:isM (X.H f id)=false) (hns:(X.H f id).contains 4999999=false) (hz:frz (X.H f id) s=some s0) (h:oO X ops (rX ops) s0.nid [] ops.toList 0 Q { s0 with tmps:=uT (X.H f id) s0.tmps,nid:=s0.nid+ops.size }):awp X f (.region id ops true) Q s:=by
 obtain⟨x,s',fs,h1,h2,h3⟩:=h
 refine⟨x,s',h1.imp λk p=>?_,h3⟩
 simp only[iW,hz,hM,if_true,hns,AbF,p]
 simp only[List.nil_append] at h2
 rw[if_pos h2]
def noF (ks:List Nat):Bool:=ks.all λk=>!Nat.ble 7000000 k||Nat.ble 15000000 k
theorem AoI:∀{ks:List Nat} {s:St},noF ks=true->frz ks s=some s
 | [],_,_=>rfl
 |k::r,s,h=>by
  simp only[noF,List.all_cons,Bool.and_eq_true,Bool.or_eq_true,Bool.not_eq_true'] at h
  rcases h.1 with h1|h1
  ·simp only[frz,h1]
   exact AoI h.2
  have h2:Nat.ble 7000000 k=true:=Nat.ble_eq_true_of_le (by have:=Nat.le_of_ble_eq_true h1; omega)
  have h3:Nat.ble 13000000 k=true:=Nat.ble_eq_true_of_le (by have:=Nat.le_of_ble_eq_true h1; omega)
  simp only[frz,h2,Aj2,h3]
  exact AoI h.2
theorem AuU:∀{ks:List Nat},noF ks=true->isM ks=false
 | [],_=>rfl
 |k::r,h=>by
  simp only[noF,List.all_cons,Bool.and_eq_true] at h
  have ih:=AuU (ks:=r) h.2
  unfold isM at ih ⊢
  rw[List.contains_cons,ih,Bool.or_false]
  cases hb:(14000000==k) with
  |false=>rfl
  |true=>
   have:k=14000000:=(beq_iff_eq.1 hb).symm
   subst this
   exact absurd h.1 dM
theorem Ap2 {id:Nat} {ops:Array Oper} (hz:noF (X.H f id)=true) (h:qA X ops ops.toList Q { s with tmps:=uT (X.H f id) s.tmps }):awp X f (.region id ops false) Q s:=An2 (AuU hz) (AoI hz) h
theorem AwD {id:Nat} {ops:Array Oper} (hz:(noF (X.H f id)&&!(X.H f id).contains 4999999)=true) (h:oO X ops (rX ops) s.nid [] ops.toList 0 Q { s with tmps:=uT (X.H f id) s.tmps,nid:=s.nid+ops.size }):awp X f (.region id ops true) Q s:=by
 simp only[Bool.and_eq_true,Bool.not_eq_true'] at hz
 exact As2 (AuU hz.1) hz.2 (AoI hz.1) h
theorem AkJ {c:Code} {Q':AX->St->Prop} (h:awp X f c Q s) (hq:∀x s',Q x s'->Q' x s'):awp X f c Q' s:=by
 obtain⟨x,s',h1,h2⟩:=h
 exact⟨x,s',h1,hq x s' h2⟩
theorem AkH {ops:Array Oper} (h:Q .normal s):qA X ops [] Q s:=⟨_,_,.of λ_ fs=>⟨fs,rfl⟩,h⟩
theorem Bc8 {ops:Array Oper} {o:Oper} {l:List Oper} (hw:wantedAt ops s.tmps o=some false) (h:qA X ops l Q (putDst o (.c .undef) s)):qA X ops (o::l) Q s:=by
 obtain⟨x,s',h1,h2⟩:=h
 refine⟨x,s',h1.imp λk p fs=>?_,h2⟩
 obtain⟨fs',hp⟩:=p (eX.none::fs)
 exact⟨fs',by simp only[AiZ,hw,hp]⟩
theorem Au4 {ops:Array Oper} {o:Oper} {l:List Oper} {v:V} {s1:St} {ft:eX} (hw:wantedAt ops s.tmps o=some true) (hop:Evt λk=>cV X.P (X.call k) s.nid o s=some (.val v s1,ft))
  (h:qA X ops l Q (putDst o v s1)):qA X ops (o::l) Q s:=by
 obtain⟨x,s',h1,h2⟩:=h
 refine⟨x,s',(hop.and h1).imp λk ⟨q,p⟩ fs=>?_,h2⟩
 obtain⟨fs',hp⟩:=p (ft::fs)
 exact⟨fs',by simp only[AiZ,hw,q,hp]⟩
theorem AkI {ops:Array Oper} {o:Oper} {l:List Oper} {v:V} {s1:St} {ft:eX} (hw:wantedAt ops s.tmps o=some true) (hop:∀call,cV X.P call s.nid o s=some (.val v s1,ft))
 (h:qA X ops l Q (putDst o v s1)):qA X ops (o::l) Q s:=Au4 hw (.of λ_=>hop _) h
theorem Be4 {ops:Array Oper} {o:Oper} {l:List Oper} {d:D} {s1:St} {ft:eX} (hw:wantedAt ops s.tmps o=some true) (hop:Evt λk=>cV X.P (X.call k) s.nid o s=some (.pan d s1,ft))
  (h:Q (.pan d) s1):qA X ops (o::l) Q s:=
 ⟨_,_,hop.imp λk q fs=>⟨ft::fs,by simp only[AiZ,hw,q]⟩,h⟩
theorem Aw9 {ops:Array Oper} {vs:List Nat} {base i:Nat} {pre:List Fp} (hok:(AgC false ops base pre&&decide (base<=s.nid))=true) (h:Q .normal s):oO X ops vs base pre [] i Q s:=
 ⟨_,_,[],.of λ_=>rfl,by rw[List.append_nil]; exact hok,h⟩
theorem Bc7 {ops:Array Oper} {vs:List Nat} {base i:Nat} {pre:List Fp} {o:Oper} {l:List Oper} {s1:St} (hw:wantedAt ops s.tmps o=some false) (hp:vZ o.dst (.c .undef) s=some s1)
  (h:oO X ops vs base (pre++[Fp.fill ⟨(fA ops o).map .tmp,kX o.dst (.c .undef),[],false⟩ s1]) l (i+1) Q s1):oO X ops vs base pre (o::l) i Q s:=by
 obtain⟨x,s',fs,h1,h2,h3⟩:=h
 refine⟨x,s',Fp.fill ⟨(fA ops o).map .tmp,kX o.dst (.c .undef),[],false⟩ s1::fs,h1.imp λk p=>by simp only[tS,hw,hp,p],?_,h3⟩
 rw[List.append_assoc] at h2; exact h2
theorem Au3 {ops:Array Oper} {vs:List Nat} {base i:Nat} {pre:List Fp} {o:Oper} {l:List Oper} {v:V} {s1 s2:St} {ft:Fp} (hw:wantedAt ops s.tmps o=some true)
  (hop:Evt λk=>eP X.P (X.call k) ops vs (base+i) o s=some (.val v s1,ft)) (hp:vZ o.dst v s1=some s2)
  (h:oO X ops vs base (pre++[ft.fill s2]) l (i+1) Q s2):oO X ops vs base pre (o::l) i Q s:=by
 obtain⟨x,s',fs,h1,h2,h3⟩:=h
 refine⟨x,s',ft.fill s2::fs,(hop.and h1).imp λk ⟨q,p⟩=>by simp only[tS,AyT,AlT q,hw,q,hp,p],?_,h3⟩
 rw[List.append_assoc] at h2; exact h2
theorem AwA {ops:Array Oper} {vs:List Nat} {base i:Nat} {pre:List Fp} {o:Oper} {l:List Oper} {v:V} {s1 s2:St} {ft:Fp} (hw:wantedAt ops s.tmps o=some true)
 (hop:∀call,eP X.P call ops vs (base+i) o s=some (.val v s1,ft)) (hp:vZ o.dst v s1=some s2)
 (h:oO X ops vs base (pre++[ft.fill s2]) l (i+1) Q s2):oO X ops vs base pre (o::l) i Q s:=Au3 hw (.of λ_=>hop _) hp h
theorem Be2 {ops:Array Oper} {vs:List Nat} {base i:Nat} {pre:List Fp} {o:Oper} {l:List Oper} {v:V} {s1 s2:St} (hw:wantedAt ops s.tmps o=some true)
  (hop:AdA X.P o s=some (v,s1)) (hp:vZ o.dst v s1=some s2)
  (h:oO X ops vs base (pre++[Fp.fill (yZ X.P ops o s v) s2]) l (i+1) Q s2):oO X ops vs base pre (o::l) i Q s:=by
 obtain⟨x,s',fs,h1,h2,h3⟩:=h
 refine⟨x,s',Fp.fill (yZ X.P ops o s v) s2::fs,h1.imp λk p=>by simp only[tS,AyT,hop,hw,hp,p],?_,h3⟩
 rw[List.append_assoc] at h2; exact h2
theorem Be3 {ops:Array Oper} {vs:List Nat} {base i:Nat} {pre:List Fp} {o:Oper} {l:List Oper} {d d0:D} {s1 s0:St} {ft ft0:Fp} (hw:wantedAt ops s.tmps o=some true)
  (hop0:Evt λk=>eP X.P (X.call k) ops vs (base+i) o s=some (.pan d0 s0,ft0)) (hw':wantedAt ops (pW (jB ops i) s).tmps o=some true)
  (hop:Evt λk=>eP X.P (X.call k) ops vs (base+i) o (pW (jB ops i) s)=some (.pan d s1,ft)) (hok:(AgC true ops base (pre++[ft])&&decide (base<=s1.nid))=true) (h:Q (.pan d) s1):oO X ops vs base pre (o::l) i Q s:=by
 refine⟨.pan d,s1,[ft],(hop0.and hop).imp λk p=>?_,hok,h⟩
 obtain⟨q,p⟩:=p
 rw[tS]
 simp only[AyT,AlT q,hw,q]
 rw[hw',p]
theorem dS {c:Code} (h:cL X f c (aJ (X.H f (lJ c)) s.nid) Q s):awp X f (.loop c) Q s:=by
 obtain⟨x,s',⟨m₀,a,h1⟩,h2⟩:=h
 exact⟨x,s',⟨max m₀ a,λk hk=>by simp only[iW]; exact h1 k oM k oM⟩,h2⟩
theorem AzD {c:Code} {clean:St->Option St} {s1:St} (hc:clean s=some s1) (h:awp X f c (λx s'=>match x with|.normal=>cL X f c clean Q s' | x=>Q x s') s1):cL X f c clean Q s:=by
 obtain⟨x,s',h1,h2⟩:=h
 cases x with
 |normal=>
  obtain⟨x2,s2,⟨m₀,h3⟩,h4⟩:=h2
  refine⟨x2,s2,⟨m₀+1,(h1.and h3).imp λk ⟨p,q⟩ m hm=>?_⟩,h4⟩
  obtain⟨j,rfl⟩:∃j,m=j+1:=⟨m-1,oM⟩
  simp only[iter,hc,p]
  exact q j oM
 |_=>
  refine⟨_,s',⟨1,h1.imp λk p m hm=>?_⟩,h2⟩
  obtain⟨j,rfl⟩:∃j,m=j+1:=⟨m-1,oM⟩
  simp only[iter,hc,p]
structure yD (X:Ctx) (fn:Func) (n:Nat) (r:aF) (x:AX) (s:St):Prop where
 ex:Evt λk=>finish X.P X.H (X.raw k) k fn n x s=some r
structure rdef (X:Ctx) (ds:List (Nat×List Nat)) (pan:Option D) (s:St) (pan':Option D) (s':St):Prop where
 ex:Evt λk=>uD X.P X.H (X.raw k) k ds pan s=some (pan',s')
theorem yD.ret {fn:Func} {n:Nat} {r:aF} (hd:s.defers=[]) (h:uJ X.P fn n s=some r):yD X fn n r .ret s:=
 ⟨.of λk=>by simp only[finish,hd,List.isEmpty_nil,if_true,h]⟩
theorem yD.normal {fn:Func} {n:Nat} {r:aF} (hd:s.defers=[]) (h:uJ X.P fn n s=some r):yD X fn n r .normal s:=
 ⟨.of λk=>by simp only[finish,hd,List.isEmpty_nil,if_true,h]⟩
theorem yD.pan {fn:Func} {n:Nat} {r:aF} {d:D} (hd:s.defers=[]) (h:Am8 d n s=some r):yD X fn n r (.pan d) s:=
 ⟨.of λk=>by simp only[finish,hd,List.isEmpty_nil,if_true,h]⟩
def BkA (X:Ctx) (pan:Option D) (f:Nat) (args:List C) (lh:List (List C)) (r:aF):Prop:=Evt λk=>AoT X.P X.H (X.raw k) k pan f args lh=some r
theorem rdef.nil {pan:Option D}:rdef X [] pan s pan s:=⟨.of λ_=>rfl⟩
theorem rdef.cons {g:Nat} {caps ids:List Nat} {l:List (Nat×List Nat)} {pan pan':Option D} {s':St} {args':List C} {lh lh' lh'':List (List C)} {v v':V} (hr:rW s.heap 64 ((caps.map λb=>C.ptr b 0).flatMap C.ids) []=some ids) (hi:aY (C.into ids) (caps.map λb=>.ptr b 0)=some args')
  (hb:pG s.heap ids=some lh) (hv:BkA X pan g args' lh (.ret v lh')) (hk:aY (aY (C.back (ids++bD s.nid (lh'.length-ids.length)))) lh'=some lh'') (hv':V.back (ids++bD s.nid (lh'.length-ids.length)) v=some v')
  (h:rdef X l (if AjA X.P g then none else pan) { s with tmps:=unviewIn (ids++bD s.nid (lh'.length-ids.length)) s.tmps,heap:=dT (ids++bD s.nid (lh'.length-ids.length)) lh'' s.heap,nid:=s.nid+(lh'.length-ids.length) } pan' s') :
  rdef X ((g,caps)::l) pan s pan' s':=
 ⟨(hv.and h.ex).imp λk ⟨p,q⟩=>by simp only[uD,mU,hr,hi,hb,p,hk,hv']; exact q⟩
theorem BgQ {fn:Func} {code:Code} {args args':List C} {lh:List (List C)} {r:aF} (hE:X.E f=none) (hf:X.P.funcs[f]?=some fn) (hb:fn.body=some code) (hst:(if (X.H f 999999).isEmpty then args.map C.still else args)=args') (hl:args'.length=fn.params.size+fn.nfree)
  (h:awp X f code (yD X fn lh.length r) (AaR args' lh)) (hlow:Nat.blt f zQ=true:=by rfl):bF X f args lh r:=by
 obtain⟨x,s',h1,h2⟩:=h
 refine Evt.succ ((h1.and h2.ex).imp λk ⟨p,q⟩=>?_)
 simp only[Ctx.call,Ctx.raw,AcC,hlow,AhW X.H k hlow,hst,Am0,hE,hf,hb,hl,if_true]
 simp only[p]
 exact q
structure BkS (X:Ctx) (fn:Func) (n:Nat) (r:aF) (x:AX) (s:St):Prop where
 ex:(x=.normal\/x=.ret)/\s.defers=[]/\uJ X.P fn n s=some r
theorem C.still_still:∀l:List C,(l.map C.still).map C.still=l.map C.still
 | []=>rfl
 |c::l=>by
  have ih:=C.still_still l
  simp only[List.map_cons,ih]
  cases c<;>rfl
theorem AeJ {args:List C} {lh:List (List C)} {r:aF} (h:bF X f (args.map C.still) lh r) (hH:(X.H f 999999).isEmpty=true):bF X f args lh r:=by
 obtain⟨k₀,h⟩:=h
 refine⟨k₀+1,λk hk=>?_⟩
 obtain⟨j,rfl⟩:∃j,k=j+1:=⟨k-1,oM⟩
 have:=h (j+1) oM
 simp only[Ctx.call,Ctx.raw,AcC] at this ⊢
 split at this
 ·rename_i hlow
  simp only[AhW X.H j hlow,hH,if_true] at this ⊢
  rw[C.still_still] at this
  exact this
 simp at this
theorem aval_ext {g:Call} {args args':List C} {lh:List (List C)} {r:aF} (hE:X.E f=some g) (hst:(if (X.H f 999999).isEmpty then args.map C.still else args)=args') (h:g f args' lh=some r) (hlow:Nat.blt f zQ=true:=by rfl):bF X f args lh r:=
 Evt.succ (.of λk=>by simp only[Ctx.call,Ctx.raw,AcC,hlow,AhW X.H k hlow,hst,Am0,hE,h])
theorem BeA (call:Call) (f:Nat) (args:List C) (lh:List (List C)):As6 call f args lh=call (f+zQ) args lh:=rfl
theorem BfK (X:Ctx) (k:Nat) {f g:Nat} (h1:Nat.blt g zQ=false) (h2:g-zQ=f) (args:List C) (lh:List (List C)):X.raw (k+1) g args lh=Am1 X.P X.H (X.raw k) k g f (args.map C.still) lh:=
 AoU X.H k h1 h2 args lh
def Aw8 (X:Ctx) (f:Nat) (args:List C) (lh:List (List C)) (r:aF):Prop:=Evt λk=>As6 (X.raw k) f args lh=some r
structure AzA (X:Ctx) (fn:Func) (n:Nat) (r:aF) (x:AX) (s:St):Prop where
 ex:(x=.normal\/x=.ret)/\s.defers=[]/\Ai2 X.P fn n s=some r
theorem Be0 {g:Nat} {fn:Func} {code:Code} {args args':List C} {lh:List (List C)} {r:aF} (hg:g=f+zQ) (hf:X.P.funcs[f]?=some fn) (hb:fn.body=some code) (hst:args.map C.still=args') (hl:args'.length=fn.params.size+fn.nfree)
  (h:awp X g code (AzA X fn lh.length r) (AaR args' lh)):Aw8 X f args lh r:=by
 obtain⟨x,s',h1,⟨hx,hd,h2⟩⟩:=h
 refine Evt.succ (h1.imp λk p=>?_)
 rw[BeA,←hg,BfK X k (AwJ hg) (AyW hg)]
 simp only[Am1,hf,hb,hst,hl,if_true,p]
 rcases hx with rfl|rfl<;>simp only[hd,List.isEmpty_nil,if_true,h2]
theorem Al3 {o:Oper} {c:Go.Call} {fo:Operand} {g:Nat} {caps ids:List Nat} {args args':List C} {lh lh' lh'':List (List C)} {v v':V} (ho:o.op=.call c) (hc:c.callee=.value fo) (hf:ev s.tmps fo=some (.c (.fn g caps)))
  (ha:pF X.P s.tmps c.args.toList c.argTypes.toList=some args) (hr:rW s.heap 64 ((args++caps.map λb=>C.ptr b 0).flatMap C.ids) []=some ids) (hi:aY (C.into ids) (args++caps.map λb=>.ptr b 0)=some args')
  (hb:pG s.heap ids=some lh) (hv:bF X g args' lh (.ret v lh')) (hk:aY (aY (C.back (ids++bD s.nid (lh'.length-ids.length)))) lh'=some lh'') (hv':V.back (ids++bD s.nid (lh'.length-ids.length)) v=some v') :
  Evt λk=>cV X.P (X.call k) s.nid o s=some (.val v' { s with tmps:=unviewIn (ids++bD s.nid (lh'.length-ids.length)) s.tmps,heap:=dT (ids++bD s.nid (lh'.length-ids.length)) lh'' s.heap,nid:=s.nid+(lh'.length-ids.length) },⟨ids,ids,[]⟩):=
 hv.imp λk p=>by simp only[cV,ho,hc,hf,ha,mU,hr,hi,hb,p,hk,hv']
theorem BcP {o:Oper} {c:Go.Call} {fo:Operand} {g:Nat} {x:D} {ids:List Nat} {args args':List C} {lh lh' lh'':List (List C)} {v v':V} (ho:o.op=.call c) (hc:c.callee=.value fo) (hf:ev s.tmps fo=some (.c (.bfn g x)))
  (ha:pF X.P s.tmps c.args.toList c.argTypes.toList=some args) (hr:rW s.heap 64 ((.d x::args).flatMap C.ids) []=some ids) (hi:aY (C.into ids) (.d x::args)=some args')
  (hb:pG s.heap ids=some lh) (hv:bF X g args' lh (.ret v lh')) (hk:aY (aY (C.back (ids++bD s.nid (lh'.length-ids.length)))) lh'=some lh'') (hv':V.back (ids++bD s.nid (lh'.length-ids.length)) v=some v') :
  Evt λk=>cV X.P (X.call k) s.nid o s=some (.val v' { s with tmps:=unviewIn (ids++bD s.nid (lh'.length-ids.length)) s.tmps,heap:=dT (ids++bD s.nid (lh'.length-ids.length)) lh'' s.heap,nid:=s.nid+(lh'.length-ids.length) },⟨ids,ids,[]⟩):=
 hv.imp λk p=>by simp only[cV,ho,hc,hf,ha,mU,hr,hi,hb,p,hk,hv']
end
end Go.AM
namespace Go.AM
open Go
section
variable {P:Program} {call:Call} {id:Nat} {o:Oper} {s:St}
theorem AuN {t:TypeId} {x i:Operand} {l:List UInt8} {k:IntKind} {n:Int} {b:UInt8} (ho:o.op=.index t x i) (ht:P.underlying t=some .string) (hx:ev s.tmps x=some (.c (.d (.str l))))
  (hi:ev s.tmps i=some (.c (.d (.int k n)))) (h0:0<=n) (hb:l[n.toNat]?=some b):cV P call id o s=some (.val (.d (AcB b)) s,⟨cQ o s.tmps,[],[]⟩):=by
 simp only[cV,ho,evR,ht,hx,hi,h0,if_true,hb]
theorem AuM {t e:TypeId} {x i:Operand} {sz:Nat} {xs:List D} {k:IntKind} {n:Int} {d:D} (ho:o.op=.indexAddr t x i) (ht:nK P t=some e) (hz:some sz=tsz P e) (hx:(ev s.tmps x).bind V.toD=some (.list sz xs))
  (hi:ev s.tmps i=some (.c (.d (.int k n)))) (h0:0<=n) (hb:xs[n.toNat]?=some d):cV P call id o s=some (.val (.rptr d.cells) s,⟨cQ o s.tmps,[],[]⟩):=by
 obtain⟨v,hv,hd⟩:=Option.bind_eq_some_iff.1 hx
 cases v with
 |c y=>
  cases y with
  |arr b n k=>simp[V.toD,C.toD] at hd
  |_=>simp only[cV,ho,evR,ht,hv,hi,hd,h0,hz,and_self,if_true,hb]
 |_=>simp only[cV,ho,evR,ht,hv,hi,hd,h0,hz,and_self,if_true,hb]
theorem AeS {t:TypeId} {x:Operand} {lo hi:Option Operand} {l:List UInt8} {a b:Nat} (ho:o.op=.slice t x lo hi none) (ht:P.underlying t=some .string) (hx:evT P t s.tmps x=some (.c (.d (.str l))))
  (hl:gN s.tmps lo 0=some a) (hh:gN s.tmps hi l.length=some b) (h1:a<=b) (h2:b<=l.length) :
  cV P call id o s=some (.val (.d (.str ((l.take b).drop a))) s,⟨cQ o s.tmps,[],[]⟩):=by
 simp only[cV,ho,evR,hx,AuZ,ht,V.toD,C.toD,hl,hh,AhS,h1,h2,and_self,if_true,Option.map_some]
theorem qP {tm:List (Nat×V)} {x:Operand} {k:IntKind} {n:Int} {d:Nat} (hx:ev tm x=some (.c (.d (.int k n)))) (h:0<=n):gN tm (some x) d=some n.toNat:=by
 simp only[gN,hx,h,if_true]
theorem AdI {t e:TypeId} {x:Operand} {lo hi:Option Operand} {v:V} {sz:Nat} {xs:List D} {a b:Nat} (ho:o.op=.slice t x lo hi none) (ht:P.underlying t=some (.slice e)) (hz:tsz P e=some sz) (hx:evT P t s.tmps x=some v) (hv:v.toD=some (.list sz xs))
  (hl:gN s.tmps lo 0=some a) (hh:gN s.tmps hi xs.length=some b) (h1:a<=b) (h2:b<=xs.length) :
  cV P call id o s=some (.val (.d (.list sz ((xs.take b).drop a))) s,⟨cQ o s.tmps,[],[]⟩):=by
 simp[cV,ho,evR,hx,Ae1 hv,ht,hv,hl,hh,AhS,h1,h2,hz]
theorem BcO {t u:TypeId} {x y:Operand} {a b:List UInt8} (ho:o.op=.binOp .add t x y u) (hx:evT P t s.tmps x=some (.c (.d (.str a)))) (hy:evT P t s.tmps y=some (.c (.d (.str b)))) (h:a.length+b.length<=room) :
  cV P call id o s=some (.val (.d (.str (a++b))) s,⟨cQ o s.tmps,[],[]⟩):=by
 simp only[cV,ho,evR,hx,hy,AwG,BbX,h,if_true]
theorem BeU {src dst e:TypeId} {x:Operand} {a:List UInt8} (ho:o.op=.convert src dst x) (hs:P.underlying src=some .string) (hd:P.underlying dst=some (.slice e)) (he:P.underlying e=some (.int .u8)) (hz:tsz P e=some 1)
  (hx:evT P src s.tmps x=some (.c (.d (.str a)))) (h:a.length<=room):cV P call id o s=some (.val (.c (.own 1 (a.map AcB))) s,⟨cQ o s.tmps,[],[]⟩):=by
 simp only[cV,ho,evR,hx,AwN,hs,hd,he,h,hz,and_self,if_true]
theorem ArK {c:Go.Call} {t u e:TypeId} {x y:Operand} {n z:Nat} {yv:V} {ys:List D} (ho:o.op=.call c) (hc:c.callee=.builtin .append) (ha:c.args.toList=[x,y]) (hat:c.argTypes.toList=[t,u]) (ht:nK P t=some e) (hn:tsz P e=some n) (hu:iB P u=true)
  (hb:P.bytesOf e<=1024/\lV P e n=true) (hx:evT P t s.tmps x=some (.c (.nilsl z))) (hy:evT P u s.tmps y=some yv) (hys:appended yv=some (n,ys)) (hl:ys.length<=4294967296) :
  cV P call id o s=some (.val (.c (.own n ys)) s,bS x s.tmps):=by
 simp only[cV,ho,hc,ha,hat,jP,ht,hn,hu,hx,hy,hys,bJ,hb,and_self,if_true,hl]
theorem ApT {c:Go.Call} {t u e:TypeId} {x y:Operand} {n w:Nat} {yv:V} {xs ys zs:List D} (ho:o.op=.call c) (hc:c.callee=.builtin .append) (ha:c.args.toList=[x,y]) (hat:c.argTypes.toList=[t,u]) (ht:nK P t=some e) (hn:tsz P e=some n) (hu:iB P u=true)
  (hb:P.bytesOf e<=1024/\lV P e n=true) (hx:evT P t s.tmps x=some (.view (.tmp w) n xs)) (hw:look w s.tmps=some (.c (.own n zs))) (hy:evT P u s.tmps y=some yv) (hys:appended yv=some (n,ys)) (hl:xs.length+ys.length<=4294967296) :
  cV P call id o s=some (.val (.c (.own n (xs++ys))) { s with tmps:=plainAt w s.tmps },bS x s.tmps):=by
 simp only[cV,ho,hc,ha,hat,jP,ht,hn,hu,hx,hy,hys,bJ,hb,and_self,if_true,hw,hl]
theorem ApS {c:Go.Call} {t u e:TypeId} {x y:Operand} {n b off:Nat} {yv:V} {xs ys zs:List D} {cells:List C} (ho:o.op=.call c) (hc:c.callee=.builtin .append) (ha:c.args.toList=[x,y]) (hat:c.argTypes.toList=[t,u]) (ht:nK P t=some e) (hn:tsz P e=some n) (hu:iB P u=true)
  (hb:P.bytesOf e<=1024/\lV P e n=true) (hx:evT P t s.tmps x=some (.view (.cell b off) n xs)) (hw:yG b s.heap=some cells) (hw':cells[off]?=some (.own n zs)) (hy:evT P u s.tmps y=some yv) (hys:appended yv=some (n,ys)) (hl:xs.length+ys.length<=4294967296) :
  cV P call id o s=some (.val (.c (.own n (xs++ys))) { s with heap:=upd b (cells.set off (.d (.list n xs))) s.heap },bS x s.tmps):=by
 simp only[cV,ho,hc,ha,hat,jP,ht,hn,hu,hx,hy,hys,bJ,hb,and_self,if_true,hw,hw',hl]
end
section
variable {X:Ctx} {Q:AX->St->Prop} {s:St}
theorem BgR {ops:Array Oper} {vs:List Nat} {base i:Nat} {pre:List Fp} {o:Oper} {l:List Oper} {v:V} {s1 s2:St} {ft:eX} (hw:wantedAt ops s.tmps o=some true) (hm:aR o=false)
  (hop:Evt λk=>cV X.P (X.call k) s.nid o s=some (.val v s1,ft)) (hp:vZ o.dst (hZ vs o.dst v) (afterApp o s1)=some s2)
  (h:oO X ops vs base (pre++[(rR ops o s (hZ vs o.dst v) s1 ft).fill s2]) l (i+1) Q s2):oO X ops vs base pre (o::l) i Q s:=
 Au3 hw (hop.imp λk p=>by simp only[eP,hm,fJ,if_false,eM,p]) hp h
end
end Go.AM
namespace Go.AM
open Go
section
variable {X:Ctx} {f:Nat} {Q:AX->St->Prop} {tm tm':List (Nat×V)} {hp:List (Nat×List C)} {nid:Nat} {df:List (Nat×List Nat)} {pn:Option D}
def AcQ {α:Type}:List Nat->List (Nat×V)->(List (Nat×V)->α)->α
 | [],_,k=>k []
 |t::r,tm,k=>match look t tm with
  |some (.view _ sz xs)=>AcQ r tm λl=>k ((t,.d (.list sz xs))::l)
  |some v=>AcQ r tm λl=>k ((t,v)::l)
  |none=>AcQ r tm k
theorem uS {α:Type}:∀(ks:List Nat) (tm:List (Nat×V)) (k:List (Nat×V)->α),AcQ ks tm k=k (uT ks tm)
 | [],_,_=>rfl
 |t::r,tm,k=>by
  simp only[AcQ,uT]
  cases h:look t tm with
  |none=>simp only[uS]
  |some v=>cases v<;>simp only[uS]
theorem pI:∀tm:List (Nat×V),unviewIn [] tm=tm
 | []=>rfl
 |(t,v)::r=>by
  cases v with
  |view l sz xs=>cases l<;>simp[unviewIn,pI r]
  |_=>simp[unviewIn,pI r]
theorem kM {fn:Func} {code:Code} {args args':List C} {lh:List (List C)} {r:aF} {n:Nat} (hE:X.E f=none) (hf:X.P.funcs[f]?=some fn) (hb:fn.body=some code) (hst:(if (X.H f 999999).isEmpty then args.map C.still else args)=args') (hl:args'.length=fn.params.size+fn.nfree)
  (ht:oK 0 (args'.map λc=>V.c c.plain)=tm) (hh:oK 0 lh=hp) (hn:lh.length=n) (h:awp X f code (yD X fn n r) ⟨tm,hp,n,[],none⟩) (hlow:Nat.blt f zQ=true:=by rfl):bF X f args lh r:=
 BgQ hE hf hb hst hl (by unfold AaR; rw[ht,hh,hn]; exact h) hlow
theorem An1 {g:Nat} {fn:Func} {code:Code} {args args':List C} {lh:List (List C)} {r:aF} {n:Nat} (hg:g=f+zQ) (hf:X.P.funcs[f]?=some fn) (hb:fn.body=some code) (hst:args.map C.still=args') (hl:args'.length=fn.params.size+fn.nfree)
  (ht:oK 0 (args'.map λc=>V.c c.plain)=tm) (hh:oK 0 lh=hp) (hn:lh.length=n) (h:awp X g code (AzA X fn n r) ⟨tm,hp,n,[],none⟩):Aw8 X f args lh r:=
 Be0 hg hf hb hst hl (by unfold AaR; rw[ht,hh,hn]; exact h)
end
end Go.AM
namespace Go.AM
open Go
section
variable {X:Ctx} {f:Nat} {Q:AX->St->Prop} {s:St}
inductive cD (R:St->Prop) (Q:AX->St->Prop):AX->St->Prop where
 |normal {s:St}:R s->cD R Q .normal s
 |exit {id:Nat} {s:St}:Q (.exit id) s->cD R Q (.exit id) s
 |ret {s:St}:Q .ret s->cD R Q .ret s
 |pan {d:D} {s:St}:Q (.pan d) s->cD R Q (.pan d) s
end
end Go.AM
namespace Go.AM
open Go
section
variable {X:Ctx} {f:Nat} {Q:AX->St->Prop} {tm tm':List (Nat×V)} {hp hp':List (Nat×List C)} {nid nid':Nat} {df df':List (Nat×List Nat)} {pn pn':Option D}
end
end Go.AM
namespace Go.AM
open Go
def AqT {α:Type} (d:Nat) (b:Bool):List (Nat×V)->(List (Nat×V)->α)->α
 | [],k=>k []
 |(j,v)::r,k=>if j=d then k ((j,.d (.bool b))::r) else AqT d b r λl=>k ((j,v)::l)
theorem AhO {α:Type} {d:Nat} {b:Bool}:∀{tm:List (Nat×V)} {k:List (Nat×V)->α},look d tm=some (.c (.d (.bool b)))->AqT d b tm k=k tm
 | [],_,h=>by simp[look] at h
 |(j,v)::r,k,h=>by
  simp only[look] at h
  simp only[AqT]
  by_cases hj:j=d
  ·rw[if_pos hj] at h ⊢
   simp only[sJ] at h
   rw[h]
  rw[if_neg hj] at h ⊢
  rw[AhO h]
section
variable {X:Ctx} {f:Nat} {Q:AX->St->Prop} {tm tm0 tm1:List (Nat×V)} {hp:List (Nat×List C)} {nid:Nat} {df:List (Nat×List Nat)} {pn:Option D}
def AlV {α:Type} (l:Loc):List (Nat×V)->(List (Nat×V)->α)->α
 | [],k=>k []
 |(t,v)::r,k=>match v with
  |.view l' sz xs=>AlV l r λr=>k ((t,if l'=l then .d (.list sz xs) else .view l' sz xs)::r)
  |v=>AlV l r λr=>k ((t,v)::r)
theorem Ar3 {α:Type} {l:Loc}:∀{tm:List (Nat×V)} {k:List (Nat×V)->α},AlV l tm k=k (unview l tm)
 | [],_=>rfl
 |(t,v)::r,k=>by cases v<;>simp only[AlV,unview,Ar3]
end
section
variable {X:Ctx} {f:Nat} {Q:AX->St->Prop} {tm tm' tm1 tm2:List (Nat×V)} {hp hp':List (Nat×List C)} {nid:Nat} {df:List (Nat×List Nat)} {pn:Option D}
end
section
variable {X:Ctx} {f:Nat} {Q:AX->St->Prop} {tm:List (Nat×V)} {hp:List (Nat×List C)} {nid:Nat} {df:List (Nat×List Nat)} {pn:Option D}
end
end Go.AM
namespace Go.AM
open Go
abbrev Str:=List UInt8
def lget {α:Type} (l:List α) (i:Int):Option α:=if 0<=i then l[i.toNat]? else none
def sget (s:Str) (i:Int):Option Int:=if 0<=i then (s[i.toNat]?).map λb=>(b.toNat:Int) else none
def sfrom (s:Str) (lo:Int):Option Str:=if 0<=lo/\lo.toNat<=s.length then some (s.drop lo.toNat) else none
def sto (s:Str) (hi:Int):Option Str:=if 0<=hi/\hi.toNat<=s.length then some (s.take hi.toNat) else none
def smid (s:Str) (lo hi:Int):Option Str:=if 0<=lo/\lo<=hi/\hi.toNat<=s.length then some ((s.take hi.toNat).drop lo.toNat) else none
def lfrom {α:Type} (s:List α) (lo:Int):Option (List α):=if 0<=lo/\lo.toNat<=s.length then some (s.drop lo.toNat) else none
def lto {α:Type} (s:List α) (hi:Int):Option (List α):=if 0<=hi/\hi.toNat<=s.length then some (s.take hi.toNat) else none
def Ag0 {α:Type} (s:List α) (lo hi:Int):Option (List α):=if 0<=lo/\lo<=hi/\hi.toNat<=s.length then some ((s.take hi.toNat).drop lo.toNat) else none
def lapp {α:Type} (l m:List α):Option (List α):=if l.length+m.length<=4294967296 then some (l++m) else none
def scat (a b:Str):Option Str:=if a.length+b.length<=1099511627776 then some (a++b) else none
def u8I (b:UInt8):Int:=b.toNat
def sbytes (s:Str):Option (List Int):=if s.length<=1099511627776 then some (s.map u8I) else none
def Bj4 (l:List Int):Str:=l.map λn=>UInt8.ofNat n.toNat
def w64 (x:Int):Int:=IntKind.i64.wrap x
theorem AlC {α:Type} {c:Bool} {a b:Option α} {r:α} (h:(if c=true then a else b)=some r):(c=true/\a=some r)\/(c=false/\b=some r):=by
 cases c with
 |true=>exact .inl ⟨rfl,h⟩
 |false=>exact .inr ⟨rfl,h⟩
theorem Ag7 {α β:Type} {x:Option α} {k:α->Option β} {r:β} (h:(x>>=k)=some r):∃y,x=some y/\k y=some r:=by
 cases x with
 |none=>cases h
 |some y=>exact⟨y,rfl,h⟩
def AdO:Call:=λ_ _ _=>none
theorem zB (f:Nat) (args:List C) (s:St):mU AdO f args s=none:=by
 unfold mU
 split
 ·rfl
 split<;>rfl
theorem wI {P:Program} {id:Nat} {o:Oper} {s:St} {r:gR×eX} (h:cV P AdO id o s=some r) (call:Call):cV P call id o s=some r:=by
 unfold cV at h ⊢
 cases ho:o.op with
 |call c=>
  simp only[ho] at h ⊢
  cases hc:c.callee with
  |value f=>
   simp only[hc] at h
   split at h
   ·rw[zB] at h; simp at h
   ·rw[zB] at h; simp at h
   simp at h
  |builtin b=>cases b<;>(simp only[hc] at h ⊢; exact h)
  |invoke a b=>simp[hc] at h
 |makeMap t r=>cases r<;>(simp only[ho] at h ⊢; exact h)
 |_=>simp only[ho] at h ⊢; exact h
def rM {α β:Type}:List α->(List α->β)->β
 | [],k=>k []
 |x::r,k=>rM r λr=>k (x::r)
theorem iY {α β:Type}:∀{l:List α} {k:List α->β},rM l k=k l
 | [],_=>rfl
 |x::r,k=>by simp only[rM,iY]
def AqM {α:Type} (dst:Option Nat) (v:V) (tm:List (Nat×V)) (k:List (Nat×V)->Option α):Option α:=match dst with
 |none=>rM tm k
 |some d=>match v with
  |.c (.own sz xs)=>AlV (.tmp d) tm λr=>k ((d,.c (.own sz xs))::r)
  |v=>rM tm λtm=>k ((d,v)::tm)
theorem AlO {α:Type} {dst:Option Nat} {v:V} {s:St} {k:List (Nat×V)->Option α}:AqM dst v s.tmps k=k (mR dst v s).tmps:=by
 cases dst with
 |none=>simp only[AqM,mR,iY]
 |some d=>
  cases v with
  |c x=>cases x<;>simp only[AqM,mR,pC,Ar3,iY]
  |_=>simp only[AqM,mR,pC,iY]
theorem wD (dst:Option Nat) (v:V) (s:St):mR dst v s=⟨(mR dst v s).tmps,s.heap,s.nid,s.defers,s.pan⟩:=by
 cases dst<;>rfl
def uI {β:Type}:List (Nat×List C)->(List (Nat×List C)->β)->β
 | [],k=>k []
 |(b,cs)::r,k=>rM cs λcs=>uI r λr=>k ((b,cs)::r)
theorem qB {β:Type}:∀{l:List (Nat×List C)} {k:List (Nat×List C)->β},uI l k=k l
 | [],_=>rfl
 |(b,cs)::r,k=>by simp only[uI,iY,qB]
def zD (o:Oper):Bool:=match o.op with
 |.defer _|.makeMap _ _|.insert _ _ _ _|.mapUpdate _ _ _ _=>true
 |_=>false
theorem Am9 {P:Program} {call:Call} {id:Nat} {o:Oper} {tm:List (Nat×V)} {hp:List (Nat×List C)} {nid:Nat} {df:List (Nat×List Nat)} {pn:Option D} {v:V} {s':St} {ft:eX} (hc:call=AdO) (hid:aR o=true->id=nid)
  (h:cV P call id o ⟨tm,hp,nid,df,pn⟩=some (.val v s',ft)) (hd:zD o=false) :
  s'=⟨s'.tmps,s'.heap,(match aR o with|true=>nid+1|false=>nid),df,pn⟩:=by
 subst hc
 unfold cV at h
 cases ho:o.op with
 |assign x=>
  simp only[ho] at h
  simp only[aR,ho]
  split at h
  ·split at h
   ·simp only[sJ,pJ,gR.val.injEq] at h
    obtain⟨⟨_,rfl⟩,_⟩:=h; rfl
   ·simp at h
  ·simp only[sJ,pJ,gR.val.injEq] at h
   obtain⟨⟨_,rfl⟩,_⟩:=h; rfl
  ·simp only[sJ,pJ,gR.val.injEq] at h
   obtain⟨⟨_,rfl⟩,_⟩:=h; rfl
  ·simp only[sJ,pJ,gR.val.injEq] at h
   obtain⟨⟨_,rfl⟩,_⟩:=h; rfl
  ·simp only[sJ,pJ,gR.val.injEq] at h
   obtain⟨⟨_,rfl⟩,_⟩:=h; rfl
  simp at h
 |store t x y=>
  simp only[ho] at h
  simp only[aR,ho]
  repeat' (first|(split at h)|(simp at h; done))
  all_goals first
   |(simp at h; done)
   |(simp only[sJ,pJ,gR.val.injEq] at h; obtain⟨⟨_,rfl⟩,_⟩:=h; rfl)
 |defer c=>simp[zD,ho] at hd
 |makeMap t r=>simp[zD,ho] at hd
 |insert t m k x=>simp[zD,ho] at hd
 |mapUpdate t m k x=>simp[zD,ho] at hd
 |panic x=>
  simp only[ho] at h
  split at h<;>simp at h
 |call c=>
  simp only[ho] at h
  simp only[aR,ho]
  split at h
  ·split at h
   ·split at h
    ·rename_i hap
     simp only[sJ,pJ,gR.val.injEq] at h
     obtain⟨⟨_,rfl⟩,_⟩:=h
     unfold jP at hap
     repeat' (first|(split at hap)|(simp at hap; done))
     all_goals first
      |(simp at hap; done)
      |(simp only[sJ,pJ] at hap; obtain⟨_,rfl⟩:=hap; rfl)
    ·simp at h
   ·simp at h
  ·split at h
   ·split at h
    ·rename_i hap
     simp only[sJ,pJ,gR.val.injEq] at h
     obtain⟨⟨_,rfl⟩,_⟩:=h
     unfold Am4 at hap
     repeat' (first|(split at hap)|(simp at hap; done))
     all_goals first
      |(simp at hap; done)
      |(simp only[sJ,pJ] at hap; obtain⟨_,rfl⟩:=hap; rfl)
    ·simp at h
   ·simp at h
  ·split at h
   ·simp only[sJ,pJ,gR.val.injEq] at h
    obtain⟨⟨_,rfl⟩,_⟩:=h; rfl
   ·simp at h
  ·split at h
   ·rw[zB] at h; simp at h
   ·rw[zB] at h; simp at h
   ·simp at h
  simp at h
 |makeSlice t l c=>
  simp only[ho] at h
  split at h
  ·rename_i hev
   simp only[sJ,pJ,gR.val.injEq] at h
   obtain⟨⟨_,rfl⟩,_⟩:=h
   have hm:aR o=false:=by
    cases hs:rI l c with
    |false=>simp[aR,ho,hs]
    |true=>
     exfalso
     simp only[evR,ho,hs,if_true] at hev
     repeat' (first|(split at hev)|(simp at hev; done))
   rw[hm]
  ·split at h
   ·rename_i hev _
    simp only[sJ,pJ,gR.val.injEq] at h
    obtain⟨⟨_,rfl⟩,_⟩:=h
    by_cases hm:aR o=true
    ·rw[hm,hid hm]
    haveI:cU:=⟨[]⟩
    exact absurd hev (AgS (by simpa using hm))
   ·simp at h
  simp at h
 |buildSlice t n ps=>
  simp only[ho] at h
  split at h
  ·rename_i hev
   simp only[sJ,pJ,gR.val.injEq] at h
   obtain⟨⟨_,rfl⟩,_⟩:=h
   have hm:aR o=false:=by
    cases hs:AmD ps.toList with
    |none=>simp[aR,ho,hs]
    |some gs=>
     exfalso
     simp only[evR,ho,hs,Bj9] at hev
     repeat' (first|(split at hev)|(simp at hev; done))
   rw[hm]
  ·split at h
   ·rename_i hev _
    simp only[sJ,pJ,gR.val.injEq] at h
    obtain⟨⟨_,rfl⟩,_⟩:=h
    by_cases hm:aR o=true
    ·rw[hm,hid hm]
    haveI:cU:=⟨[]⟩
    exact absurd hev (AgS (by simpa using hm))
   ·simp at h
  simp at h
 |_=>
  simp only[ho] at h
  split at h
  ·rename_i hev
   simp only[sJ,pJ,gR.val.injEq] at h
   obtain⟨⟨_,rfl⟩,_⟩:=h
   first
    |(simp only[aR,ho]; done)
    |(exfalso; simp only[evR,ho] at hev; repeat' (first|(split at hev)|(simp at hev; done)))
    |rfl
  ·split at h
   ·rename_i hev _
    simp only[sJ,pJ,gR.val.injEq] at h
    obtain⟨⟨_,rfl⟩,_⟩:=h
    by_cases hm:aR o=true
    ·rw[hm,hid hm]
    haveI:cU:=⟨[]⟩
    exact absurd hev (AgS (by simpa using hm))
   ·simp at h
  simp at h
def AmQ {α:Type} (P:Program) (ops:Array Oper):Nat->List Oper->List (Nat×V)->List (Nat×List C)->Nat->List (Nat×List Nat)->Option D->(List Oper->List (Nat×V)->List (Nat×List C)->Nat->List (Nat×List Nat)->Option D->Option α)->Option α
 |0,l,tm,hp,nid,df,pn,k=>k l tm hp nid df pn
 |_+1,[],_,_,_,_,_,_=>none
 |n+1,o::l,tm,hp,nid,df,pn,k=>match wantedAt ops tm o with
  |none=>none
  |some false=>AqM o.dst (.c .undef) tm λtm=>AmQ P ops n l tm hp nid df pn k
  |some true=>match zD o with
   |true=>none
   |false=>match cV P AdO nid o ⟨tm,hp,nid,df,pn⟩ with
    |some (.val v s',_)=>AqM o.dst v s'.tmps λtm=>uI s'.heap λhp=>match aR o with
     |true=>AmQ P ops n l tm hp (nid+1) df pn k
     |false=>AmQ P ops n l tm hp nid df pn k
    |_=>none
section
variable {X:Ctx} {f:Nat} {Q:AX->St->Prop} {tm tm':List (Nat×V)} {hp hp':List (Nat×List C)} {nid nid':Nat} {df:List (Nat×List Nat)} {pn:Option D}
theorem Af3 {α:Type} {ops:Array Oper}:∀{n:Nat} {l:List Oper} {tm:List (Nat×V)} {hp:List (Nat×List C)} {nid:Nat} {df:List (Nat×List Nat)} {pn:Option D} {k:List Oper->List (Nat×V)->List (Nat×List C)->Nat->List (Nat×List Nat)->Option D->Option α} {a:α},
  AmQ X.P ops n l tm hp nid df pn k=some a->∃l' tm' hp' nid' df' pn',k l' tm' hp' nid' df' pn'=some a/\(qA X ops l' Q ⟨tm',hp',nid',df',pn'⟩->qA X ops l Q ⟨tm,hp,nid,df,pn⟩)
 |0,l,tm,hp,nid,df,pn,k,a,h=>by
  simp only[AmQ] at h
  exact⟨l,tm,hp,nid,df,pn,h,λh=>h⟩
 |n+1,[],tm,hp,nid,df,pn,k,a,h=>by simp[AmQ] at h
 |n+1,o::l,tm,hp,nid,df,pn,k,a,h=>by
  simp only[AmQ] at h
  split at h
  ·simp at h
  ·rename_i hw
   rw[show tm=(⟨tm,hp,nid,df,pn⟩:St).tmps from rfl,AlO] at h
   obtain⟨l',tm',hp',nid',df',pn',h1,h2⟩:=Af3 h
   refine⟨l',tm',hp',nid',df',pn',h1,λhh=>Bc8 hw ?_⟩
   have:=h2 hh
   rw[putDst,wD]
   exact this
  rename_i hw
  split at h
  ·simp at h
  rename_i hd
  split at h
  ·rename_i v s' ft hev
   have hr:=Am9 rfl (λ_=>rfl) hev hd
   rw[AlO,qB] at h
   cases hm:aR o with
   |true=>
    simp only[hm] at h hr
    obtain⟨l',tm',hp',nid',df',pn',h1,h2⟩:=Af3 h
    refine⟨l',tm',hp',nid',df',pn',h1,λhh=>AkI hw (λcall=>wI hev call) ?_⟩
    have:=h2 hh
    rw[putDst,wD]
    rw[hr] at this ⊢
    exact this
   |false=>
    simp only[hm] at h hr
    obtain⟨l',tm',hp',nid',df',pn',h1,h2⟩:=Af3 h
    refine⟨l',tm',hp',nid',df',pn',h1,λhh=>AkI hw (λcall=>wI hev call) ?_⟩
    have:=h2 hh
    rw[putDst,wD]
    rw[hr] at this ⊢
    exact this
  simp at h
def ApX (l:List Oper) (tm:List (Nat×V)) (hp:List (Nat×List C)) (nid:Nat) (df:List (Nat×List Nat)) (pn:Option D):Option (List Oper×List (Nat×V)×List (Nat×List C)×Nat×List (Nat×List Nat)×Option D):=some (l,tm,hp,nid,df,pn)
variable {df':List (Nat×List Nat)} {pn':Option D}
theorem on (n:Nat) {ops:Array Oper} {l l':List Oper} (h:AmQ X.P ops n l tm hp nid df pn ApX=some (l',tm',hp',nid',df',pn')) (hh:qA X ops l' Q ⟨tm',hp',nid',df',pn'⟩):qA X ops l Q ⟨tm,hp,nid,df,pn⟩:=by
 obtain⟨_,_,_,_,_,_,h1,h2⟩:=Af3 (Q:=Q) h
 simp only[ApX,sJ,pJ] at h1
 obtain⟨rfl,rfl,rfl,rfl,rfl,rfl⟩:=h1
 exact h2 hh
theorem rn (n:Nat) {id:Nat} {ops:Array Oper} {l':List Oper} (h:AcQ (X.H f id) tm (λtm=>AmQ X.P ops n ops.toList tm hp nid df pn ApX)=some (l',tm',hp',nid',df',pn')) (hh:qA X ops l' Q ⟨tm',hp',nid',df',pn'⟩) (hz:noF (X.H f id)=true:=by rfl) :
  awp X f (.region id ops false) Q ⟨tm,hp,nid,df,pn⟩:=by
 rw[uS] at h
 exact Ap2 hz (on n h hh)
theorem rnF (n:Nat) {id:Nat} {ops:Array Oper} {l':List Oper} {tm0:List (Nat×V)} {hp0:List (Nat×List C)} {nid0:Nat} (hz:frz (X.H f id) ⟨tm,hp,nid,df,pn⟩=some ⟨tm0,hp0,nid0,df,pn⟩) (h:AcQ (X.H f id) tm0 (λtm=>AmQ X.P ops n ops.toList tm hp0 nid0 df pn ApX)=some (l',tm',hp',nid',df',pn')) (hh:qA X ops l' Q ⟨tm',hp',nid',df',pn'⟩) (hM:isM (X.H f id)=false:=by rfl) :
  awp X f (.region id ops false) Q ⟨tm,hp,nid,df,pn⟩:=by
 rw[uS] at h
 exact An2 hM hz (on n h hh)
theorem ra {id:Nat} {ops:Array Oper} {b:Code} (h:AcQ (X.H f id) tm (λtm=>AmQ X.P ops ops.size ops.toList tm hp nid df pn ApX)=some ([],tm',hp',nid',df',pn')) (hh:awp X f b Q ⟨tm',hp',nid',df',pn'⟩) (hz:noF (X.H f id)=true:=by rfl) :
  awp X f (.seq (.region id ops false) b) Q ⟨tm,hp,nid,df,pn⟩:=
 Au5 (rn _ h (AkH (.normal hh)) hz)
theorem rz {ops:Array Oper} {b:Code} (hh:awp X f b Q ⟨tm,hp,nid,df,pn⟩):qA X ops [] (kW X f b Q) ⟨tm,hp,nid,df,pn⟩:=AkH (.normal hh)
theorem ct {o:Operand} {a b:Code} {c:Bool} (hc:ev tm o=some (.c (.d (.bool c)))) (e:c=true) (h:awp X f a (fW (X.H f (vK a b)) nid Q) ⟨tm,hp,nid,df,pn⟩):awp X f (.cond o a b) Q ⟨tm,hp,nid,df,pn⟩:=
 AwC hc (λ_=>h) (λe'=>by rw[e] at e'; cases e')
theorem cf {o:Operand} {a b:Code} {c:Bool} (hc:ev tm o=some (.c (.d (.bool c)))) (e:c=false) (h:awp X f b (fW (X.H f (vK a b)) nid Q) ⟨tm,hp,nid,df,pn⟩):awp X f (.cond o a b) Q ⟨tm,hp,nid,df,pn⟩:=
 AwC hc (λe'=>by rw[e] at e'; cases e') (λ_=>h)
theorem gt {ops:Array Oper} {o q:Oper} {l:List Oper} {j d:Nat} {want b:Bool} (hg:o.guard=some (j,want)) (hq:ops[j]?=some q) (hd:q.dst=some d) (hl:look d tm=some (.c (.d (.bool b)))) (e:b=true)
  (e1:AqT d true tm some=some tm') (h:qA X ops (o::l) Q ⟨tm',hp,nid,df,pn⟩):qA X ops (o::l) Q ⟨tm,hp,nid,df,pn⟩:=by
 have _:=hg; have _:=hq; have _:=hd
 subst e
 rw[AhO hl,sJ] at e1
 rw[e1]; exact h
theorem gf {ops:Array Oper} {o q:Oper} {l:List Oper} {j d:Nat} {want b:Bool} (hg:o.guard=some (j,want)) (hq:ops[j]?=some q) (hd:q.dst=some d) (hl:look d tm=some (.c (.d (.bool b)))) (e:b=false)
  (e1:AqT d false tm some=some tm') (h:qA X ops (o::l) Q ⟨tm',hp,nid,df,pn⟩):qA X ops (o::l) Q ⟨tm,hp,nid,df,pn⟩:=by
 have _:=hg; have _:=hq; have _:=hd
 subst e
 rw[AhO hl,sJ] at e1
 rw[e1]; exact h
theorem gL {α:Type} {l:List α} {i:Int} {x:α} (h:lget l i=some x):0<=i/\l[i.toNat]?=some x:=by
 unfold lget at h
 split at h
 ·exact⟨by assumption,h⟩
 cases h
def EvO (X:Ctx) (o:Oper) (s:St) (v:V) (s1:St) (ft:eX):Prop:=Evt λk=>cV X.P (X.call k) s.nid o s=some (.val v s1,ft)
theorem po {ops:Array Oper} {o:Oper} {l:List Oper} {v:V} {tm1:List (Nat×V)} {hp1:List (Nat×List C)} {ft:eX} {nid1:Nat} (hop:EvO X o ⟨tm,hp,nid,df,pn⟩ v ⟨tm1,hp1,nid1,df,pn⟩ ft) (hw:wantedAt ops tm o=some true)
  (hk:AqM o.dst v tm1 (λtm=>uI hp1 λhp=>some (tm,hp))=some (tm',hp')) (h:qA X ops l Q ⟨tm',hp',nid1,df,pn⟩):qA X ops (o::l) Q ⟨tm,hp,nid,df,pn⟩:=by
 refine Au4 (s:=⟨tm,hp,nid,df,pn⟩) hw hop ?_
 rw[show tm1=(⟨tm1,hp1,nid1,df,pn⟩:St).tmps from rfl,AlO,qB] at hk
 simp only[sJ,pJ] at hk
 obtain⟨rfl,rfl⟩:=hk
 rw[putDst,wD]
 exact h
def AdF {β:Type}:List Lc->(List Lc->β)->β
 | [],k=>k []
 |x::r,k=>match x with
  |.tmp a=>AdF r λr=>k (.tmp a::r)
  |.blk a=>AdF r λr=>k (.blk a::r)
  |.nid=>AdF r λr=>k (.nid::r)
  |.defs=>AdF r λr=>k (.defs::r)
  |.vb a=>AdF r λr=>k (.vb a::r)
  |.vt a=>AdF r λr=>k (.vt a::r)
theorem As9 {β:Type}:∀{l:List Lc} {k:List Lc->β},AdF l k=k l
 | [],_=>rfl
 |x::r,k=>by cases x<;>simp only[AdF,As9]
def fpK {β:Type} (f:Fp) (k:Fp->β):β:=match f with
 |⟨rd,wr,refs,all⟩=>AdF rd λrd=>AdF wr λwr=>rM refs λrefs=>match all with
  |true=>k ⟨rd,wr,refs,true⟩
  |false=>k ⟨rd,wr,refs,false⟩
theorem Aq4 {β:Type} {f:Fp} {k:Fp->β}:fpK f k=k f:=by
 obtain⟨rd,wr,refs,all⟩:=f
 simp only[fpK,As9,iY]
 cases all<;>rfl
theorem Ab5 {dst:Option Nat} {v:V} {tm1:List (Nat×V)} {hp1:List (Nat×List C)} {s2:St} (h:vZ dst v ⟨tm1,hp1,nid,df,pn⟩=some s2):s2=⟨s2.tmps,s2.heap,nid,df,pn⟩:=by
 cases dst with
 |none=>simp only[vZ,sJ] at h; subst h; rfl
 |some d=>
  simp only[vZ] at h
  split at h
  ·simp only[sJ] at h; subst h; rfl
  simp at h
theorem pd {ops:Array Oper} {vs:List Nat} {base i i':Nat} {pre pre':List Fp} {o:Oper} {l:List Oper} {v:V} {tm1:List (Nat×V)} {hp1:List (Nat×List C)} {ft:eX} {nid1:Nat} (hop:EvO X o ⟨tm,hp,nid,df,pn⟩ v ⟨tm1,hp1,nid1,df,pn⟩ ft) (hw:wantedAt ops tm o=some true) (hm:aR o=false)
  (hk:(vZ o.dst (hZ vs o.dst v) (afterApp o ⟨tm1,hp1,nid1,df,pn⟩)).bind (λs2=>rM s2.tmps λtm=>uI s2.heap λhp=>some (tm,hp))=some (tm',hp'))
  (hf:fpK ((rR ops o ⟨tm,hp,nid,df,pn⟩ (hZ vs o.dst v) ⟨tm1,hp1,nid1,df,pn⟩ ft).fill ⟨tm',hp',nid1,df,pn⟩) (λfp=>rM (pre++[fp]) some)=some pre') (hi:i+1=i')
  (h:oO X ops vs base pre' l i' Q ⟨tm',hp',nid1,df,pn⟩):oO X ops vs base pre (o::l) i Q ⟨tm,hp,nid,df,pn⟩:=by
 rw[Aq4,iY,sJ] at hf
 subst hi hf
 rw[Option.bind_eq_some_iff] at hk
 obtain⟨s2,h2,hk⟩:=hk
 rw[iY,qB] at hk
 simp only[sJ,pJ] at hk
 have hs2:=Ab5 h2
 obtain⟨rfl,rfl⟩:=hk
 rw[←hs2] at h
 exact BgR (s:=⟨tm,hp,nid,df,pn⟩) hw hm hop h2 h
def Ag9 {α:Type} (P:Program) (ops:Array Oper) (vs:List Nat) (base:Nat) (nid:Nat) (df:List (Nat×List Nat)) (pn:Option D):Nat->List Oper->Nat->List Fp->List (Nat×V)->List (Nat×List C)->(List Oper->Nat->List Fp->List (Nat×V)->List (Nat×List C)->Option α)->Option α
 |0,l,i,pre,tm,hp,k=>rM pre λpre=>k l i pre tm hp
 |_+1,[],_,_,_,_,_=>none
 |n+1,o::l,i,pre,tm,hp,k=>match wantedAt ops tm o with
  |none=>none
  |some false=>match vZ o.dst (.c .undef) ⟨tm,hp,nid,df,pn⟩ with
   |some s1=>rM s1.tmps λtm=>uI s1.heap λhp=>fpK (Fp.fill ⟨(fA ops o).map .tmp,kX o.dst (.c .undef),[],false⟩ ⟨tm,hp,nid,df,pn⟩) λfp=>Ag9 P ops vs base nid df pn n l (i+1) (pre++[fp]) tm hp k
   |none=>none
  |some true=>match zD o with
   |true=>none
   |false=>match eP P AdO ops vs (base+i) o ⟨tm,hp,nid,df,pn⟩ with
    |some (.val v s1,ft)=>match vZ o.dst v s1 with
     |some s2=>rM s2.tmps λtm=>uI s2.heap λhp=>fpK (ft.fill ⟨tm,hp,nid,df,pn⟩) λfp=>Ag9 P ops vs base nid df pn n l (i+1) (pre++[fp]) tm hp k
     |none=>none
    |_=>none
theorem An9 {P:Program} {ops:Array Oper} {vs:List Nat} {id:Nat} {o:Oper} {tm:List (Nat×V)} {hp:List (Nat×List C)} {nid:Nat} {df:List (Nat×List Nat)} {pn:Option D} {v:V} {s1:St} {ft:Fp}
  (h:eP P AdO ops vs id o ⟨tm,hp,nid,df,pn⟩=some (.val v s1,ft)) (hd:zD o=false):s1=⟨s1.tmps,s1.heap,nid,df,pn⟩:=by
 unfold eP at h
 split at h
 ·unfold AaK at h
  split at h
  ·split at h
   ·split at h
    ·simp at h
    ·simp only[sJ,pJ,gR.val.injEq] at h
     obtain⟨⟨_,rfl⟩,_⟩:=h; rfl
   ·simp at h
  simp at h
 rename_i hm
 unfold eM at h
 split at h
 ·rename_i hev
  simp only[sJ,pJ,gR.val.injEq] at h
  obtain⟨⟨_,rfl⟩,_⟩:=h
  have:=Am9 rfl (λe=>absurd e hm) hev hd
  simp only[Bool.not_eq_true] at hm
  simp only[hm] at this
  rw[this]; rfl
 ·simp at h
 simp at h
theorem AiP {P:Program} {ops:Array Oper} {vs:List Nat} {id:Nat} {o:Oper} {s s1:St} {v:V} {ft:Fp} (h:eP P AdO ops vs id o s=some (.val v s1,ft)) (call:Call):eP P call ops vs id o s=some (.val v s1,ft):=by
 unfold eP at h ⊢
 split at h
 ·rename_i hm
  rw[if_pos hm]; exact h
 rename_i hm
 rw[if_neg hm]
 unfold eM at h ⊢
 split at h
 ·rename_i hev
  rw[wI hev call]; exact h
 ·simp at h
 simp at h
theorem AgA {α:Type} {ops:Array Oper} {vs:List Nat} {base:Nat}:∀{n:Nat} {l:List Oper} {i:Nat} {pre:List Fp} {tm:List (Nat×V)} {hp:List (Nat×List C)} {k:List Oper->Nat->List Fp->List (Nat×V)->List (Nat×List C)->Option α} {a:α},
  Ag9 X.P ops vs base nid df pn n l i pre tm hp k=some a->∃l' i' pre' tm' hp',k l' i' pre' tm' hp'=some a/\(oO X ops vs base pre' l' i' Q ⟨tm',hp',nid,df,pn⟩->oO X ops vs base pre l i Q ⟨tm,hp,nid,df,pn⟩)
 |0,l,i,pre,tm,hp,k,a,h=>by
  simp only[Ag9,iY] at h
  exact⟨l,i,pre,_,_,h,λh=>h⟩
 |n+1,[],i,pre,tm,hp,k,a,h=>by simp[Ag9] at h
 |n+1,o::l,i,pre,tm,hp,k,a,h=>by
  simp only[Ag9,iY,qB,Aq4] at h
  split at h
  ·simp at h
  ·rename_i hw
   split at h
   ·rename_i s1 hp
    have hr:=Ab5 hp
    obtain⟨l',i',pre',tm',hp',h1,h2⟩:=AgA h
    refine⟨l',i',pre',tm',hp',h1,λhh=>Bc7 hw hp ?_⟩
    have:=h2 hh
    rw[←hr] at this
    exact this
   simp at h
  rename_i hw
  split at h
  ·simp at h
  rename_i hd
  split at h
  ·rename_i v s1 ft hop
   have hr1:=An9 hop hd
   split at h
   ·rename_i s2 hp
    have hr:s2=⟨s2.tmps,s2.heap,nid,df,pn⟩:=by
     rw[hr1] at hp
     exact Ab5 hp
    obtain⟨l',i',pre',tm',hp',h1,h2⟩:=AgA h
    refine⟨l',i',pre',tm',hp',h1,λhh=>AwA hw (λcall=>AiP hop call) hp ?_⟩
    have:=h2 hh
    rw[←hr] at this
    exact this
   simp at h
  simp at h
def AiO (l:List Oper) (i:Nat) (pre:List Fp) (tm:List (Nat×V)) (hp:List (Nat×List C)):Option (List Oper×Nat×List Fp×List (Nat×V)×List (Nat×List C)):=some (l,i,pre,tm,hp)
theorem don (n:Nat) {ops:Array Oper} {vs:List Nat} {base i i':Nat} {pre pre':List Fp} {l l':List Oper} (h:Ag9 X.P ops vs base nid df pn n l i pre tm hp AiO=some (l',i',pre',tm',hp'))
  (hh:oO X ops vs base pre' l' i' Q ⟨tm',hp',nid,df,pn⟩):oO X ops vs base pre l i Q ⟨tm,hp,nid,df,pn⟩:=by
 obtain⟨_,_,_,_,_,h1,h2⟩:=AgA (Q:=Q) h
 simp only[AiO,sJ,pJ] at h1
 obtain⟨rfl,rfl,rfl,rfl,rfl⟩:=h1
 exact h2 hh
theorem drn (n:Nat) {id i' m:Nat} {ops:Array Oper} {pre':List Fp} {l':List Oper} (hn:nid+ops.size=m)
  (h:AcQ (X.H f id) tm (λtm=>Ag9 X.P ops (rX ops) nid m df pn n ops.toList 0 [] tm hp AiO)=some (l',i',pre',tm',hp')) (hh:oO X ops (rX ops) nid pre' l' i' Q ⟨tm',hp',m,df,pn⟩) (hz:(noF (X.H f id)&&!(X.H f id).contains 4999999)=true:=by rfl) :
  awp X f (.region id ops true) Q ⟨tm,hp,nid,df,pn⟩:=by
 rw[uS] at h
 subst hn
 exact AwD hz (don n h hh)
theorem BkW (n:Nat) {id i' m:Nat} {ops:Array Oper} {pre':List Fp} {l':List Oper} {tm0:List (Nat×V)} {hp0:List (Nat×List C)} {nid0:Nat} (hz:frz (X.H f id) ⟨tm,hp,nid,df,pn⟩=some ⟨tm0,hp0,nid0,df,pn⟩) (hn:nid0+ops.size=m)
  (h:AcQ (X.H f id) tm0 (λtm=>Ag9 X.P ops (rX ops) nid0 m df pn n ops.toList 0 [] tm hp0 AiO)=some (l',i',pre',tm',hp')) (hh:oO X ops (rX ops) nid0 pre' l' i' Q ⟨tm',hp',m,df,pn⟩) (hns:(X.H f id).contains 4999999=false:=by rfl) (hM:isM (X.H f id)=false:=by rfl) :
  awp X f (.region id ops true) Q ⟨tm,hp,nid,df,pn⟩:=by
 rw[uS] at h
 subst hn
 exact As2 hM hns hz (don n h hh)
def Lc.code:Lc->Nat
 |.tmp x=>6*x
 |.blk b=>6*b+1
 |.nid=>2
 |.defs=>3
 |.vb b=>6*b+4
 |.vt u=>6*u+5
def xO:List Lc->Nat
 | []=>0
 |x::r=>Nat.lor (Nat.shiftLeft 1 x.code) (xO r)
theorem AmN {x:Lc}:∀{l:List Lc},x∈l->(xO l).testBit x.code=true
 | [],h=>by simp at h
 |y::r,h=>by
  show ((1 <<< y.code) ||| xO r).testBit x.code=true
  rw[Nat.testBit_or]
  rcases List.mem_cons.1 h with rfl|h
  ·simp
  rw[AmN h]; simp
theorem Aw6 {l m:List Lc} (h:Nat.beq (Nat.land (xO l) (xO m)) 0=true):apart l m=true:=by
 have h:=Nat.eq_of_beq_eq_true h
 simp only[apart,List.all_eq_true,Bool.not_eq_true']
 intro x hx
 cases hc:m.contains x with
 |false=>rfl
 |true=>
  rw[List.contains_iff_mem] at hc
  have h1:(xO l &&& xO m).testBit x.code=true:=by rw[Nat.testBit_and,AmN hx,AmN hc]; rfl
  rw[show xO l &&& xO m=0 from h] at h1
  simp at h1
structure FpM where
 r:Nat
 w:Nat
 all:Bool
def Fp.toM (f:Fp):FpM:=⟨xO f.reads,xO f.writes,f.all⟩
def FpM.apart (f g:FpM):Bool:=match f.all,g.all with
 |false,false=>Nat.beq (Nat.land f.w (Nat.lor g.r g.w)) 0&&Nat.beq (Nat.land g.w f.r) 0
 |_,_=>false
theorem AlK:∀l m:List Lc,xO (l++m)=Nat.lor (xO l) (xO m)
 | [],m=>by show xO m=0 |||xO m; simp
 |x::l,m=>by
  show (1 <<< x.code) ||| xO (l++m)=((1 <<< x.code) ||| xO l) ||| xO m
  rw[AlK l m]
  exact (Nat.or_assoc ..).symm
theorem FpM.apart_ok {f g:Fp} (h:f.toM.apart g.toM=true):f.apart g=true:=by
 unfold FpM.apart Fp.toM at h
 simp only at h
 split at h
 ·rename_i hf hg
  simp only[Bool.and_eq_true] at h
  simp only[Fp.apart,hf,hg,Bool.not_false,Bool.true_and,Bool.and_eq_true]
  exact⟨Aw6 (by rw[AlK]; exact h.1),Aw6 h.2⟩
 simp at h
def AuD (acc:List Nat):List Edge->Nat->Nat
 | [],m=>m
 |e::r,m=>AuD acc r (match Region.binds .any e with
  |true=>Nat.lor (Nat.lor (Nat.shiftLeft 1 e.on) (acc.getD e.on 0)) m
  |false=>m)
def Ag6:List Oper->List Nat->List Nat
 | [],acc=>acc
 |o::r,acc=>Ag6 r (acc++[AuD acc o.after.toList 0])
def AoO (m:Nat) (l:List Nat):Prop:=∀i,m.testBit i=true->i∈l
theorem AsN {accM:List Nat} {acc:List (List Nat)} (ha:∀j,AoO (accM.getD j 0) (acc.getD j [])):∀(es:List Edge) (m:Nat) (l:List Nat),AoO m l ->
  AoO (AuD accM es m) (es.foldl (λl e=>if Region.binds .any e then e.on::(acc.getD e.on []++l) else l) l)
 | [],m,l,h=>h
 |e::es,m,l,h=>by
  simp only[AuD,List.foldl_cons]
  refine AsN ha es _ _ ?_
  cases hb:Region.binds .any e with
  |false=>simpa using h
  |true=>
   simp only[if_true]
   intro i hi
   rw[show Nat.lor (Nat.lor (Nat.shiftLeft 1 e.on) (accM.getD e.on 0)) m=((1 <<< e.on) ||| accM.getD e.on 0) ||| m from rfl,Nat.testBit_or,Nat.testBit_or] at hi
   simp only[Bool.or_eq_true] at hi
   rcases hi with (hi|hi)|hi
   ·have:i=e.on:=by
     rw[Nat.testBit_shiftLeft] at hi
     simp only[Bool.and_eq_true,decide_eq_true_eq] at hi
     have h2:=hi.2
     by_cases hz:i-e.on=0
     ·omega
     rw[Nat.testBit_one_eq_true_iff_self_eq_zero] at h2
     exact absurd h2 hz
    rw[this]; simp
   ·exact List.mem_cons_of_mem _ (List.mem_append_left _ (ha _ _ hi))
   exact List.mem_cons_of_mem _ (List.mem_append_right _ (h _ hi))
theorem An3:∀(ops:List Oper) (accM:List Nat) (acc:List (List Nat)),accM.length=acc.length->(∀j,AoO (accM.getD j 0) (acc.getD j [])) ->
  ∀j,AoO ((Ag6 ops accM).getD j 0) ((jI ops acc).getD j [])
 | [],accM,acc,_,h=>by simpa[Ag6,jI] using h
 |o::r,accM,acc,hl,h=>by
  simp only[Ag6,jI]
  refine An3 r _ _ (by simp[hl]) ?_
  intro j
  have he:=AsN h o.after.toList 0 [] (by intro i hi; simp at hi)
  by_cases hj:j<accM.length
  ·simp only[List.getD_eq_getElem?_getD]
   rw[List.getElem?_append_left hj,List.getElem?_append_left (hl▸hj),←List.getD_eq_getElem?_getD,←List.getD_eq_getElem?_getD]
   exact h j
  by_cases hj':j=accM.length
  ·subst hj'
   simp only[List.getD_eq_getElem?_getD,List.getElem?_append_right (Nat.le_refl _),Nat.sub_self]
   rw[List.getElem?_append_right oM]
   simpa[hl] using he
  intro i hi
  simp only[List.getD_eq_getElem?_getD] at hi
  rw[List.getElem?_eq_none (by simp; omega)] at hi
  simp at hi
def Ba0 (o:Oper) (f:Fp):Bool:=
 !f.all&&f.writes.all λl=>match l,o.dst with
  |.tmp y,some x=>Nat.beq y x
  |_,_=>false
theorem Bd1 {o:Oper} {f:Fp} (h:Ba0 o f=true):loose o f=true:=by
 simp only[Ba0,loose,Bool.and_eq_true,List.all_eq_true] at h ⊢
 refine⟨h.1,λl hl=>?_⟩
 have:=h.2 l hl
 split at this
 ·rename_i y x hx
  rw[hx]
  simp only[beq_iff_eq,Lc.tmp.injEq]
  exact Nat.eq_of_beq_eq_true this
 simp at this
def AkQ (pn:Bool) (ops:Array Oper) (base:Nat) (fs:List Fp):Bool:=
 let bs:=Ag6 ops.toList []
 let ms:=fs.map Fp.toM
 let k:=fs.length
 ((List.range ops.size).all λj=>
  ((ops.getD j default).after.toList.all λe=>!Region.binds .any e||Nat.blt e.on j) &&
  (List.range j).all λi=>
   (bs.getD j 0).testBit i ||
   (match Nat.blt j k with
    |true=>match ms[i]?,ms[j]? with
     |some a,some b=>a.apart b||pn&&Nat.beq (j+1) k&&Ba0 (ops.getD i default) (fs.getD i default)
     |_,_=>false
    |false=>!(Nat.beq (i+1) k))) &&
 (List.range k).all λi=>!aR (ops.getD i default) ||
  (List.range k).all λj=>i==j||(bs.getD j 0).testBit i||!(fs.getD j default).refs.contains (base+i)
theorem AjM {pn:Bool} {ops:Array Oper} {base:Nat} {fs:List Fp} (h:AkQ pn ops base fs=true):AgC pn ops base fs=true:=by
 have hb:=An3 ops.toList [] [] rfl (by intro j i hi; simp at hi)
 have blt:∀{a b:Nat},Nat.blt a b=true->a<b:=λh=>Nat.le_of_ble_eq_true h
 unfold AkQ at h
 unfold AgC
 simp only[Bool.and_eq_true,List.all_eq_true,List.mem_range,Bool.or_eq_true,Bool.not_eq_true'] at h ⊢
 refine⟨λj hj=>⟨λe he=>?_,λi hi=>?_⟩,λi hi=>?_⟩
 ·rcases (h.1 j hj).1 e he with h1|h1
  ·exact .inl h1
  ·exact .inr (by simpa using blt h1)
 ·rcases (h.1 j hj).2 i hi with h1|h1
  ·exact .inl (by rw[List.contains_iff_mem]; exact hb j i h1)
  ·right
   split at h1
   ·rename_i hjk
    rw[if_pos (blt hjk)]
    split at h1
    ·rename_i a b ha hb'
     rw[List.getElem?_map,Option.map_eq_some_iff] at ha hb'
     obtain⟨fa,hfa,rfl⟩:=ha
     obtain⟨fb,hfb,rfl⟩:=hb'
     rcases Bool.or_eq_true _ _ |>.mp h1 with h1|h1
     ·have:=FpM.apart_ok h1
      rw[Bool.or_eq_true]; left
      simpa[List.getD_eq_getElem?_getD,hfa,hfb] using this
     simp only[Bool.and_eq_true] at h1
     rw[Bool.or_eq_true]; right
     simp only[Bool.and_eq_true,decide_eq_true_eq]
     exact⟨⟨h1.1.1,Nat.eq_of_beq_eq_true h1.1.2⟩,Bd1 h1.2⟩
    simp at h1
   rename_i hjk
   have hk:¬j<fs.length:=by
    intro hlt
    have:Nat.blt j fs.length=true:=Nat.ble_eq_true_of_le hlt
    rw[hjk] at this; simp at this
   rw[if_neg hk]
   simp only[decide_eq_true_eq]
   intro e
   rw[e] at h1
   simp at h1
 rcases h.2 i hi with h1|h1
 ·exact .inl h1
 refine .inr λj hj=>?_
 rcases h1 j hj with (h2|h2)|h2
 ·exact .inl (.inl h2)
 ·exact .inl (.inr (by rw[List.contains_iff_mem]; exact hb j i h2))
 exact .inr h2
theorem dz {ops:Array Oper} {vs:List Nat} {base i:Nat} {pre:List Fp} {b:Code} (hok:(AkQ false ops base pre&&Nat.ble base nid)=true) (hh:awp X f b Q ⟨tm,hp,nid,df,pn⟩):oO X ops vs base pre [] i (kW X f b Q) ⟨tm,hp,nid,df,pn⟩:=by
 simp only[Bool.and_eq_true] at hok
 exact Aw9 (by simp only[Bool.and_eq_true,decide_eq_true_eq]; exact⟨AjM hok.1,Nat.le_of_ble_eq_true hok.2⟩) (.normal hh)
theorem dz' {ops:Array Oper} {vs:List Nat} {base i:Nat} {pre:List Fp} (hok:(AkQ false ops base pre&&Nat.ble base nid)=true) (hh:Q .normal ⟨tm,hp,nid,df,pn⟩):oO X ops vs base pre [] i Q ⟨tm,hp,nid,df,pn⟩:=by
 simp only[Bool.and_eq_true] at hok
 exact Aw9 (by simp only[Bool.and_eq_true,decide_eq_true_eq]; exact⟨AjM hok.1,Nat.le_of_ble_eq_true hok.2⟩) hh
theorem dgt {ops:Array Oper} {vs:List Nat} {base i:Nat} {pre:List Fp} {o q:Oper} {l:List Oper} {j d:Nat} {want b:Bool} (hg:o.guard=some (j,want)) (hq:ops[j]?=some q) (hd:q.dst=some d) (hl:look d tm=some (.c (.d (.bool b)))) (e:b=true)
  (e1:AqT d true tm some=some tm') (h:oO X ops vs base pre (o::l) i Q ⟨tm',hp,nid,df,pn⟩):oO X ops vs base pre (o::l) i Q ⟨tm,hp,nid,df,pn⟩:=by
 have _:=hg; have _:=hq; have _:=hd
 subst e
 rw[AhO hl,sJ] at e1
 rw[e1]; exact h
theorem dgf {ops:Array Oper} {vs:List Nat} {base i:Nat} {pre:List Fp} {o q:Oper} {l:List Oper} {j d:Nat} {want b:Bool} (hg:o.guard=some (j,want)) (hq:ops[j]?=some q) (hd:q.dst=some d) (hl:look d tm=some (.c (.d (.bool b)))) (e:b=false)
  (e1:AqT d false tm some=some tm') (h:oO X ops vs base pre (o::l) i Q ⟨tm',hp,nid,df,pn⟩):oO X ops vs base pre (o::l) i Q ⟨tm,hp,nid,df,pn⟩:=by
 have _:=hg; have _:=hq; have _:=hd
 subst e
 rw[AhO hl,sJ] at e1
 rw[e1]; exact h
theorem BiA {o:Oper} {t:TypeId} {x i:Operand} {u:Str} {k:IntKind} {n y:Int} (hy:sget u n=some y) (ho:o.op=.index t x i) (ht:X.P.underlying t=some .string) (hx:ev tm x=some (.c (.d (.str u)))) (hi:ev tm i=some (.c (.d (.int k n)))) :
  EvO X o ⟨tm,hp,nid,df,pn⟩ (.d (.int .u8 y)) ⟨tm,hp,nid,df,pn⟩ ⟨cQ o tm,[],[]⟩:=by
 unfold sget at hy
 split at hy
 ·rename_i h0
  rw[Option.map_eq_some_iff] at hy
  obtain⟨b,hb,rfl⟩:=hy
  exact .of λ_=>AuN (s:=⟨tm,hp,nid,df,pn⟩) ho ht hx hi h0 hb
 cases hy
theorem nQ {α:Type} {g:α->D} (g':α->D) (hg:∀a,g a=g' a) {u:List α} {y:α} {n:Int} {o:Oper} {t e:TypeId} {x i:Operand} {k:IntKind} {sz:Nat} (hy:lget u n=some y)
  (ho:o.op=.indexAddr t x i) (ht:nK X.P t=some e) (hz:some sz=tsz X.P e) (hx:(ev tm x).bind V.toD=some (.list sz (u.map g))) (hi:ev tm i=some (.c (.d (.int k n)))) :
  EvO X o ⟨tm,hp,nid,df,pn⟩ (.rptr (g' y).cells) ⟨tm,hp,nid,df,pn⟩ ⟨cQ o tm,[],[]⟩:=by
 obtain⟨h0,hy⟩:=gL hy
 rw[←hg]
 exact .of λ_=>AuM (s:=⟨tm,hp,nid,df,pn⟩) (d:=g y) ho ht hz hx hi h0 (by simp[hy])
theorem BeT {o:Oper} {t:TypeId} {x lo:Operand} {u y:Str} {k:IntKind} {n:Int} (hy:sfrom u n=some y)
  (ho:o.op=.slice t x (some lo) none none) (ht:X.P.underlying t=some .string) (hx:evT X.P t tm x=some (.c (.d (.str u)))) (hi:ev tm lo=some (.c (.d (.int k n)))) :
  EvO X o ⟨tm,hp,nid,df,pn⟩ (.d (.str y)) ⟨tm,hp,nid,df,pn⟩ ⟨cQ o tm,[],[]⟩:=by
 unfold sfrom at hy
 split at hy
 ·rename_i hb
  simp only[sJ] at hy; subst hy
  have:=λcall=>AeS (P:=X.P) (call:=call) (id:=nid) (s:=⟨tm,hp,nid,df,pn⟩) (a:=n.toNat) (b:=u.length) ho ht hx (qP hi hb.1) rfl hb.2 (Nat.le_refl _)
  rw[List.take_length] at this
  exact .of λ_=>this _
 cases hy
theorem BkI {o:Oper} {t:TypeId} {x hh:Operand} {u y:Str} {k:IntKind} {n:Int} (hy:sto u n=some y)
  (ho:o.op=.slice t x none (some hh) none) (ht:X.P.underlying t=some .string) (hx:evT X.P t tm x=some (.c (.d (.str u)))) (hi:ev tm hh=some (.c (.d (.int k n)))) :
  EvO X o ⟨tm,hp,nid,df,pn⟩ (.d (.str y)) ⟨tm,hp,nid,df,pn⟩ ⟨cQ o tm,[],[]⟩:=by
 unfold sto at hy
 split at hy
 ·rename_i hb
  simp only[sJ] at hy; subst hy
  exact .of λ_=>AeS (s:=⟨tm,hp,nid,df,pn⟩) (a:=0) (b:=n.toNat) ho ht hx rfl (qP hi hb.1) (Nat.zero_le _) hb.2
 cases hy
theorem BiB {o:Oper} {t:TypeId} {x lo hh:Operand} {u y:Str} {k k':IntKind} {n m:Int} (hy:smid u n m=some y)
  (ho:o.op=.slice t x (some lo) (some hh) none) (ht:X.P.underlying t=some .string) (hx:evT X.P t tm x=some (.c (.d (.str u)))) (hi:ev tm lo=some (.c (.d (.int k n)))) (hi':ev tm hh=some (.c (.d (.int k' m)))) :
  EvO X o ⟨tm,hp,nid,df,pn⟩ (.d (.str y)) ⟨tm,hp,nid,df,pn⟩ ⟨cQ o tm,[],[]⟩:=by
 unfold smid at hy
 split at hy
 ·rename_i hb
  simp only[sJ] at hy; subst hy
  exact .of λ_=>AeS (s:=⟨tm,hp,nid,df,pn⟩) (a:=n.toNat) (b:=m.toNat) ho ht hx (qP hi hb.1) (qP hi' oM) oM hb.2.2
 cases hy
theorem Bi9 {o:Oper} {t t':TypeId} {x y:Operand} {a b r:Str} (hy:scat a b=some r)
  (ho:o.op=.binOp .add t x y t') (hx:evT X.P t tm x=some (.c (.d (.str a)))) (hy':evT X.P t tm y=some (.c (.d (.str b)))) :
  EvO X o ⟨tm,hp,nid,df,pn⟩ (.d (.str r)) ⟨tm,hp,nid,df,pn⟩ ⟨cQ o tm,[],[]⟩:=by
 unfold scat at hy
 split at hy
 ·simp only[sJ] at hy; subst hy
  exact .of λ_=>BcO (s:=⟨tm,hp,nid,df,pn⟩) ho hx hy' (by assumption)
 cases hy
theorem Am6 {α:Type} {g:α->D} {u y:List α} {o:Oper} {t e:TypeId} {x lo:Operand} {v:V} {k:IntKind} {n:Int} {sz:Nat} (hy:lfrom u n=some y)
  (ho:o.op=.slice t x (some lo) none none) (ht:X.P.underlying t=some (.slice e)) (hz:tsz X.P e=some sz) (hx:evT X.P t tm x=some v) (hv:v.toD=some (.list sz (u.map g))) (hi:ev tm lo=some (.c (.d (.int k n)))) :
  EvO X o ⟨tm,hp,nid,df,pn⟩ (.d (.list sz (y.map g))) ⟨tm,hp,nid,df,pn⟩ ⟨cQ o tm,[],[]⟩:=by
 unfold lfrom at hy
 split at hy
 ·rename_i hb
  simp only[sJ] at hy; subst hy
  have:=λcall=>AdI (P:=X.P) (call:=call) (id:=nid) (s:=⟨tm,hp,nid,df,pn⟩) (a:=n.toNat) (b:=u.length) (lo:=some lo) (hi:=none) ho ht hz hx hv (qP hi hb.1) (by simp[gN]) hb.2 sM
  rw[show u.length=(u.map g).length from (List.length_map ..).symm,List.take_length,←List.map_drop] at this
  exact .of λ_=>this _
 cases hy
theorem BgT {α:Type} {g:α->D} {u y:List α} {o:Oper} {t e:TypeId} {x hh:Operand} {v:V} {k:IntKind} {n:Int} {sz:Nat} (hy:lto u n=some y)
  (ho:o.op=.slice t x none (some hh) none) (ht:X.P.underlying t=some (.slice e)) (hz:tsz X.P e=some sz) (hx:evT X.P t tm x=some v) (hv:v.toD=some (.list sz (u.map g))) (hi:ev tm hh=some (.c (.d (.int k n)))) :
  EvO X o ⟨tm,hp,nid,df,pn⟩ (.d (.list sz (y.map g))) ⟨tm,hp,nid,df,pn⟩ ⟨cQ o tm,[],[]⟩:=by
 unfold lto at hy
 split at hy
 ·rename_i hb
  simp only[sJ] at hy; subst hy
  have:=λcall=>AdI (P:=X.P) (call:=call) (id:=nid) (s:=⟨tm,hp,nid,df,pn⟩) (a:=0) (b:=n.toNat) (lo:=none) (hi:=some hh) ho ht hz hx hv rfl (qP hi hb.1) (Nat.zero_le _) (by simpa using hb.2)
  rw[List.drop_zero,←List.map_take] at this
  exact .of λ_=>this _
 cases hy
theorem AsP {α:Type} {g:α->D} {u y:List α} {o:Oper} {t e:TypeId} {x lo hh:Operand} {v:V} {k k':IntKind} {n m:Int} {sz:Nat} (hy:Ag0 u n m=some y)
  (ho:o.op=.slice t x (some lo) (some hh) none) (ht:X.P.underlying t=some (.slice e)) (hz:tsz X.P e=some sz) (hx:evT X.P t tm x=some v) (hv:v.toD=some (.list sz (u.map g))) (hi:ev tm lo=some (.c (.d (.int k n)))) (hi':ev tm hh=some (.c (.d (.int k' m)))) :
  EvO X o ⟨tm,hp,nid,df,pn⟩ (.d (.list sz (y.map g))) ⟨tm,hp,nid,df,pn⟩ ⟨cQ o tm,[],[]⟩:=by
 unfold Ag0 at hy
 split at hy
 ·rename_i hb
  simp only[sJ] at hy; subst hy
  have:=λcall=>AdI (P:=X.P) (call:=call) (id:=nid) (s:=⟨tm,hp,nid,df,pn⟩) (a:=n.toNat) (b:=m.toNat) ho ht hz hx hv (qP hi hb.1) (qP hi' oM) oM (by simpa using hb.2.2)
  rw[←List.map_take,←List.map_drop] at this
  exact .of λ_=>this _
 cases hy
theorem nR {α:Type} {g:α->D} {u:List α} {o:Oper} {c:Go.Call} {t e:TypeId} {x:Operand} {v:V} {sz:Nat}
  (ho:o.op=.call c) (hc:c.callee=.builtin .len) (ha:c.args.toList=[x]) (hat:c.argTypes.toList=[t]) (ht:X.P.underlying t=some (.slice e)) (hx:ev tm x=some v) (hv:v.toD=some (.list sz (u.map g))) :
  EvO X o ⟨tm,hp,nid,df,pn⟩ (.d (.int .i64 u.length)) ⟨tm,hp,nid,df,pn⟩ eX.none:=
 .of λ_=>by simp only[cV,evR,ho,hc,ha,hat,hx,bJ,Ae1 hv,ht,List.length_map]
theorem BgZ {o:Oper} {src dst e:TypeId} {x:Operand} {a:Str} {y:List Int} (hy:sbytes a=some y)
  (ho:o.op=.convert src dst x) (hs:X.P.underlying src=some .string) (hdd:X.P.underlying dst=some (.slice e)) (he:X.P.underlying e=some (.int .u8)) (hz:tsz X.P e=some 1) (hx:evT X.P src tm x=some (.c (.d (.str a)))) :
  EvO X o ⟨tm,hp,nid,df,pn⟩ (.c (.own 1 (y.map (D.int .u8)))) ⟨tm,hp,nid,df,pn⟩ ⟨cQ o tm,[],[]⟩:=by
 unfold sbytes at hy
 split at hy
 ·rename_i hb
  simp only[sJ] at hy; subst hy
  have:=λcall=>BeU (P:=X.P) (call:=call) (id:=nid) (s:=⟨tm,hp,nid,df,pn⟩) ho hs hdd he hz hx hb
  rw[show a.map AcB=(a.map u8I).map (D.int .u8) from by rw[List.map_map]; rfl] at this
  exact .of λ_=>this _
 cases hy
theorem yB:∀a:List Int,yA (a.map (D.int .u8))=some (Bj4 a)
 | []=>rfl
 |n::a=>by
  show (yA (a.map (D.int .u8))).map (UInt8.ofNat n.toNat::·)=_
  rw[yB a]; rfl
theorem Bi5 {o:Oper} {src dst e:TypeId} {x:Operand} {v:V} {a:List Int}
  (ho:o.op=.convert src dst x) (hs:X.P.underlying src=some (.slice e)) (hdd:X.P.underlying dst=some .string) (he:X.P.underlying e=some (.int .u8)) (hx:evT X.P src tm x=some v) (hv:v.toD=some (.list 1 (a.map (D.int .u8)))) :
  EvO X o ⟨tm,hp,nid,df,pn⟩ (.d (.str (Bj4 a))) ⟨tm,hp,nid,df,pn⟩ ⟨cQ o tm,[],[]⟩:=by
 have hcv:AwN X.P src dst v=some (.d (.str (Bj4 a))):=by
  unfold AwN
  rw[hs,hdd]
  cases v with
  |c y=>
   cases y with
   |d z=>simp only[V.toD,C.toD,sJ] at hv; subst hv; simp only[he,V.toD,C.toD,yB,Option.map_some]
   |own z ys=>simp only[V.toD,C.toD,sJ,D.list.injEq] at hv; obtain⟨rfl,rfl⟩:=hv; simp only[he,V.toD,C.toD,yB,Option.map_some]
   |full z ys=>simp only[V.toD,C.toD,sJ,D.list.injEq] at hv; obtain⟨rfl,rfl⟩:=hv; simp only[he,V.toD,C.toD,yB,Option.map_some]
   |nilsl z=>
    simp only[V.toD,C.toD,sJ,D.list.injEq] at hv
    obtain⟨rfl,h⟩:=hv
    have:a=[]:=by cases a<;>simp_all
    subst this
    simp only[he,V.toD,C.toD,yA,Option.map_some]
    rfl
   |_=>simp[V.toD,C.toD] at hv
  |view l z ys=>simp only[V.toD,sJ,D.list.injEq] at hv; obtain⟨rfl,rfl⟩:=hv; simp only[he,V.toD,yB,Option.map_some]
  |vagg cs=>simp[V.toD] at hv
  |_=>simp[V.toD] at hv
 exact .of λ_=>by simp only[cV,ho,evR,hx,hcv]
theorem Bb2 {α:Type} {g:α->D} {u m y:List α} {o:Oper} {c:Go.Call} {t s e:TypeId} {x z:Operand} {n w:Nat} {zs:List D} {zv:V} {ms:List D} (hy:lapp u m=some y) (hm:ms=m.map g)
  (ho:o.op=.call c) (hc:c.callee=.builtin .append) (ha:c.args.toList=[x,z]) (hat:c.argTypes.toList=[t,s]) (ht:nK X.P t=some e) (hn:tsz X.P e=some n) (hu:iB X.P s=true)
  (hb:(Nat.ble (X.P.bytesOf e) 1024&&lV X.P e n)=true) (hx:evT X.P t tm x=some (.view (.tmp w) n (u.map g))) (hw:look w tm=some (.c (.own n zs))) (hz:evT X.P s tm z=some zv) (hzz:appended zv=some (n,ms)) :
  EvO X o ⟨tm,hp,nid,df,pn⟩ (.c (.own n (y.map g))) ⟨plainAt w tm,hp,nid,df,pn⟩ (bS x tm):=by
 subst hm
 unfold lapp at hy
 split at hy
 ·rename_i hl
  simp only[sJ] at hy; subst hy
  simp only[Bool.and_eq_true] at hb
  have:=λcall=>ApT (P:=X.P) (call:=call) (id:=nid) (s:=⟨tm,hp,nid,df,pn⟩) ho hc ha hat ht hn hu ⟨Nat.le_of_ble_eq_true hb.1,hb.2⟩ hx hw hz hzz (by simpa using hl)
  rw[←List.map_append] at this
  exact .of λ_=>this _
 cases hy
theorem AgO {α:Type} {g:α->D} {u m y:List α} {o:Oper} {c:Go.Call} {t s e:TypeId} {x z:Operand} {n b off:Nat} {zs:List D} {cells:List C} {zv:V} {ms:List D} (hy:lapp u m=some y) (hm:ms=m.map g)
  (ho:o.op=.call c) (hc:c.callee=.builtin .append) (ha:c.args.toList=[x,z]) (hat:c.argTypes.toList=[t,s]) (ht:nK X.P t=some e) (hn:tsz X.P e=some n) (hu:iB X.P s=true)
  (hb:(Nat.ble (X.P.bytesOf e) 1024&&lV X.P e n)=true) (hx:evT X.P t tm x=some (.view (.cell b off) n (u.map g))) (hw:yG b hp=some cells) (hw':cells[off]?=some (.own n zs)) (hz:evT X.P s tm z=some zv) (hzz:appended zv=some (n,ms)) :
  EvO X o ⟨tm,hp,nid,df,pn⟩ (.c (.own n (y.map g))) ⟨tm,upd b (cells.set off (.d (.list n (u.map g)))) hp,nid,df,pn⟩ (bS x tm):=by
 subst hm
 unfold lapp at hy
 split at hy
 ·rename_i hl
  simp only[sJ] at hy; subst hy
  simp only[Bool.and_eq_true] at hb
  have:=λcall=>ApS (P:=X.P) (call:=call) (id:=nid) (s:=⟨tm,hp,nid,df,pn⟩) ho hc ha hat ht hn hu ⟨Nat.le_of_ble_eq_true hb.1,hb.2⟩ hx hw hw' hz hzz (by simpa using hl)
  rw[←List.map_append] at this
  exact .of λ_=>this _
 cases hy
theorem Bi4 {α:Type} {g:α->D} {m y:List α} {o:Oper} {c:Go.Call} {t s e:TypeId} {x z:Operand} {n k:Nat} {zv:V} {ms:List D} (hy:lapp [] m=some y) (hm:ms=m.map g)
  (ho:o.op=.call c) (hc:c.callee=.builtin .append) (ha:c.args.toList=[x,z]) (hat:c.argTypes.toList=[t,s]) (ht:nK X.P t=some e) (hn:tsz X.P e=some n) (hu:iB X.P s=true)
  (hb:(Nat.ble (X.P.bytesOf e) 1024&&lV X.P e n)=true) (hx:evT X.P t tm x=some (.c (.nilsl k))) (hz:evT X.P s tm z=some zv) (hzz:appended zv=some (n,ms)) :
  EvO X o ⟨tm,hp,nid,df,pn⟩ (.c (.own n (y.map g))) ⟨tm,hp,nid,df,pn⟩ (bS x tm):=by
 subst hm
 unfold lapp at hy
 split at hy
 ·rename_i hl
  simp only[List.nil_append,sJ] at hy; subst hy
  simp only[Bool.and_eq_true] at hb
  exact .of λ_=>ArK (s:=⟨tm,hp,nid,df,pn⟩) ho hc ha hat ht hn hu ⟨Nat.le_of_ble_eq_true hb.1,hb.2⟩ hx hz hzz (by simpa using hl)
 cases hy
theorem kJ {o:Oper} {c:Go.Call} {fo:Operand} {g:Nat} {args args':List C} {v v':V} (hv:bF X g args' [] (.ret v []))
  (ho:o.op=.call c) (hc:c.callee=.value fo) (hf:ev tm fo=some (.c (.fn g [])))
  (ha:pF X.P tm c.args.toList c.argTypes.toList=some args) (hi:args.flatMap C.ids=[]) (hj:aY (C.into []) args=some args) (hst:args.map C.still=args') (hH:(X.H g 999999).isEmpty=true) (hb:V.back [] v=some v') :
  EvO X o ⟨tm,hp,nid,df,pn⟩ v' ⟨tm,hp,nid,df,pn⟩ ⟨[],[],[]⟩:=by
 have:=Al3 (X:=X) (s:=⟨tm,hp,nid,df,pn⟩) (ids:=[]) (lh:=[]) (lh':=[]) (lh'':=[]) ho hc hf (by simpa using ha) (by simp[hi,rW]) (by simpa using hj) rfl (AeJ (hst▸hv) hH) rfl (by simpa[bD] using hb)
 refine this.imp λk p=>?_
 rw[p]
 simp[bD,pI,dT]
theorem BeP {o:Oper} {c:Go.Call} {fo:Operand} {g:Nat} {x:D} {args args':List C} {v v':V} (hv:bF X g args' [] (.ret v []))
  (ho:o.op=.call c) (hc:c.callee=.value fo) (hf:ev tm fo=some (.c (.bfn g x)))
  (ha:pF X.P tm c.args.toList c.argTypes.toList=some args) (hi:args.flatMap C.ids=[]) (hj:aY (C.into []) (.d x::args)=some (.d x::args)) (hst:(C.d x::args).map C.still=args') (hH:(X.H g 999999).isEmpty=true) (hb:V.back [] v=some v') :
  EvO X o ⟨tm,hp,nid,df,pn⟩ v' ⟨tm,hp,nid,df,pn⟩ ⟨[],[],[]⟩:=by
 have:=BcP (X:=X) (s:=⟨tm,hp,nid,df,pn⟩) (ids:=[]) (lh:=[]) (lh':=[]) (lh'':=[]) ho hc hf ha (by simp[hi,rW,C.ids]) hj rfl (AeJ (hst▸hv) hH) rfl (by simpa[bD] using hb)
 refine this.imp λk p=>?_
 rw[p]
 simp[bD,pI,dT]
theorem BeO {o:Oper} {c:Go.Call} {fo:Operand} {g:Nat} {args:List C} {v v':V} (hv:bF X g args [] (.ret v []))
  (ho:o.op=.call c) (hc:c.callee=.value fo) (hf:ev tm fo=some (.c (.fn g [])))
  (ha:pF X.P tm c.args.toList c.argTypes.toList=some args) (hi:args.flatMap C.ids=[]) (hj:aY (C.into []) args=some args) (hb:V.back [] v=some v') :
  EvO X o ⟨tm,hp,nid,df,pn⟩ v' ⟨tm,hp,nid,df,pn⟩ ⟨[],[],[]⟩:=by
 have:=Al3 (X:=X) (s:=⟨tm,hp,nid,df,pn⟩) (ids:=[]) (lh:=[]) (lh':=[]) (lh'':=[]) ho hc hf (by simpa using ha) (by simp[hi,rW]) (by simpa using hj) rfl hv rfl (by simpa[bD] using hb)
 refine this.imp λk p=>?_
 rw[p]
 simp[bD,pI,dT]
def AX.isOut:AX->Bool
 |.ret=>true
 |.pan _=>true
 |_=>false
theorem kW.out {b:Code} {x:AX} {s:St} (hx:x.isOut=true) (h:Q x s):kW X f b Q x s:=by
 cases x<;>first|exact .ret h|exact .pan h|simp[AX.isOut] at hx
theorem fW.out {hk:List Nat} {n:Nat} {x:AX} {s:St} (hx:x.isOut=true) (h:Q x s):fW hk n Q x s:=by
 cases x<;>first|exact .ret h|exact .pan h|simp[AX.isOut] at hx
theorem aL.out {id:Nat} {hk:List Nat} {n:Nat} {x:AX} {s:St} (hx:x.isOut=true) (h:Q x s):aL id hk n Q x s:=by
 cases x<;>first|exact .ret h|exact .pan h|simp[AX.isOut] at hx
theorem cD.out {A:St->Prop} {x:AX} {s:St} (hx:x.isOut=true) (h:Q x s):cD A Q x s:=by
 cases x<;>first|exact .ret h|exact .pan h|simp[AX.isOut] at hx
inductive lW (X:Ctx) (fn:Func) (n:Nat) {ρ σ:Type} (E:ρ->aF) (st:σ->St):Except ρ σ->AX->St->Prop where
 |ok {a:σ} {s:St}:s=st a->lW X fn n E st (.ok a) .normal s
 |err {r:ρ} {x:AX} {s:St}:x.isOut=true->yD X fn n (E r) x s->lW X fn n E st (.error r) x s
theorem vI (fn:Func) (n:Nat) {ρ σ:Type} (E:ρ->aF) (st:σ->St) {res:Except ρ σ} {a:Code} {s:St} (h1:awp X f a (lW X fn n E st res) s) (h2:∀y,res=.ok y->Q .normal (st y))
  (h3:∀r x s',res=.error r->x.isOut=true->yD X fn n (E r) x s'->Q x s'):awp X f a Q s:=by
 refine AkJ h1 ?_
 intro x s' hq
 cases hq with
 |ok e=>subst e; exact h2 _ rfl
 |err hx e=>exact h3 _ _ _ rfl hx e
inductive iL {σ:Type} (st:σ->St) (y:σ):AX->St->Prop where
 |ok {s:St}:s=st y->iL st y .normal s
theorem gI {σ:Type} (st:σ->St) {y:σ} {a:Code} {s:St} (h1:awp X f a (iL st y) s) (h2:Q .normal (st y)):awp X f a Q s:=by
 refine AkJ h1 ?_
 intro x s' hq
 cases hq with
 |ok e=>subst e; exact h2
theorem bW {c:Code} {clean:St->Option St} {s s1:St} (hc:clean s=some s1) (hc1:clean s1=some s1) (h:cL X f c clean Q s1):cL X f c clean Q s:=by
 obtain⟨x,s',⟨m₀,h1⟩,h2⟩:=h
 refine⟨x,s',⟨m₀+1,h1.imp λk p m hm=>?_⟩,h2⟩
 obtain⟨j,rfl⟩:∃j,m=j+1:=⟨m-1,oM⟩
 have:=p (j+1) oM
 simp only[iter,hc1] at this
 simp only[iter,hc]
 exact this
theorem BaS {c:Code} {clean:St->Option St} {s s1:St} (hc:clean s=some s1) (h:awp X f c (cD (cL X f c clean Q) Q) s1):cL X f c clean Q s:=by
 refine AzD hc (AkJ h ?_)
 intro x s' hq
 cases hq with
 |normal h=>exact h
 |exit h=>exact h
 |ret h=>exact h
 |pan h=>exact h
def Ax7 {β:Type} (n:Nat):List (Nat×List C)->(List (Nat×List C)->β)->β
 | [],k=>k []
 |(b,cs)::r,k=>match decide (b<n) with
  |true=>rM cs λcs=>Ax7 n r λr=>k ((b,cs)::r)
  |false=>Ax7 n r k
theorem ApW {β:Type} {n:Nat}:∀{l:List (Nat×List C)} {k:List (Nat×List C)->β},Ax7 n l k=k (l.filter (·.1<n))
 | [],_=>rfl
 |(b,cs)::r,k=>by
  simp only[Ax7,List.filter_cons,iY]
  cases h:decide (b<n) with
  |true=>simp only[ApW,if_true]
  |false=>simp only[ApW,fJ,if_false]
def Av7:List Nat->Bool
 | []=>true
 |k::r=>!Nat.ble 15000000 k&&Av7 r
theorem BaW:∀{ks:List Nat} {s:St},Av7 ks=true->BeC ks s=some []
 | [],_,_=>rfl
 |k::r,s,h=>by
  simp only[Av7,Bool.and_eq_true,Bool.not_eq_true'] at h
  simp only[BeC,h.1]
  exact BaW h.2
def Au9 {α:Type} (ks:List Nat) (n:Nat) (tm:List (Nat×V)) (hp:List (Nat×List C)) (df:List (Nat×List Nat)) (k:List (Nat×V)->List (Nat×List C)->Option α):Option α:=
 match Av7 ks with
 |false=>none
 |true=>AcQ ks (demT ks tm) λtm=>Ax7 n (demH ks hp) λhp=>match tm.all (λx=>x.2.below n)&&hp.all (λx=>x.2.all (C.below n))&&df.all (λx=>x.2.all (· < n)) with
  |true=>k tm hp
  |false=>none
def BiS (tm:List (Nat×V)) (hp:List (Nat×List C)):Option (List (Nat×V)×List (Nat×List C)):=some (tm,hp)
theorem As8 {α:Type} {ks:List Nat} {n:Nat} {k:List (Nat×V)->List (Nat×List C)->Option α} {a:α} (h:Au9 ks n tm hp df k=some a) :
  ∃tm' hp',k tm' hp'=some a/\aJ ks n ⟨tm,hp,nid,df,pn⟩=some ⟨tm',hp',n,df,pn⟩:=by
 unfold Au9 at h
 split at h
 ·simp at h
 rename_i hnc
 rw[uS,ApW] at h
 split at h
 ·rename_i hc
  refine⟨_,_,h,?_⟩
  unfold aJ cleanO
  rw[BaW hnc]
  simp only
  rw[if_pos hc]
 simp at h
theorem lg {ks:List Nat} {n:Nat} {c:Code} (hc:Au9 ks n tm hp df BiS=some (tm',hp')) (h:awp X f c (cD (cL X f c (aJ ks n) Q) Q) ⟨tm',hp',n,df,pn⟩):cL X f c (aJ ks n) Q ⟨tm,hp,nid,df,pn⟩:=by
 obtain⟨_,_,h1,h2⟩:=As8 (nid:=nid) (pn:=pn) hc
 simp only[BiS,sJ,pJ] at h1
 obtain⟨rfl,rfl⟩:=h1
 exact BaS h2 h
theorem lgX {ks:List Nat} {n:Nat} {c:Code} (hc:aJ ks n ⟨tm,hp,nid,df,pn⟩=some ⟨tm',hp',nid',df,pn⟩) (h:awp X f c (cD (cL X f c (aJ ks n) Q) Q) ⟨tm',hp',nid',df,pn⟩):cL X f c (aJ ks n) Q ⟨tm,hp,nid,df,pn⟩:=
 BaS hc h
def AiJ {α:Type} (hk:List Nat) (n:Nat) (tm:List (Nat×V)) (hp:List (Nat×List C)) (nid:Nat) (df:List (Nat×List Nat)) (k:List (Nat×V)->List (Nat×List C)->Nat->Option α):Option α:=match hk with
 | []=>k tm hp nid
 |_::ks=>Au9 ks n tm hp df λtm hp=>k tm hp n
def BaH (tm:List (Nat×V)) (hp:List (Nat×List C)) (nid:Nat):Option (List (Nat×V)×List (Nat×List C)×Nat):=some (tm,hp,nid)
theorem Af9 {hk:List Nat} {n:Nat} (h:AiJ hk n tm hp nid df BaH=some (tm',hp',nid')):zF hk n ⟨tm,hp,nid,df,pn⟩=some ⟨tm',hp',nid',df,pn⟩:=by
 unfold AiJ at h
 split at h
 ·simp only[BaH,sJ,pJ] at h
  obtain⟨rfl,rfl,rfl⟩:=h; rfl
 obtain⟨_,_,h1,h2⟩:=As8 (nid:=nid) (pn:=pn) h
 simp only[BaH,sJ,pJ] at h1
 obtain⟨rfl,rfl,rfl⟩:=h1
 exact h2
theorem eh {id:Nat} {hk:List Nat} {n:Nat} (hs:AiJ hk n tm hp nid df BaH=some (tm',hp',nid')) (h:Q .normal ⟨tm',hp',nid',df,pn⟩):aL id hk n Q (.exit id) ⟨tm,hp,nid,df,pn⟩:=.here (Af9 hs) h
theorem en {id:Nat} {hk:List Nat} {n:Nat} (hs:AiJ hk n tm hp nid df BaH=some (tm',hp',nid')) (h:Q .normal ⟨tm',hp',nid',df,pn⟩):aL id hk n Q .normal ⟨tm,hp,nid,df,pn⟩:=.normal (Af9 hs) h
theorem cn {hk:List Nat} {n:Nat} (hs:AiJ hk n tm hp nid df BaH=some (tm',hp',nid')) (h:Q .normal ⟨tm',hp',nid',df,pn⟩):fW hk n Q .normal ⟨tm,hp,nid,df,pn⟩:=.normal (Af9 hs) h
theorem ehX {id:Nat} {k:Nat} {ks:List Nat} {n:Nat} (hs:aJ ks n ⟨tm,hp,nid,df,pn⟩=some ⟨tm',hp',nid',df,pn⟩) (h:Q .normal ⟨tm',hp',nid',df,pn⟩):aL id (k::ks) n Q (.exit id) ⟨tm,hp,nid,df,pn⟩:=.here hs h
inductive Bc1 (i:Nat) (hk:List Nat) (n:Nat) {α σ:Type} (st1:α->St) (st2:σ->St):Except α σ->AX->St->Prop where
 |ok {y:σ} {s:St}:s=st2 y->Bc1 i hk n st1 st2 (.ok y) .normal s
 |ext {a:α} {s:St}:zF hk n s=some (st1 a)->Bc1 i hk n st1 st2 (.error a) (.exit i) s
theorem BaT (i:Nat) (hk:List Nat) (n:Nat) {α σ:Type} (st1:α->St) (st2:σ->St) {res:Except α σ} {a:Code} {s:St} (h1:awp X f a (Bc1 i hk n st1 st2 res) s) (h2:∀y,res=.ok y->Q .normal (st2 y))
  (h3:∀y s',res=.error y->zF hk n s'=some (st1 y)->Q (.exit i) s'):awp X f a Q s:=by
 refine AkJ h1 ?_
 intro x s' hq
 cases hq with
 |ok e=>subst e; exact h2 _ rfl
 |ext e=>exact h3 _ _ rfl e
theorem ex1 {i:Nat} {hk:List Nat} {n:Nat} {α σ:Type} {st1:α->St} {st2:σ->St} {a:α} (hs:AiJ hk n tm hp nid df BaH=some (tm',hp',nid')) (h:(⟨tm',hp',nid',df,pn⟩:St)=st1 a):Bc1 i hk n st1 st2 (.error a) (.exit i) ⟨tm,hp,nid,df,pn⟩:=.ext (h▸Af9 hs)
def aP:List Nat->Code->Code
 | [],c=>c
 |i::r,.seq a b=>aP r (if i=0 then a else b)
 |i::r,.cond _ a b=>aP r (if i=0 then a else b)
 |_::r,.block _ c=>aP r c
 |_::r,.loop c=>aP r c
 |_::r,.scope c=>aP r c
 |_,c=>c
def aQ (fn:Func):Code:=fn.body.getD .skip
end
end Go.AM
namespace Go.AM
open Go
section
variable {X:Ctx} {f:Nat} {Q:AX->St->Prop} {tm tm':List (Nat×V)} {hp hp':List (Nat×List C)} {nid nid':Nat} {df df':List (Nat×List Nat)} {pn:Option D}
def EvP (X:Ctx) (o:Oper) (s:St) (d:D) (s1:St) (ft:eX):Prop:=Evt λk=>cV X.P (X.call k) s.nid o s=some (.pan d s1,ft)
theorem AbN {o:Oper} {c:Go.Call} {fo:Operand} {g:Nat} {caps ids:List Nat} {args args' args'':List C} {lh lh' lh'':List (List C)} {v v':V} (hv:bF X g args'' lh (.ret v lh'))
  (ho:o.op=.call c) (hc:c.callee=.value fo) (hf:ev tm fo=some (.c (.fn g caps)))
  (ha:pF X.P tm c.args.toList c.argTypes.toList=some args) (hr:rW hp 64 ((args++caps.map λb=>C.ptr b 0).flatMap C.ids) []=some ids) (hi:aY (C.into ids) (args++caps.map λb=>.ptr b 0)=some args')
  (hst:args'.map C.still=args'') (hH:(X.H g 999999).isEmpty=true)
  (hb:pG hp ids=some lh) (hk:aY (aY (C.back (ids++bD nid (lh'.length-ids.length)))) lh'=some lh'') (hv':V.back (ids++bD nid (lh'.length-ids.length)) v=some v') (hn:nid+(lh'.length-ids.length)=nid') :
  EvO X o ⟨tm,hp,nid,df,pn⟩ v' ⟨unviewIn (ids++bD nid (lh'.length-ids.length)) tm,dT (ids++bD nid (lh'.length-ids.length)) lh'' hp,nid',df,pn⟩ ⟨ids,ids,[]⟩:=by
 subst hn hst
 exact Al3 (X:=X) (s:=⟨tm,hp,nid,df,pn⟩) ho hc hf ha hr hi hb (AeJ hv hH) hk hv'
theorem BgS {o:Oper} {c:Go.Call} {fo:Operand} {g:Nat} {caps ids:List Nat} {args args':List C} {lh lh' lh'':List (List C)} {v v':V} (hv:bF X g args' lh (.ret v lh'))
  (ho:o.op=.call c) (hc:c.callee=.value fo) (hf:ev tm fo=some (.c (.fn g caps)))
  (ha:pF X.P tm c.args.toList c.argTypes.toList=some args) (hr:rW hp 64 ((args++caps.map λb=>C.ptr b 0).flatMap C.ids) []=some ids) (hi:aY (C.into ids) (args++caps.map λb=>.ptr b 0)=some args')
  (hb:pG hp ids=some lh) (hk:aY (aY (C.back (ids++bD nid (lh'.length-ids.length)))) lh'=some lh'') (hv':V.back (ids++bD nid (lh'.length-ids.length)) v=some v') (hn:nid+(lh'.length-ids.length)=nid') :
  EvO X o ⟨tm,hp,nid,df,pn⟩ v' ⟨unviewIn (ids++bD nid (lh'.length-ids.length)) tm,dT (ids++bD nid (lh'.length-ids.length)) lh'' hp,nid',df,pn⟩ ⟨ids,ids,[]⟩:=by
 subst hn
 exact Al3 (X:=X) (s:=⟨tm,hp,nid,df,pn⟩) ho hc hf ha hr hi hb hv hk hv'
theorem AzO {o:Oper} {c:Go.Call} {fo:Operand} {g:Nat} {caps ids:List Nat} {args args' args'':List C} {lh lh' lh'':List (List C)} {d:D} (hv:bF X g args'' lh (.pan d lh'))
  (ho:o.op=.call c) (hc:c.callee=.value fo) (hf:ev tm fo=some (.c (.fn g caps)))
  (ha:pF X.P tm c.args.toList c.argTypes.toList=some args) (hr:rW hp 64 ((args++caps.map λb=>C.ptr b 0).flatMap C.ids) []=some ids) (hi:aY (C.into ids) (args++caps.map λb=>.ptr b 0)=some args')
  (hst:args'.map C.still=args'') (hH:(X.H g 999999).isEmpty=true)
  (hb:pG hp ids=some lh) (hk:aY (aY (C.back ids)) lh'=some lh'') :
  EvP X o ⟨tm,hp,nid,df,pn⟩ d ⟨unviewIn ids tm,dT ids lh'' hp,nid,df,pn⟩ ⟨ids,ids,[]⟩:=by
 subst hst
 refine (AeJ hv hH).imp λk p=>?_
 simp only[cV,ho,hc,hf,ha,mU,hr,hi,hb,p,hk]
theorem pp {ops:Array Oper} {o:Oper} {l:List Oper} {d:D} {tm1:List (Nat×V)} {hp1:List (Nat×List C)} {ft:eX} (hop:EvP X o ⟨tm,hp,nid,df,pn⟩ d ⟨tm1,hp1,nid,df,pn⟩ ft) (hw:wantedAt ops tm o=some true)
  (hk:(rM tm1 λtm=>uI hp1 λhp=>some (tm,hp))=some (tm',hp')) (h:Q (.pan d) ⟨tm',hp',nid,df,pn⟩):qA X ops (o::l) Q ⟨tm,hp,nid,df,pn⟩:=by
 rw[iY,qB] at hk
 simp only[sJ,pJ] at hk
 obtain⟨rfl,rfl⟩:=hk
 exact Be4 (s:=⟨tm,hp,nid,df,pn⟩) hw hop h
theorem dp {ops:Array Oper} {vs:List Nat} {base i:Nat} {pre:List Fp} {o:Oper} {l:List Oper} {d d0:D} {tm0 tm1 tmd:List (Nat×V)} {hp0 hp1:List (Nat×List C)} {nid0:Nat} {ft ft0:eX} (hd:rM (tm.filter λp=>!(jB ops i).contains p.1) some=some tmd)
  (hop0:EvP X o ⟨tm,hp,nid,df,pn⟩ d0 ⟨tm0,hp0,nid0,df,pn⟩ ft0) (hop:EvP X o ⟨tmd,hp,nid,df,pn⟩ d ⟨tm1,hp1,nid,df,pn⟩ ft) (hw:wantedAt ops tm o=some true) (hw':wantedAt ops tmd o=some true) (hm:aR o=false)
  (hk:(rM tm1 λtm=>uI hp1 λhp=>some (tm,hp))=some (tm',hp')) (hok:(AkQ true ops base (pre++[⟨[],[],[],true⟩])&&Nat.ble base nid)=true) (h:Q (.pan d) ⟨tm',hp',nid,df,pn⟩):oO X ops vs base pre (o::l) i Q ⟨tm,hp,nid,df,pn⟩:=by
 rw[iY,sJ] at hd
 rw[iY,qB] at hk
 simp only[sJ,pJ] at hk
 obtain⟨rfl,rfl⟩:=hk
 simp only[Bool.and_eq_true] at hok
 have hdr:pW (jB ops i) ⟨tm,hp,nid,df,pn⟩=⟨tmd,hp,nid,df,pn⟩:=by simp only[pW,hd]
 refine Be3 (s:=⟨tm,hp,nid,df,pn⟩) (ft:=⟨[],[],[],true⟩) (ft0:=⟨[],[],[],true⟩) (d0:=d0) (s0:=⟨tm0,hp0,nid0,df,pn⟩) hw (hop0.imp λk p=>?_) (by rw[hdr]; exact hw') (hop.imp λk p=>?_) ?_ h
 ·simp only[eP,hm,fJ,if_false,eM,p]
 ·rw[hdr]; simp only[eP,hm,fJ,if_false,eM,p]
 simp only[Bool.and_eq_true,decide_eq_true_eq]
 exact⟨AjM hok.1,Nat.le_of_ble_eq_true hok.2⟩
def Av4 {κ α:Type} [BEq κ] (l:List (κ×α)) (k:κ) (v:α):List (κ×α):=match l with
 | []=>[(k,v)]
 |(k',v')::r=>if k==k' then (k,v)::r else (k',v')::Av4 r k v
def zP {κ α:Type} [BEq κ] (l:List (κ×α)) (k:κ) (z:α):α:=match l with
 | []=>z
 |(k',v)::r=>if k==k' then v else zP r k z
def AmP {κ α:Type} [BEq κ] (l:List (κ×α)) (k:κ):Bool:=match l with
 | []=>false
 |(k',_)::r=>if k==k' then true else AmP r k
def AuF {α:Type} (g:α->D) (x:Str×α):D×D:=(.str x.1,g x.2)
def Aa2 {α:Type} (j:IntKind) (g:α->D) (x:Int×α):D×D:=(.int j x.1,g x.2)
theorem AqV {α:Type} {g:α->D} {k:Str} {v:α}:∀l:List (Str×α),AmR (.str k) (g v) (l.map (AuF g))=some ((Av4 l k v).map (AuF g))
 | []=>rfl
 |(k',v')::r=>by
  simp only[List.map_cons,AuF,AmR,Al2,Av4]
  cases h:k==k' with
  |true=>simp[AuF]
  |false=>
   have:=AqV (g:=g) (k:=k) (v:=v) r
   simp[this,AuF]
theorem AqU {α:Type} {j:IntKind} {g:α->D} {k:Int} {v:α}:∀l:List (Int×α),AmR (.int j k) (g v) (l.map (Aa2 j g))=some ((Av4 l k v).map (Aa2 j g))
 | []=>rfl
 |(k',v')::r=>by
  simp only[List.map_cons,Aa2,AmR,Al2,Av4,if_true]
  cases h:k==k' with
  |true=>simp[Aa2]
  |false=>
   have:=AqU (j:=j) (g:=g) (k:=k) (v:=v) r
   simp[this,Aa2]
theorem Bb6 {α:Type} {g:α->D} {k:Str} {z:α}:∀l:List (Str×α),∃r,AdV (.str k) ((l.map (AuF g)).map dmv)=some r/\(AmP l k=true->r=some (.d (g (zP l k z))))/\(AmP l k=false->r=none/\zP l k z=z)
 | []=>⟨none,rfl,by simp[AmP],λ_=>⟨rfl,rfl⟩⟩
 |(k',v')::r=>by
  simp only[List.map_cons,AuF,dmv,AdV,Al2,zP,AmP]
  cases h:k==k' with
  |true=>exact⟨_,rfl,sM,sM⟩
  |false=>
   obtain⟨q,h1,h2,h3⟩:=Bb6 (g:=g) (k:=k) (z:=z) r
   exact⟨q,h1,by simpa using h2,by simpa using h3⟩
theorem Bb5 {α:Type} {j:IntKind} {g:α->D} {k:Int} {z:α}:∀l:List (Int×α),∃r,AdV (.int j k) ((l.map (Aa2 j g)).map dmv)=some r/\(AmP l k=true->r=some (.d (g (zP l k z))))/\(AmP l k=false->r=none/\zP l k z=z)
 | []=>⟨none,rfl,by simp[AmP],λ_=>⟨rfl,rfl⟩⟩
 |(k',v')::r=>by
  simp only[List.map_cons,Aa2,dmv,AdV,Al2,zP,AmP,if_true]
  cases h:k==k' with
  |true=>exact⟨_,rfl,sM,sM⟩
  |false=>
   obtain⟨q,h1,h2,h3⟩:=Bb5 (j:=j) (g:=g) (k:=k) (z:=z) r
   exact⟨q,h1,by simpa using h2,by simpa using h3⟩
theorem BhD {α:Type} {g:α->D} {k:Str} {z:α} {e:TypeId} {ok:Bool} (hz:Ar5 X.P e=some (.d (g z))) (l:List (Str×α)):AnQ X.P e ok (.str k) ((l.map (AuF g)).map dmv)=some (AjD ok (.d (g (zP l k z))) (AmP l k)):=by
 obtain⟨r,h1,h2,h3⟩:=Bb6 (g:=g) (k:=k) (z:=z) l
 unfold AnQ
 rw[h1]
 cases h:AmP l k with
 |true=>rw[h2 h]; rfl
 |false=>obtain⟨rfl,e'⟩:=h3 h; rw[e']; simp only[hz,Option.map_some]
theorem BhC {α:Type} {j:IntKind} {g:α->D} {k:Int} {z:α} {e:TypeId} {ok:Bool} (hz:Ar5 X.P e=some (.d (g z))) (l:List (Int×α)):AnQ X.P e ok (.int j k) ((l.map (Aa2 j g)).map dmv)=some (AjD ok (.d (g (zP l k z))) (AmP l k)):=by
 obtain⟨r,h1,h2,h3⟩:=Bb5 (j:=j) (g:=g) (k:=k) (z:=z) l
 unfold AnQ
 rw[h1]
 cases h:AmP l k with
 |true=>rw[h2 h]; rfl
 |false=>obtain⟨rfl,e'⟩:=h3 h; rw[e']; simp only[hz,Option.map_some]
theorem BeS {α:Type} {g:α->D} {o:Oper} {t kt e:TypeId} {m k:Operand} {b:Nat} {l:List (Str×α)} {s:Str} (z:α) (ho:o.op=.lookup t m k false) (hm:Ba2 X.P t=some (kt,e)) (hx:ev tm m=some (.c (.mp b))) (hy:(ev tm k).bind V.toD=some (.str s)) (hk:AxP X.P kt (.str s)=true)
  (hb:look b hp=some [.mdat (l.map (AuF g))]) (hz:Ar5 X.P e=some (.d (g z))):EvO X o ⟨tm,hp,nid,df,pn⟩ (.d (g (zP l s z))) ⟨tm,hp,nid,df,pn⟩ ⟨cQ o tm,[],[]⟩:=
 .of λcall=>by simp only[cV,ho,evR,hm,hx,hy,hk,if_true,hb,mapOf,BhD (g:=g) (z:=z) hz,Option.map_some,AjD,fJ,if_false]
theorem BeR {α:Type} {j:IntKind} {g:α->D} {o:Oper} {t kt e:TypeId} {m k:Operand} {b:Nat} {l:List (Int×α)} {s:Int} (z:α) (ho:o.op=.lookup t m k false) (hm:Ba2 X.P t=some (kt,e)) (hx:ev tm m=some (.c (.mp b))) (hy:(ev tm k).bind V.toD=some (.int j s)) (hk:AxP X.P kt (.int j s)=true)
  (hb:look b hp=some [.mdat (l.map (Aa2 j g))]) (hz:Ar5 X.P e=some (.d (g z))):EvO X o ⟨tm,hp,nid,df,pn⟩ (.d (g (zP l s z))) ⟨tm,hp,nid,df,pn⟩ ⟨cQ o tm,[],[]⟩:=
 .of λcall=>by simp only[cV,ho,evR,hm,hx,hy,hk,if_true,hb,mapOf,BhC (j:=j) (g:=g) (z:=z) hz,Option.map_some,AjD,fJ,if_false]
theorem pmk {ops:Array Oper} {o:Oper} {l:List Oper} {t:TypeId} (ho:o.op=.makeMap t none) (hw:wantedAt ops tm o=some true) (hv:noView nid tm=true)
  (hk:AqM o.dst (.c (.mp nid)) tm (λtm=>some tm)=some tm') (hn:nid+1=nid') (h:qA X ops l Q ⟨tm',(nid,[.mdat []])::hp,nid',df,pn⟩):qA X ops (o::l) Q ⟨tm,hp,nid,df,pn⟩:=by
 refine Au4 (s:=⟨tm,hp,nid,df,pn⟩) (v:=.c (.mp nid)) (s1:=⟨tm,(nid,[.mdat []])::hp,nid+1,df,pn⟩) (ft:=eX.none) hw (.of λk=>by simp only[cV,ho,hv,if_true]) ?_
 subst hn
 rw[show tm=(⟨tm,(nid,[.mdat []])::hp,nid+1,df,pn⟩:St).tmps from rfl,AlO] at hk
 simp only[sJ] at hk
 subst hk
 rw[putDst,wD]
 exact h
theorem BfT {k v:D}:∀{l l':List (D×D)},AmR k v l=some l'->AlR k (.d v) (l.map dmv)=some (l'.map dmv)
 | [],l',h=>by simp only[AmR,sJ] at h; subst h; rfl
 |(k',v')::r,l',h=>by
  simp only[AmR] at h
  simp only[List.map_cons,dmv,AlR]
  split at h
  ·rename_i he
   simp only[sJ] at h; subst h
   rfl
  ·rename_i he
   simp only[Option.map_eq_some_iff] at h
   obtain⟨l0,h1,rfl⟩:=h
   simp only[BfT h1,Option.map_some]; rfl
  simp at h
theorem AwY {o:Oper} {t kt e:TypeId} {m k v:Operand} {b:Nat} {kd vd:D} {l l':List (D×D)} (hs:AmR kd vd l=some l') (ho:o.op=.insert t m k v\/o.op=.mapUpdate t m k v) (hm:Ba2 X.P t=some (kt,e)) (hx:ev tm m=some (.c (.mp b))) (hy:(ev tm k).bind V.toD=some kd) (hk:AxP X.P kt kd=true)
  (hv:(evT X.P e tm v).bind MV.of=some (.d vd)) (hb:look b hp=some [.mdat l]):EvO X o ⟨tm,hp,nid,df,pn⟩ (.c .undef) ⟨tm,upd b [.mdat l'] hp,nid,df,pn⟩ ⟨[],[b],[]⟩:=
 .of λcall=>by rcases ho with ho|ho<;>simp only[cV,ho,Bb1,hm,hx,hy,hk,hv,hb,mapOf,BfT hs,BbJ,hs]
theorem AwV {α:Type} {g:α->D} {u m y:List α} {o:Oper} {c:Go.Call} {t s e:TypeId} {x z:Operand} {n:Nat} {zv:V} {ms:List D} (hy:lapp u m=some y) (hm:ms=m.map g)
  (ho:o.op=.call c) (hc:c.callee=.builtin .append) (ha:c.args.toList=[x,z]) (hat:c.argTypes.toList=[t,s]) (ht:nK X.P t=some e) (hn:tsz X.P e=some n) (hu:iB X.P s=true)
  (hb:(Nat.ble (X.P.bytesOf e) 1024&&lV X.P e n)=true) (hx:evT X.P t tm x=some (.c (.full n (u.map g)))) (hz:evT X.P s tm z=some zv) (hzz:appended zv=some (n,ms)) :
  EvO X o ⟨tm,hp,nid,df,pn⟩ (.c (.own n (y.map g))) ⟨tm,hp,nid,df,pn⟩ (bS x tm):=by
 subst hm
 unfold lapp at hy
 split at hy
 ·rename_i hl
  simp only[sJ] at hy; subst hy
  simp only[Bool.and_eq_true] at hb
  refine .of λcall=>?_
  have h2:X.P.bytesOf e<=1024/\lV X.P e n=true:=⟨Nat.le_of_ble_eq_true hb.1,hb.2⟩
  simp only[cV,ho,hc,ha,hat,jP,ht,hn,hu,hx,hz,hzz,bJ,h2,and_self,if_true,List.length_map,hl,List.map_append]
 cases hy
theorem AwW {α:Type} {g:α->D} {u m y:List α} {o:Oper} {c:Go.Call} {t s e:TypeId} {z:Operand} {n w:Nat} {zv:V} {ms:List D} (hy:lapp u m=some y) (hm:ms=m.map g)
  (ho:o.op=.call c) (hc:c.callee=.builtin .append) (ha:c.args.toList=[.tmp w,z]) (hat:c.argTypes.toList=[t,s]) (ht:nK X.P t=some e) (hn:tsz X.P e=some n) (hu:iB X.P s=true)
  (hb:(Nat.ble (X.P.bytesOf e) 1024&&lV X.P e n)=true) (hx:evT X.P t tm (.tmp w)=some (.c (.own n (u.map g)))) (hz:evT X.P s tm z=some zv) (hzz:appended zv=some (n,ms)) :
  EvO X o ⟨tm,hp,nid,df,pn⟩ (.c (.own n (y.map g))) ⟨plainAt w tm,hp,nid,df,pn⟩ (bS (.tmp w) tm):=by
 subst hm
 unfold lapp at hy
 split at hy
 ·rename_i hl
  simp only[sJ] at hy; subst hy
  simp only[Bool.and_eq_true] at hb
  refine .of λcall=>?_
  have h2:X.P.bytesOf e<=1024/\lV X.P e n=true:=⟨Nat.le_of_ble_eq_true hb.1,hb.2⟩
  simp only[cV,ho,hc,ha,hat,jP,ht,hn,hu,hx,hz,hzz,bJ,h2,and_self,if_true,List.length_map,hl,List.map_append]
 cases hy
theorem BeQ {α:Type} {g:α->D} {u y:List α} {o:Oper} {t e:TypeId} {x hh mm:Operand} {v:V} {k k':IntKind} {n:Int} {sz:Nat} (hy:lto u n=some y)
  (ho:o.op=.slice t x none (some hh) (some mm)) (ht:X.P.underlying t=some (.slice e)) (hz:tsz X.P e=some sz) (hx:evT X.P t tm x=some v) (hv:v.toD=some (.list sz (u.map g))) (hi:ev tm hh=some (.c (.d (.int k n)))) (hi':ev tm mm=some (.c (.d (.int k' n)))) :
  EvO X o ⟨tm,hp,nid,df,pn⟩ (.c (.full sz (y.map g))) ⟨tm,hp,nid,df,pn⟩ ⟨cQ o tm,[],[]⟩:=by
 unfold lto at hy
 split at hy
 ·rename_i hb
  simp only[sJ] at hy; subst hy
  refine .of λcall=>?_
  have h1:n.toNat<=(u.map g).length:=by simpa using hb.2
  simp[cV,ho,evR,hx,Ae1 hv,ht,hv,gN,hi,hi',hb.1,AhS,hz,List.map_take,hb.2]
 cases hy
def idiv (k:IntKind) (a b:Int):Option Int:=if b=0 then none else some (k.wrap (a.tdiv b))
def irem (a b:Int):Option Int:=if b=0 then none else some (a.tmod b)
theorem Bi7 {o:Oper} {t u:TypeId} {x z:Operand} {k:IntKind} {a b y:Int} (hy:idiv k a b=some y) (ho:o.op=.binOp .quo t x z u) (hx:evT X.P t tm x=some (.c (.d (.int k a)))) (hz:evT X.P t tm z=some (.c (.d (.int k b)))) :
  EvO X o ⟨tm,hp,nid,df,pn⟩ (.d (.int k y)) ⟨tm,hp,nid,df,pn⟩ ⟨cQ o tm,[],[]⟩:=by
 unfold idiv at hy
 split at hy
 ·cases hy
 rename_i hb
 simp only[sJ] at hy; subst hy
 exact .of λ_=>by simp only[cV,ho,evR,hx,hz,AwG,if_true,AxL,hb,if_false]
theorem Bi8 {o:Oper} {t u:TypeId} {x z:Operand} {k:IntKind} {a b y:Int} (hy:irem a b=some y) (ho:o.op=.binOp .rem t x z u) (hx:evT X.P t tm x=some (.c (.d (.int k a)))) (hz:evT X.P t tm z=some (.c (.d (.int k b)))) :
  EvO X o ⟨tm,hp,nid,df,pn⟩ (.d (.int k y)) ⟨tm,hp,nid,df,pn⟩ ⟨cQ o tm,[],[]⟩:=by
 unfold irem at hy
 split at hy
 ·cases hy
 rename_i hb
 simp only[sJ] at hy; subst hy
 exact .of λ_=>by simp only[cV,ho,evR,hx,hz,AwG,if_true,AxL,hb,if_false]
theorem BiD {o:Oper} {t u:TypeId} {x z:Operand} {fs:Array Field} {xs ys:List D} {b:Bool} (hS:(X.P.stoodInHeld t||X.P.eqGuardType X.P.depth t)=false) (ho:o.op=.binOp .neq t x z u) (hf:X.P.underlying t=some (.struct fs))
  (hx:evT X.P t tm x=some (.c (.d (.agg xs)))) (hz:evT X.P t tm z=some (.c (.d (.agg ys)))) (hq:AzQ X.P fs.toList xs ys=some b) :
  EvO X o ⟨tm,hp,nid,df,pn⟩ (.d (.bool !b)) ⟨tm,hp,nid,df,pn⟩ ⟨cQ o tm,[],[]⟩:=
 .of λ_=>by simp only[cV,ho,evR,hx,hz,AwG,BcK,hf,hS,fJ,if_false,hq]; rfl
theorem BiC {o:Oper} {t u:TypeId} {x z:Operand} {fs:Array Field} {xs ys:List D} {b:Bool} (hS:(X.P.stoodInHeld t||X.P.eqGuardType X.P.depth t)=false) (ho:o.op=.binOp .eql t x z u) (hf:X.P.underlying t=some (.struct fs))
  (hx:evT X.P t tm x=some (.c (.d (.agg xs)))) (hz:evT X.P t tm z=some (.c (.d (.agg ys)))) (hq:AzQ X.P fs.toList xs ys=some b) :
  EvO X o ⟨tm,hp,nid,df,pn⟩ (.d (.bool b)) ⟨tm,hp,nid,df,pn⟩ ⟨cQ o tm,[],[]⟩:=
 .of λ_=>by simp only[cV,ho,evR,hx,hz,AwG,BcK,hf,hS,fJ,if_false,hq]; rfl
theorem Aa3 {o:Oper} {s s1:St} {v:V} {ft:eX} (h:cV X.P AdO s.nid o s=some (.val v s1,ft)):EvO X o s v s1 ft:=
 ⟨0,λ_ _=>wI h _⟩
theorem Bj8 {o:Oper} {s s1:St} {v v':V} {ft:eX} (hv:v=v') (h:EvO X o s v s1 ft):EvO X o s v' s1 ft:=hv▸h
end
end Go.AM
namespace Go.AM
open Go
variable [cU]
end Go.AM
namespace Go.AM
open Go
mutual
inductive Arr where
 |mk (shape:List Int) (cells:List aA)
inductive aA where
 |mk (kind:Int) (n:Int) (box:List Arr)
end
instance:Inhabited Arr:=⟨.mk [] []⟩
instance:Inhabited aA:=⟨.mk 0 0 []⟩
def Arr.shape:Arr->List Int|.mk s _=>s
def Arr.cells:Arr->List aA|.mk _ c=>c
def aA.kind:aA->Int|.mk k _ _=>k
def aA.n:aA->Int|.mk _ n _=>n
def aA.box:aA->List Arr|.mk _ _ b=>b
mutual
def aH:Arr->D
 |.mk sh cs=>.agg [.list 1 (sh.map (D.int .i64)),.list 3 (Ai0 cs)]
def Ai0:List aA->List D
 | []=>[]
 |c::cs=>ApM c::Ai0 cs
def ApM:aA->D
 |.mk k n b=>.agg [.int .i64 k,.int .i64 n,.list 2 (AkZ b)]
def AkZ:List Arr->List D
 | []=>[]
 |a::l=>aH a::AkZ l
end
def aC (c:aA):D:=.agg [.int .i64 c.kind,.int .i64 c.n,.list 2 (c.box.map aH)]
def aI (a:Arr):D:=.agg [.list 1 (a.shape.map (D.int .i64)),.list 3 (a.cells.map aC)]
theorem Al0:∀l:List Arr,AkZ l=l.map aH
 | []=>rfl
 |a::l=>by simp only[AkZ,Al0 l,List.map_cons]
theorem AwZ:∀c:aA,ApM c=aC c
 |.mk k n b=>by simp only[ApM,aC,Al0,aA.kind,aA.n,aA.box]
theorem AiX:∀l:List aA,Ai0 l=l.map aC
 | []=>rfl
 |c::l=>by simp only[Ai0,AiX l,AwZ,List.map_cons]
theorem qU:∀a:Arr,aH a=aI a
 |.mk sh cs=>by simp only[aH,aI,AiX,Arr.shape,Arr.cells]
structure BnL where
 kind:Int
 text:Str
 lit:Arr
 at_:Int
 deriving Inhabited
structure BnK where
 err:Int
 at_:Int
 why:Int
 deriving Inhabited
inductive Node where
 |mk (kind op:Int) (name:Str) (lit:Arr) (kids:List Node) (at_:Int)
instance:Inhabited Node:=⟨.mk 0 0 [] (.mk [] []) [] 0⟩
def Node.kind:Node->Int|.mk k _ _ _ _ _=>k
def Node.op_:Node->Int|.mk _ o _ _ _ _=>o
def Node.name:Node->Str|.mk _ _ n _ _ _=>n
def Node.lit:Node->Arr|.mk _ _ _ l _ _=>l
def Node.kids:Node->List Node|.mk _ _ _ _ k _=>k
def Node.at_:Node->Int|.mk _ _ _ _ _ a=>a
mutual
def rQ:Node->D
 |.mk k o n l ks a=>.agg [.int .i64 k,.int .i64 o,.str n,.list 1 (l.shape.map (D.int .i64)),.list 3 (l.cells.map aC),.list 7 (Ai1 ks),.int .i64 a]
def Ai1:List Node->List D
 | []=>[]
 |n::l=>rQ n::Ai1 l
end
def encNode (n:Node):D:=.agg [.int .i64 n.kind,.int .i64 n.op_,.str n.name,.list 1 (n.lit.shape.map (D.int .i64)),.list 3 (n.lit.cells.map aC),.list 7 (n.kids.map rQ),.int .i64 n.at_]
theorem AiY:∀l:List Node,Ai1 l=l.map rQ
 | []=>rfl
 |n::l=>by simp only[Ai1,AiY l,List.map_cons]
theorem wH:∀n:Node,rQ n=encNode n
 |.mk k o n l ks a=>by simp only[rQ,encNode,AiY,Node.kind,Node.op_,Node.name,Node.lit,Node.kids,Node.at_]
structure BnM where
 set_:Str
 origin:Int
 expr:Node
 deriving Inhabited
structure BkR where
 verbs:List Str
 adverbs:List Str
 behind:List Str
 outer:Str
 power:Str
 open_:Str
 close:Str
 left:Str
 right:Str
 minus:Str
 quote:Str
 trains:Bool
 lone:Bool
 square:Bool
 deriving Inhabited
def kN {α:Type} (sz:Nat) (g:α->D) (l:List α):D:=.list sz (l.map g)
end Go.AM
namespace Go.AM
open Go
variable [cU]
theorem AqW {K:Col} {w w':World} (h:Go.RowKit.Below w.heap.size w w'):Step iD K w K w':=
 ⟨h.os,h.tape,h.output,h.size,λb hb _=>h.block b hb,λb off hb _=>
  ⟨by simp[World.cell?,h.block b hb],by simp[World.frozen?,h.block b hb],rfl⟩,λb off hx=>by
   obtain⟨u,hu⟩:=Option.isSome_iff_exists.1 hx.1
   have h1:w'.cell? (ad b off)=w.cell? (ad b off):=by simp[World.cell?,h.block b (block_lt hu)]
   have h2:w'.frozen? (ad b off)=w.frozen? (ad b off):=by simp[World.frozen?,h.block b (block_lt hu)]
   exact⟨by rw[h1]; exact hx.1,by rw[h2]; exact hx.2⟩⟩
theorem Au7 {P:Program} {f:Nat} {args:List C} {lh:List (List C)} {d:D}
  (h:∀K μ w vs,aZ K μ w args vs->sR K w->Ak9 K w->Calls P f vs.toArray w λe w'=>(∃u,e=.returned u/\Rep K w' d u)/\Go.RowKit.Below w.heap.size w w') :
  pO P f args lh (.ret (.d d) lh):=by
 intro K μ w vs hr hi hh hb hgl
 refine (h K μ w vs hr hb hgl).mono ?_
 rintro e w' ⟨⟨u,rfl,hu⟩,hbw⟩
 have hst:=AqW (K:=K) hbw
 refine⟨K,μ,hst,λblk off hl=>hb _ _ (Nat.le_trans hbw.size hl),λ_ _=>rfl,Nat.le_refl _,?_,by simp[lG],by simp[V.ids,C.ids],_,rfl,hu⟩
 intro i cells hic
 refine⟨(hh i cells hic).1,(hh i cells hic).2.step (W:=λ_=>False) ⟨hst.os,hst.tape,hst.output,hst.size,λb hb _=>hbw.block b hb,λb off hb _=>⟨by simp[World.cell?,hbw.block b hb],by simp[World.frozen?,hbw.block b hb],rfl⟩,hst.ex⟩ sM sM sM⟩
end Go.AM
namespace Go.AM
open Go
variable [cU]
def AeW:List D->Option (List Int)
 | []=>some []
 |.int .i64 n::r=>(AeW r).map (n::·)
 |_::_=>none
omit [cU] in
theorem Ai9:∀{ds:List D} {l:List Int},AeW ds=some l->ds=l.map (D.int .i64)
 | [],l,h=>by simp only[AeW,sJ] at h; subst h; rfl
 |d::ds,l,h=>by
  unfold AeW at h
  split at h
  ·simp_all
  ·rename_i n r e
   simp only[List.cons.injEq] at e
   obtain⟨rfl,rfl⟩:=e
   obtain⟨q,hq,rfl⟩:=Option.map_eq_some_iff.1 h
   rw[Ai9 hq]; rfl
  simp at h
omit [cU] in
theorem AeX:∀l:List Int,AeW (l.map (D.int .i64))=some l
 | []=>rfl
 |s::l=>by simp only[List.map_cons,AeW,AeX l]; rfl
theorem AtE {K:Col} {w:World}:∀{l:List Int} {blk off:Nat},iM K w 1 blk off (l.map (D.int .i64))->∀(j:Nat) s,l[j]?=some s->w.cell? ⟨blk,off+j,none⟩=some (.int .i64 s)
 |s::l,blk,off,h,j,t,ht=>by
  simp only[List.map_cons,iM] at h
  obtain⟨⟨v,hv,hz,hc⟩,hr⟩:=h
  cases j with
  |zero=>
   simp only[List.getElem?_cons_zero,sJ] at ht; subst ht
   simp only[Rep] at hv; subst hv
   exact (hc 0 _ rfl).2
  |succ j=>
   have:=AtE hr j t (by simpa using ht)
   rw[show off+(j+1)=off+1+j from by omega]
   exact this
omit [cU] in
theorem AjR (l:List Int):fL (l.map (D.int .i64))=l.map λn=>C.d (.int .i64 n):=by
 induction l with
 |nil=>rfl
 |cons n l ih=>simp only[fL,List.map_cons,List.flatMap_cons] at ih ⊢; rw[ih]; rfl
theorem ArA {P:Program} {f:Nat} {args:List C} {lh:List (List C)} (ns:List Int)
  (h:∀K μ w vs,aZ K μ w args vs->sR K w->Ak9 K w->Calls P f vs.toArray w λe w'=>Go.RowKit.Below w.heap.size w w'/\∃v,e=.returned v /\
   ((ns=[]/\Bj5 v)\/(ns≠[]/\∃T,w'.ownsRow w.heap.size T 1 v ns.length (ns.map (Value.int .i64))))) :
  pO P f args lh (.ret (.c (.arr lh.length ns.length 1)) (lh++[[.seq 1 (ns.map (D.int .i64))]])):=by
 intro K μ w vs hr hi hh hb hgl
 refine (h K μ w vs hr hb hgl).mono ?_
 rintro e w' ⟨hbw,v,rfl,hv⟩
 have hst:=AqW (K:=K) hbw
 have hstF:Step (λ_=>False) K w K w':=⟨hst.os,hst.tape,hst.output,hst.size,λb hb _=>hbw.block b hb,λb off hb _=>⟨by simp[World.cell?,hbw.block b hb],by simp[World.frozen?,hbw.block b hb],rfl⟩,hst.ex⟩
 have hold:∀{i:Nat} {cells:List C},lh[i]?=some cells->lF K μ w' i cells:=λhic=>(hh _ _ hic).2.step (W:=λ_=>False) hstF sM sM sM
 rcases hv with ⟨rfl,hv⟩|⟨hne,T,hl,hv⟩
 ·refine⟨K,μ,hst,λblk off hl=>hb _ _ (Nat.le_trans hbw.size hl),λ_ _=>rfl,sM,?_,by simp[lG],by simp[V.ids,C.ids],_,rfl,.inl ⟨rfl,hv⟩⟩
  intro i cells hic
  rcases Nat.lt_or_ge i lh.length with hlt|hge
  ·rw[List.getElem?_append_left hlt] at hic
   exact⟨λc hc j hj=>by have:=(hh i cells hic).1 c hc j hj; simp; omega,hold hic⟩
  rw[List.getElem?_append_right hge] at hic
  have:i-lh.length=0:=by
   rcases Nat.eq_zero_or_pos (i-lh.length) with h0|h0
   ·exact h0
   rw[List.getElem?_eq_none (by simp; omega)] at hic; simp at hic
  rw[this] at hic
  simp only[List.getElem?_cons_zero,sJ] at hic
  subst hic
  exact⟨by simp[C.ids],.inl (.mk 1 oM)⟩
 rcases hv with ⟨_,h0⟩|⟨g,cap,cur,rfl,hg,hblk,hnc,hcm,hsz,hcur⟩
 ·exact absurd (List.length_eq_zero_iff.1 h0) hne
 have hgs:g<w'.heap.size:=by
  rcases Nat.lt_or_ge g w'.heap.size with h|h
  ·exact h
  rw[Array.getElem?_eq_none h] at hblk; simp at hblk
 have hcell:∀i,w'.cell? (ad g i)=cur[i]?:=λi=>by simp[World.cell?,hblk]
 have hfz:∀i,w'.frozen? (ad g i)=false:=λi=>by simp[World.frozen?,hblk]
 have hst':Step (λ_=>False) K w (gS K g λ_=>.blk lh.length) w':=⟨hst.os,hst.tape,hst.output,hst.size,λb hb _=>hbw.block b hb,λb off hb _=>⟨by simp[World.cell?,hbw.block b hb],by simp[World.frozen?,hbw.block b hb],by simp only[gS]; rw[if_neg oM]⟩,hst.ex⟩
 refine⟨gS K g λ_=>.blk lh.length,λi=>if i=lh.length then g else μ i,⟨hst'.os,hst'.tape,hst'.output,hst'.size,λb hb _=>hst'.block b hb sM,λb off hb _=>hst'.cell b off hb sM,hst'.ex⟩,?_,λi hi=>by simp only; rw[if_neg oM],sM,?_,by simp[lG],by simp[V.ids,C.ids],_,rfl,?_⟩
 ·intro blk off hl
  simp only[gS]
  rw[if_neg oM]
  exact hb _ _ (Nat.le_trans hbw.size hl)
 ·intro i cells hic
  rcases Nat.lt_or_ge i lh.length with hlt|hge
  ·rw[List.getElem?_append_left hlt] at hic
   refine⟨λc hc j hj=>by have:=(hh i cells hic).1 c hc j hj; simp; omega,?_⟩
   have h1:=(hh _ _ hic).2.step (W:=λ_=>False) hst' sM sM sM
   exact lF.mu (if_neg oM) (λc hc j hj=>by
    have:=(hh i cells hic).1 c hc j hj
    exact if_neg oM) h1
  rw[List.getElem?_append_right hge] at hic
  have h0:i=lh.length:=by
   rcases Nat.eq_zero_or_pos (i-lh.length) with h0|h0
   ·omega
   rw[List.getElem?_eq_none (by simp; omega)] at hic; simp at hic
  subst h0
  simp only[Nat.sub_self,List.getElem?_cons_zero,sJ] at hic
  subst hic
  refine⟨by simp[C.ids],.inr ⟨λoff _=>by simp[gS],by simpa using hgs,.inl ⟨rfl,?_,?_⟩⟩⟩
  ·intro k c hk _
   simp only[fK] at hk
   rw[AjR,List.getElem?_map] at hk
   obtain⟨n,hn,rfl⟩:=Option.map_eq_some_iff.1 hk
   refine⟨.int .i64 n,?_,rfl,by simp only[if_true]; exact hfz k,rfl,sM⟩
   simp only[if_true]
   rw[hcell k]
   have hkl:k<ns.length:=by
    rcases Nat.lt_or_ge k ns.length with h|h
    ·exact h
    rw[List.getElem?_eq_none h] at hn; simp at hn
   have:(cur.toList.take (ns.length*1))[k]?=some (Value.int .i64 n):=by rw[hcur,List.getElem?_map,hn]; rfl
   rw[List.getElem?_take_of_lt oM] at this
   simpa using this
  intro sz ds e
  simp only[List.cons.injEq,C.seq.injEq,and_true] at e
  obtain⟨rfl,rfl⟩:=e
  refine⟨oM,λd hd=>?_⟩
  obtain⟨n,_,rfl⟩:=List.mem_map.1 hd
  rfl
 refine .inr ⟨?_,cap,sM,⟨hnc,by simp only[maxLen] at hcm; omega⟩,λj hj=>?_⟩
 ·exact List.length_pos_iff.2 hne
 simp only[if_true]
 exact⟨by rw[hcell j,Array.getElem?_eq_getElem oM]; rfl,hfz j⟩
end Go.AM
namespace Go.AM
open Go Go.Proofs Go.Shelf Go.RowKit Go.Lib
theorem AiL {P:Program} {w:World} {ops:Array Oper} {rest:List Oper} {o:Oper} {a:Act} {Q:Exit->Act->World->Prop} (hgd:o.guard=none) (s x:Operand) (t:TypeId)
  (ho:o.op=.call { callee:=.builtin .append,args:=#[s,x],argTypes:=#[t,t] })
  (e:TypeId) (i:TypeInfo) (ht:P.underlying t=some (.slice e)) (hi:P.info? e=some i) (b:Addr) (hs:a.eval s=.slice (some b) 0 0) (d:Addr) (c:Nat) (hx:a.eval x=.slice (some d) 0 c)
  (h:wpList P ops Q rest (a.put o.dst (.slice (some b) 0 0)) w):wpList P ops Q (o::rest) a w:=by
 refine wpList_plain hgd λK hK=>?_
 have hf:=run_firstCells_some (P:=P) w i.size 0 d 0 c [] sM sM
 have hrun:(Builtin.append_ #[t,t] o.type #[.slice (some b) 0 0,.slice (some d) 0 c]).run P w=.ok (.slice (some b) 0 0) w:=by
  simp[Builtin.append_,run_underlying ht,sizeOf,typeInfo,hi,Builtin.lenOf,hf,Go.storeCells,Result.andThen]
 unfold Oper.wp
 simp[execOp,ho,resolve,invoke,builtin,hs,hx,hrun,Result.andThen]
 exact hK _ _ h
variable {P:Program} {ρ:Ren}
set_option maxHeartbeats 2000000 in
set_option maxRecDepth 100000 in
theorem An8 (L:SlLaysE0.n41 P ρ) (i0:TypeInfo) (hi:P.info? (ρ.t 23)=some i0) (a:Addr) (c:Nat) (w:World) :
  Calls P (ρ.f 41) #[.slice (some a) 0 c] w λe w'=>(∃a',e=.returned (.slice (some a') 0 0))/\Below w.heap.size w w':=by
 have mixed:=L.mixed; have t4:=L.t4; have a4:=L.a4; have z4:=L.z4; have v4:=L.v4; have t22:=L.t22; have a22:=L.a22; have z22:=L.z22; have v22:=L.v22
 have q22:∀(w:World) (a:Option Addr) (n c n' c':Nat),(binOp .eql (ρ.t 22) (.slice a n c) (.slice none n' c')).run P w=.ok (.bool a.isNone) w:=λw a n c n' c'=>Lib.run_eql_slice_nil w _ _ a n c n' c' L.t22
 have u22:∀w,Sem.run P (underlying (ρ.t 22)) w=.ok (TypeDesc.slice (ρ.t 23)) w:=run_underlying t22
 have z23:∀w,(Go.sizeOf (ρ.t 23)).run P w=.ok i0.size w:=λw=>by simp[sizeOf,typeInfo,hi]
 obtain⟨_,_,FG⟩:=L.f41
 go_enter FG,SlBodyN.n41_ntmps ρ
 go_wp2_with (at_builtin; refine AiL rfl _ _ (ρ.t 22) rfl (ρ.t 23) i0 t22 hi ⟨w.heap.size,0,none⟩ rfl a c rfl ?_)
 go_wp2
 go_ret
 exact⟨⟨_,rfl⟩,(Below.refl _ w).alloc (Nat.le_refl _) _⟩
end Go.AM
namespace Go.AM
open Go
variable [cU]
def AhY:Call:=λ_ args lh=>match args with
 | [.d (.list 1 ds)]=>(AeW ds).bind λl=>if l.length<=4294967296 then some (.ret (.c (.arr lh.length l.length 1)) (lh++[[.seq 1 (l.map (D.int .i64))]])) else none
 |_=>none
theorem BeI {P:Program} {ρ:Shelf.Ren} (L:Go.Proofs.SlLaysE0.n41 P ρ) (i0:TypeInfo) (z:Value) (hi:P.info? (ρ.t 23)=some i0) (hz0:i0.zero=some z) (hz1:i0.size=1) (hz2:i0.bytes=8) (hzs:z.cells.size=1)
  {args:List C} {lh:List (List C)} {r:aF} (h:AhY (ρ.f 41) args lh=some r):pO P (ρ.f 41) args lh r:=by
 unfold AhY at h
 split at h
 ·rename_i ds
  obtain⟨l,hl,h2⟩:=Option.bind_eq_some_iff.1 h
  clear h
  have h:=h2; clear h2
  have hds:=Ai9 hl; subst hds
  split at h
  ·rename_i hn
   simp only[sJ] at h; subst h
   refine ArA l λK μ w vs hr hbd hgl=>?_
   cases hr with
   |cons hc hn'=>
    cases hn'
    rename_i v
    have z23:∀w,(Go.sizeOf (ρ.t 23)).run P w=.ok 1 w:=λw=>by simp[sizeOf,typeInfo,hi,hz1]
    simp only[RepC,Rep] at hc
    rcases hc with ⟨he,rfl|⟨ea,ecap,rfl⟩⟩|⟨blk,off,cap,rfl,hcap,he⟩
    ·have:l=[]:=by simpa using he
     subst this
     refine (Go.Proofs.AnyE.slices_Clone_nil L 0 0 w).mono ?_
     rintro e w' ⟨rfl,rfl⟩
     exact⟨Go.RowKit.Below.refl _ _,_,rfl,.inl ⟨rfl,.inl rfl⟩⟩
    ·have:l=[]:=by simpa using he
     subst this
     refine (An8 L i0 hi ea ecap w).mono ?_
     rintro e w' ⟨⟨a',rfl⟩,hb⟩
     exact⟨hb,_,rfl,.inl ⟨rfl,.inr ⟨_,rfl⟩⟩⟩
    rcases List.eq_nil_or_concat l with rfl|⟨l',x,hlx⟩
    ·refine (An8 L i0 hi (ad blk off) cap w).mono ?_
     rintro e w' ⟨⟨a',rfl⟩,hb⟩
     exact⟨hb,_,rfl,.inl ⟨rfl,.inr ⟨_,rfl⟩⟩⟩
    have hne:l≠[]:=by rw[hlx]; simp
    have hcell:=AtE he
    have:=Go.Proofs.AnyE.slices_Clone L i0 z 1 8 hi hz0 hz1 hz2 hzs oM z23 blk off l.length cap (l.map (Value.int .i64)) w sM (by simp[maxLen]; omega) oM
     (λj u hu=>by
      rw[List.getElem?_map] at hu
      obtain⟨n,hn,rfl⟩:=Option.map_eq_some_iff.1 hu
      exact hcell j n hn) (λu hu=>by
      obtain⟨n,_,rfl⟩:=List.mem_map.1 hu
      rfl)
    simp only[List.length_map] at this ⊢
    refine this.mono ?_
    rintro e w' ⟨v',rfl,ho,_,hb⟩
    exact⟨hb,_,rfl,.inr ⟨hne,_,ho⟩⟩
  simp at h
 simp at h
omit [cU] in
theorem zX {w:World} {q g:Nat} {d:Array Int} {c:Array Value} {e:TypeId} {fr:Nat×Nat} (h:w.heap[g]?=some (.cells c e fr)) (b:Nat) :
  (Sort.putRow (Value.int .i64) (Sort.ahead w q) g 0 d).heap[b]?=if g=b then some (.cells (Sort.putCells (Value.int .i64) 0 d c) e fr) else w.heap[b]?:=by
 simp only[Sort.putRow,Sort.mapBlock,Sort.ahead,Array.getElem?_modify]
 by_cases hb:g=b
 ·subst hb; simp[h,Sort.onCells]
 simp[hb]
omit [cU] in
theorem AhK {w:World} {q g:Nat} {d:Array Int} {c:Array Value} {e:TypeId} {fr:Nat×Nat} (h:w.heap[g]?=some (.cells c e fr)) (i:Nat) :
  (Sort.putRow (Value.int .i64) (Sort.ahead w q) g 0 d).cell? (ad g i)=(w.cell? (ad g i)).map λx=>if i<d.size then Value.int .i64 d[i]! else x:=by
 simp only[World.cell?,zX h,if_true,h]
 simp[Sort.putCells,Array.getElem?_mapIdx]
omit [cU] in
theorem AdP {w:World} {q g:Nat} {d:Array Int} {c:Array Value} {e:TypeId} {fr:Nat×Nat} (h:w.heap[g]?=some (.cells c e fr)) (b i:Nat) :
  (Sort.putRow (Value.int .i64) (Sort.ahead w q) g 0 d).frozen? (ad b i)=w.frozen? (ad b i):=by
 simp only[World.frozen?,zX h]
 by_cases hb:g=b
 ·subst hb; simp[h]
 simp[hb]
theorem Ad6 {K K':Col} {w:World} {q g:Nat} {d:Array Int} {c:Array Value} {e:TypeId} {fr:Nat×Nat} (h:w.heap[g]?=some (.cells c e fr)) {W:Tag->Prop} (hW:∀off,W (K g off)) (hK:∀b off,b≠g->K' b off=K b off) :
  Step W K w K' (Sort.putRow (Value.int .i64) (Sort.ahead w q) g 0 d):=by
 refine⟨rfl,rfl,rfl,by simp[Sort.putRow,Sort.mapBlock,Sort.ahead],λb hb hn=>?_,λb off hb hn=>?_,λb off ha=>?_⟩
 ·have:g≠b:=λe=>hn 0 (e▸hW 0)
  rw[zX h,if_neg this]
 ·have:g≠b:=λe=>hn (e▸hW off)
  refine⟨?_,AdP h _ _,hK _ _ (Ne.symm this)⟩
  simp only[World.cell?,zX h,if_neg this]
 refine⟨?_,by rw[AdP h]; exact ha.2⟩
 by_cases hb:g=b
 ·subst hb
  rw[AhK h]
  obtain⟨u,hu⟩:=Option.isSome_iff_exists.1 ha.1
  rw[hu]; rfl
 have:(Sort.putRow (Value.int .i64) (Sort.ahead w q) g 0 d).cell? (ad b off)=w.cell? (ad b off):=by simp only[World.cell?,zX h,if_neg hb]
 rw[this]; exact ha.1
theorem AtH {K:Col} {μ:Nat->Nat} {w:World} {b:Nat} {l:List Int} (hne:l≠[]) (h:lF K μ w b [.seq 1 (l.map (D.int .i64))]) :
  (∀off,K (μ b) off=.blk b)/\(∃c e fr,w.heap[μ b]?=some (.cells c e fr))/\Sort.Holds (Value.int .i64) w (μ b) 0 l.toArray:=by
 have hnr:¬Ac3 [.seq 1 (l.map (D.int .i64))]:=by
  intro hr
  obtain⟨sz,e,_⟩:=mP hr
  simp only[List.cons.injEq,C.seq.injEq,and_true] at e
  exact hne (by simpa using e.2)
 have hcells:=(h.seq).1
 rw[AjR] at hcells
 have hold:∀j (n:Int),l[j]?=some n->w.cell? (ad (μ b) j)=some (.int .i64 n)/\w.frozen? (ad (μ b) j)=false:=by
  intro j n hj
  obtain⟨v,h1,_,h2,h3,_⟩:=hcells j (.d (.int .i64 n)) (by rw[List.getElem?_map,hj]; rfl) sM
  simp only[RepC,Rep] at h3
  subst h3
  exact⟨h1,h2⟩
 refine⟨λoff=>(h.old hnr).1 off (by cases off<;>simp),?_,λj hj=>?_⟩
 ·cases l with
  |nil=>exact absurd rfl hne
  |cons x l=>
   obtain⟨c,e,fr,hc,_⟩:=Sort.cells_of_cell? (hold 0 x rfl).1
   exact⟨c,e,fr,hc⟩
 have hj':j<l.length:=by simpa using hj
 have:=hold j l[j] (by simp[hj'])
 simpa[hj',getElem!_pos] using this
def Ad8:Call:=λ_ args lh=>match args with
 | [.arr b n 1]=>match lh[b]? with
  |some [.seq 1 ds]=>(AeW ds).bind λl=>if l.length=n/\n<=4294967296 then some (.ret (.tuple []) (lh.set b [.seq 1 (l.reverse.map (D.int .i64))])) else none
  |_=>none
 |_=>none
theorem Ba8 {P:Program} {ρ:Shelf.Ren} (L:Go.Proofs.SlLaysE.n35 P ρ) {args:List C} {lh:List (List C)} {r:aF} (h:Ad8 (ρ.f 35) args lh=some r):pO P (ρ.f 35) args lh r:=by
 unfold Ad8 at h
 split at h
 ·rename_i b n
  split at h
  ·rename_i ds hlb
   obtain⟨l,hl,h2⟩:=Option.bind_eq_some_iff.1 h
   clear h
   have h:=h2; clear h2
   have hds:=Ai9 hl; subst hds
   split at h
   ·rename_i hn
    obtain⟨hln,hn⟩:=hn
    subst hln
    simp only[sJ] at h; subst h
    intro K μ w vs hr hi hh hb hgl
    have hblt:b<lh.length:=(List.getElem?_eq_some_iff.1 hlb).1
    cases hr with
    |cons hc hn'=>
     cases hn'
     rename_i v
     simp only[RepC] at hc
     rcases List.eq_nil_or_concat l with rfl|⟨l',x,hlx⟩
     ·obtain⟨a,cap,rfl⟩:=hc.one
      refine (Go.Proofs.AnyE.slices_Reverse_empty L a cap w).mono ?_
      rintro e w' ⟨rfl,rfl⟩
      refine⟨K,μ,Step.refl _ _ _,hb,λ_ _=>rfl,sM,?_,by simp[lG],by simp[V.ids],_,rfl,⟨[],rfl,.nil⟩⟩
      intro i cells hic
      rw[List.getElem?_set] at hic
      split at hic
      ·rename_i hib
       subst hib
       simp only[hblt,if_true,sJ] at hic
       subst hic
       have:=hh _ _ hlb
       exact⟨by simp[C.ids],this.2⟩
      have:=hh _ _ hic
      exact⟨by simpa using this.1,this.2⟩
     have hne:l≠[]:=by rw[hlx]; simp
     obtain⟨htag,⟨c,e,fr,hcs⟩,hH⟩:=AtH hne (hh _ _ hlb).2
     obtain⟨cap,rfl,hcap,hal⟩:=hc.based (List.length_pos_iff.2 hne)
     refine (Go.Proofs.AnyE.slices_Reverse L (Value.int .i64) (λ_=>rfl) (μ b) 0 cap l w hH oM).mono ?_
     rintro e w' ⟨rfl,q,rfl⟩
     have hst:Step iD K w K (Sort.putRow (Value.int .i64) (Sort.ahead w q) (μ b) 0 l.reverse.toArray):=Ad6 hcs (λoff=>by rw[htag]; simp[iD]) λ_ _ _=>rfl
     have hst2:Step (λt=>t=.blk b) K w K (Sort.putRow (Value.int .i64) (Sort.ahead w q) (μ b) 0 l.reverse.toArray):=Ad6 hcs htag λ_ _ _=>rfl
     refine⟨K,μ,hst,λblk off hl=>hb _ _ (Nat.le_trans hst.size hl),λ_ _=>rfl,sM,?_,by simp[lG],by simp[V.ids],_,rfl,⟨[],rfl,.nil⟩⟩
     intro i cells hic
     rw[List.getElem?_set] at hic
     split at hic
     ·rename_i hib
      subst hib
      simp only[hblt,if_true,sJ] at hic
      subst hic
      refine⟨by simp[C.ids],.inr ⟨λoff _=>htag off,?_,.inl ⟨rfl,?_,?_⟩⟩⟩
      ·have:μ b<w.heap.size:=by
        rcases Nat.lt_or_ge (μ b) w.heap.size with h|h
        ·exact h
        rw[Array.getElem?_eq_none h] at hcs; simp at hcs
       exact Nat.lt_of_lt_of_le this hst.size
      ·intro k c' hk _
       simp only[fK] at hk
       rw[AjR,List.getElem?_map] at hk
       obtain⟨m,hm,rfl⟩:=Option.map_eq_some_iff.1 hk
       have hkl:k<l.length:=by
        rcases Nat.lt_or_ge k l.reverse.length with h|h
        ·simpa using h
        rw[List.getElem?_eq_none h] at hm; simp at hm
       obtain⟨h1,h2⟩:=hH k (by simpa using hkl)
       simp only[Nat.zero_add] at h1 h2
       refine⟨.int .i64 m,?_,rfl,by rw[AdP hcs]; exact h2,rfl,sM⟩
       rw[AhK hcs,h1]
       have hm':l.reverse.toArray[k]?=some m:=by simpa using hm
       simp only[Option.map_some,sJ]
       rw[if_pos (by simpa using hkl),getElem!_def,hm']
      intro sz ds e
      simp only[List.cons.injEq,C.seq.injEq,and_true] at e
      obtain⟨rfl,rfl⟩:=e
      refine⟨oM,λd hd=>?_⟩
      obtain⟨n,_,rfl⟩:=List.mem_map.1 hd
      rfl
     rename_i hib
     have:=hh _ _ hic
     exact⟨by simpa using this.1,this.2.step (W:=λt=>t=.blk b) hst2 sM (by simp; omega) sM⟩
   simp at h
  simp at h
 simp at h
omit [cU] in
theorem AyB {K:Col} {w:World} {blk:Nat}:∀(l:List Int) (off:Nat),(∀j n,l[j]?=some n->K blk (off+j)=.ro/\w.cell? (ad blk (off+j))=some (.int .i64 n))->iM K w 1 blk off (l.map (D.int .i64))
 | [],_,_=>trivial
 |x::l,off,h=>by
  simp only[List.map_cons,iM]
  refine⟨⟨.int .i64 x,rfl,rfl,λi v hv=>?_⟩,AyB l (off+1) λj n hj=>?_⟩
  ·cases i with
   |zero=>
    simp only[Value.cells,List.getElem?_cons_zero,sJ] at hv
    subst hv
    exact h 0 x rfl
   |succ i=>simp[Value.cells] at hv
  have:=h (j+1) n (by simpa using hj)
  rwa [show off+1+j=off+(j+1) from by omega]
def AeM:Call:=λ_ args lh=>match args with
 | [.arr b n 1,.d (.int .i64 i),.d (.int .i64 j)]=>match lh[b]? with
  |some [.seq 1 ds]=>(AeW ds).bind λl=>if l.length=n/\0<n/\n<=4294967296/\0<=i/\i<=j/\j<=n then some (.ret (.c (.d (.list 1 ((l.take i.toNat++l.drop j.toNat).map (D.int .i64))))) (lh.set b [.seq 1 []])) else none
  |_=>none
 |_=>none
theorem BcF {P:Program} {ρ:Shelf.Ren} (L:Go.Proofs.SlLaysE.n45 P ρ) (v23:∀w,(zeroValue (ρ.t 23)).run P w=.ok (.int .i64 0) w) (i0:TypeInfo) (hi:P.info? (ρ.t 23)=some i0) (hz1:i0.size=1)
  {args:List C} {lh:List (List C)} {r:aF} (h:AeM (ρ.f 45) args lh=some r):pO P (ρ.f 45) args lh r:=by
 unfold AeM at h
 split at h
 ·rename_i b n i j
  split at h
  ·rename_i ds hlb
   obtain⟨l,hl,h2⟩:=Option.bind_eq_some_iff.1 h
   clear h
   have h:=h2; clear h2
   have hds:=Ai9 hl; subst hds
   split at h
   ·rename_i hn
    obtain⟨hln,hn0,hn,hi0,hij,hjn⟩:=hn
    subst hln
    simp only[sJ] at h; subst h
    intro K μ w vs hr hi' hh hb hgl
    have hblt:b<lh.length:=(List.getElem?_eq_some_iff.1 hlb).1
    obtain⟨i,rfl⟩:=Int.eq_ofNat_of_zero_le hi0
    obtain⟨j,rfl⟩:=Int.eq_ofNat_of_zero_le (Int.le_trans hi0 hij)
    simp only[Int.toNat_natCast] at *
    cases hr with
    |cons hc hn'=>
    cases hn' with
    |cons h1 hn'=>
    cases hn' with
    |cons h2 hn'=>
     cases hn'
     rename_i v v1 v2
     simp only[RepC,Rep] at hc h1 h2
     subst h1 h2
     have hne:l≠[]:=List.length_pos_iff.1 hn0
     obtain⟨htag,⟨c,e,fr,hcs⟩,hH⟩:=AtH hne (hh _ _ hlb).2
     obtain⟨cap,rfl,hcap,hal⟩:=hc.based hn0
     refine (Go.Proofs.AnyE.slices_Delete L (Value.int .i64) (λ_=>rfl) 0 v23 i0 hi hz1 (μ b) 0 cap i j l.toArray w hH (by simpa using hcap.1) hcap.2 oM (by simp; omega)).mono ?_
     rintro e w' ⟨rfl,q,rfl⟩
     have hst:Step iD K w (gS K (μ b) λ_=>.ro) (Sort.putRow (Value.int .i64) (Sort.ahead w q) (μ b) 0 (l.take i++l.drop j++List.replicate (j-i) 0).toArray):=
      Ad6 hcs (λoff=>by rw[htag]; simp[iD]) λb' off hb'=>by simp[gS,hb']
     have hst2:Step (λt=>t=.blk b) K w (gS K (μ b) λ_=>.ro) (Sort.putRow (Value.int .i64) (Sort.ahead w q) (μ b) 0 (l.take i++l.drop j++List.replicate (j-i) 0).toArray):=
      Ad6 hcs htag λb' off hb'=>by simp[gS,hb']
     have hμ:μ b<w.heap.size:=by
      rcases Nat.lt_or_ge (μ b) w.heap.size with h|h
      ·exact h
      rw[Array.getElem?_eq_none h] at hcs; simp at hcs
     refine⟨_,μ,hst,λblk off hl=>?_,λ_ _=>rfl,sM,?_,by simp[lG],by simp[V.ids,C.ids],_,rfl,?_⟩
     ·have h2:=Nat.le_trans hst.size hl
      simp only[gS]
      rw[if_neg oM]
      exact hb _ _ h2
     ·intro i' cells hic
      rw[List.getElem?_set] at hic
      split at hic
      ·rename_i hib
       subst hib
       simp only[hblt,if_true,sJ] at hic
       subst hic
       exact⟨by simp[C.ids],.inl (.mk 1 oM)⟩
      rename_i hib
      have:=hh _ _ hic
      exact⟨by simpa using this.1,this.2.step (W:=λt=>t=.blk b) hst2 sM (by simp; omega) sM⟩
     have hll:(l.take i++l.drop j).length=l.toArray.size-(j-i):=by simp; omega
     refine .inr ⟨μ b,0,cap,?_,?_,AyB _ 0 λk m hk=>⟨by simp[gS],?_⟩⟩
     ·rw[List.length_map,hll]
     ·rw[List.length_map]
      have:=hcap.1
      simp; omega
     have hkl:k<(l.take i++l.drop j).length:=(List.getElem?_eq_some_iff.1 hk).1
     have hkl2:k<l.length:=by simp at hkl; omega
     obtain⟨h1,h2⟩:=hH k (by simpa using hkl2)
     simp only[Nat.zero_add] at h1 h2 ⊢
     rw[AhK hcs,h1]
     have hm':(l.take i++l.drop j++List.replicate (j-i) 0).toArray[k]?=some m:=by
      simp only[List.getElem?_toArray]
      rw[List.getElem?_append_left hkl]; exact hk
     simp only[Option.map_some,sJ]
     rw[if_pos (by simp at hkl ⊢; omega),getElem!_def,hm']
   simp at h
  simp at h
 simp at h
end Go.AM
namespace Go.AM.Run
open Go Go.Proofs Go.RowKit
def AmU (b:Bool):Int:=if b then 1 else 0
def heldI (op a b:Int):Option Int:=
 if op=29 then some (AmU (decide (a<b))) else if op=30 then some (AmU (decide (b<a))) else if op=31 then some (AmU (decide (a<=b))) else if op=32 then some (AmU (decide (b<=a)))
 else if op=27 then some (AmU (a==b)) else if op=28 then some (AmU (!(a==b))) else none
theorem Ab7 (b:Bool) (w:World):Calls Tryz.prog 173 #[.bool b] w λe w'=>e=.returned (.int .i64 (AmU b))/\w'=w:=by
 cases b
 all_goals
  go_enter Tryz.func173,Tryz.ntmps173
  go_wp2
  all_goals (go_ret; exact⟨rfl,rfl⟩)
theorem BjC (a b:Int) (w:World):Calls Tryz.prog 174 #[.int .i64 29,.int .i64 a,.int .i64 b] w λe w'=>e=.returned (.int .i64 (AmU (decide (a<b))))/\Below w.heap.size w w':=by
 go_enter Tryz.func174,Tryz.ntmps174
 go_wp2_with (go_at_call 173; refine (Ab7 _ _).mono ?_; rintro e w' ⟨rfl,rfl⟩)
 all_goals first|go_wall|(go_ret; refine⟨by first|rfl|simp,?_⟩; go_grown)
theorem BjD (a b:Int) (w:World):Calls Tryz.prog 174 #[.int .i64 30,.int .i64 a,.int .i64 b] w λe w'=>e=.returned (.int .i64 (AmU (decide (b<a))))/\Below w.heap.size w w':=by
 go_enter Tryz.func174,Tryz.ntmps174
 go_wp2_with (go_at_call 173; refine (Ab7 _ _).mono ?_; rintro e w' ⟨rfl,rfl⟩)
 all_goals first|go_wall|(go_ret; refine⟨by first|rfl|simp,?_⟩; go_grown)
theorem BjE (a b:Int) (w:World):Calls Tryz.prog 174 #[.int .i64 31,.int .i64 a,.int .i64 b] w λe w'=>e=.returned (.int .i64 (AmU (decide (a<=b))))/\Below w.heap.size w w':=by
 go_enter Tryz.func174,Tryz.ntmps174
 go_wp2_with (go_at_call 173; refine (Ab7 _ _).mono ?_; rintro e w' ⟨rfl,rfl⟩)
 all_goals first|go_wall|(go_ret; refine⟨by first|rfl|simp,?_⟩; go_grown)
theorem BjF (a b:Int) (w:World):Calls Tryz.prog 174 #[.int .i64 32,.int .i64 a,.int .i64 b] w λe w'=>e=.returned (.int .i64 (AmU (decide (b<=a))))/\Below w.heap.size w w':=by
 go_enter Tryz.func174,Tryz.ntmps174
 go_wp2_with (go_at_call 173; refine (Ab7 _ _).mono ?_; rintro e w' ⟨rfl,rfl⟩)
 all_goals first|go_wall|(go_ret; refine⟨by first|rfl|simp,?_⟩; go_grown)
theorem BjA (a b:Int) (w:World):Calls Tryz.prog 174 #[.int .i64 27,.int .i64 a,.int .i64 b] w λe w'=>e=.returned (.int .i64 (AmU (a==b)))/\Below w.heap.size w w':=by
 cases hab:(a==b)
 all_goals
  go_enter Tryz.func174,Tryz.ntmps174
  go_wp2_with (go_at_call 173; refine (Ab7 _ _).mono ?_; rintro e w' ⟨rfl,rfl⟩)
  all_goals first|go_wall|(go_ret; refine⟨by first|rfl|simp,?_⟩; go_grown)
theorem BjB (a b:Int) (w:World):Calls Tryz.prog 174 #[.int .i64 28,.int .i64 a,.int .i64 b] w λe w'=>e=.returned (.int .i64 (AmU (!(a==b))))/\Below w.heap.size w w':=by
 cases hab:(a==b)
 all_goals
  go_enter Tryz.func174,Tryz.ntmps174
  go_wp2_with (go_at_call 173; refine (Ab7 _ _).mono ?_; rintro e w' ⟨rfl,rfl⟩)
  all_goals first|go_wall|(go_ret; refine⟨by first|rfl|simp,?_⟩; go_grown)
theorem Bf5 {op a b r:Int} (h:heldI op a b=some r) (w:World):Calls Tryz.prog 174 #[.int .i64 op,.int .i64 a,.int .i64 b] w λe w'=>e=.returned (.int .i64 r)/\Below w.heap.size w w':=by
 unfold heldI at h
 split at h
 ·rename_i e; subst e; cases h; exact BjC a b w
 split at h
 ·rename_i e; subst e; cases h; exact BjD a b w
 split at h
 ·rename_i e; subst e; cases h; exact BjE a b w
 split at h
 ·rename_i e; subst e; cases h; exact BjF a b w
 split at h
 ·rename_i e; subst e; cases h; exact BjA a b w
 split at h
 ·rename_i e; subst e; cases h; exact BjB a b w
 cases h
def heldCall:Call:=λ_ args lh=>match args with
 | [.d (.int .i64 op),.d (.int .i64 a),.d (.int .i64 b)]=>(heldI op a b).map λr=>.ret (.d (.int .i64 r)) lh
 |_=>none
theorem held_ok [cU] {args:List C} {lh:List (List C)} {r:aF} (h:heldCall 174 args lh=some r):pO Tryz.prog 174 args lh r:=by
 unfold heldCall at h
 split at h
 ·rename_i op a b
  obtain⟨q,hq,rfl⟩:=Option.map_eq_some_iff.1 h
  refine Au7 λK μ w vs hr hbd hgl=>?_
  cases hr with
  |cons h1 hn=>cases hn with
   |cons h2 hn=>cases hn with
    |cons h3 hn=>
     cases hn
     simp only[RepC,Rep] at h1 h2 h3; subst h1 h2 h3
     refine (Bf5 hq w).mono ?_
     rintro e w' ⟨rfl,hb⟩
     exact⟨⟨_,rfl,rfl⟩,hb⟩
 simp at h
end Go.AM.Run
namespace Go.AM
open Go
section
variable {X:Ctx} {f:Nat} {Q:AX->St->Prop} {tm tm':List (Nat×V)} {hp hp':List (Nat×List C)} {nid nid':Nat} {df:List (Nat×List Nat)} {pn:Option D}
def xP {α:Type} (n:Int) (z:α):Option (List α):=if 0<=n/\n<=4294967296 then some (List.replicate n.toNat z) else none
def jO (m:Int) (n:Nat):Option Nat:=if 0<=m/\m.toNat<n then some m.toNat else none
def nM {α:Type} (xs:List α) (j:Nat):Option α:=xs[j]?
def oL {α:Type} (xs:List α) (j:Nat) (v:α):Option (List α):=if j<xs.length then some (xs.set j v) else none
def wU {α:Type} (n:Nat) (xs:List α):Option (List α):=if xs.length=n then some xs else none
def AvR {α:Type} (g:α->D) (sz:Nat):Prop:=∀x,(g x).cells.length=sz/\mkE (g x).cells=g x/\(g x).cells.all AuV=true
theorem Am7 {α:Type} (g:α->D) (z:α) {xs:List α} {n:Int} {o:Oper} {t e:TypeId} {l c:Operand} {k k':IntKind} {sz:Nat} (hy:xP n z=some xs) (ho:o.op=.makeSlice t l c) (hs:rI l c=true) (ht:nK X.P t=some e)
  (hl:ev tm l=some (.c (.d (.int k n)))) (hc:ev tm c=some (.c (.d (.int k' n)))) (hz:((AdB X.P e).map (Ao5 X.P e)).bind V.toD=some (g z)) (hk:tsz X.P e=some sz) (hb:Nat.ble (X.P.bytesOf e) 1024=true) (hzl:(g z).cells.length=sz) (h0:Nat.ble 1 sz=true) (hnv:noView nid tm=true) (hn:nid+1=nid') :
  EvO X o ⟨tm,hp,nid,df,pn⟩ (.c (.arr nid n.toNat sz)) ⟨tm,(nid,[.seq sz (xs.map g)])::hp,nid',df,pn⟩ eX.none:=by
 unfold xP at hy
 split at hy
 ·rename_i hc0
  simp only[sJ] at hy; subst hy; subst hn
  have hb':=Nat.le_of_ble_eq_true hb
  have h0':0<sz:=Nat.le_of_ble_eq_true h0
  exact .of λcall=>by simp[cV,ho,evR,ht,hl,hc,hz,hk,hc0,hb',hzl,h0',hs,hnv]
 simp at hy
def mkcap (m:Int):Option Unit:=if 0<=m/\m<=4294967296 then some () else none
theorem Bj7 {α:Type} (g:α->D) {zd:D} {y:Unit} {m:Int} {o:Oper} {t e:TypeId} {l c:Operand} {k k':IntKind} {sz:Nat} (hy:mkcap m=some y) (ho:o.op=.makeSlice t l c) (hs:rI l c=false) (ht:nK X.P t=some e)
  (hl:ev tm l=some (.c (.d (.int k 0)))) (hc:ev tm c=some (.c (.d (.int k' m)))) (hz:((AdB X.P e).map (Ao5 X.P e)).bind V.toD=some zd) (hk:tsz X.P e=some sz) (hb:Nat.ble (X.P.bytesOf e) 1024=true) (hzl:zd.cells.length=sz) (h0:Nat.ble 1 sz=true) :
  EvO X o ⟨tm,hp,nid,df,pn⟩ (.c (.own sz (([]:List α).map g))) ⟨tm,hp,nid,df,pn⟩ eX.none:=by
 unfold mkcap at hy
 split at hy
 ·rename_i hc0
  have hb':=Nat.le_of_ble_eq_true hb
  have h0':0<sz:=Nat.le_of_ble_eq_true h0
  exact .of λcall=>by simp[cV,ho,evR,ht,hl,hc,hz,hk,hc0,hb',hzl,h0',hs,cQ,eX.none]
 simp at hy
theorem pdm {α:Type} (g:α->D) (z:α) {xs:List α} {n:Int} {ops:Array Oper} {vs:List Nat} {base i i':Nat} {pre pre':List Fp} {o:Oper} {t e:TypeId} {l c:Operand} {r:List Oper} {k k':IntKind} {sz:Nat} (hy:xP n z=some xs)
  (ho:o.op=.makeSlice t l c) (hs:rI l c=true) (ht:nK X.P t=some e) (hl:ev tm l=some (.c (.d (.int k n)))) (hc:ev tm c=some (.c (.d (.int k' n)))) (hz:((AdB X.P e).map (Ao5 X.P e)).bind V.toD=some (g z)) (hk:tsz X.P e=some sz)
  (hb:Nat.ble (X.P.bytesOf e) 1024=true) (hzl:(g z).cells.length=sz) (h0:Nat.ble 1 sz=true) (hw:wantedAt ops tm o=some true) (hno:look (base+i) hp=none)
  (hput:(vZ o.dst (.c (.arr (base+i) n.toNat sz)) ⟨tm,(base+i,[.seq sz (xs.map g)])::hp,nid,df,pn⟩).bind (λs2=>rM s2.tmps λtm=>uI s2.heap λhp=>some (tm,hp))=some (tm',hp'))
  (hf:fpK (Fp.fill ⟨(fA ops o).map .tmp,kX o.dst (.c (.arr (base+i) n.toNat sz))++[.blk (base+i)],[],false⟩ ⟨tm',hp',nid,df,pn⟩) (λfp=>rM (pre++[fp]) some)=some pre') (hi:i+1=i')
  (h:oO X ops vs base pre' r i' Q ⟨tm',hp',nid,df,pn⟩):oO X ops vs base pre (o::r) i Q ⟨tm,hp,nid,df,pn⟩:=by
 rw[Aq4,iY,sJ] at hf
 subst hi hf
 rw[Option.bind_eq_some_iff] at hput
 obtain⟨s2,h2,hput⟩:=hput
 rw[iY,qB] at hput
 simp only[sJ,pJ] at hput
 have hs2:=Ab5 h2
 obtain⟨rfl,rfl⟩:=hput
 rw[←hs2] at h
 unfold xP at hy
 split at hy
 ·rename_i hc0
  simp only[sJ] at hy; subst hy
  have hb':=Nat.le_of_ble_eq_true hb
  have h0':0<sz:=Nat.le_of_ble_eq_true h0
  have hev:evR X.P (base+i) o tm hp=some (.c (.arr (base+i) n.toNat sz),some [.seq sz (List.replicate n.toNat (g z))]):=by
   simp[evR,ho,ht,hl,hc,hz,hk,hc0,hb',hzl,h0',hs]
  have hmk:aR o=true:=by simp[aR,ho,hs]
  refine Au3 (s:=⟨tm,hp,nid,df,pn⟩) (v:=.c (.arr (base+i) n.toNat sz)) (s1:=⟨tm,(base+i,[.seq sz ((List.replicate n.toNat z).map g)])::hp,nid,df,pn⟩) (s2:=s2) hw (.of λkk=>?_) (by simpa[List.map_replicate] using h2) (by simpa[List.map_replicate,←hs2] using h)
  simp only[eP,hmk,if_true,AaK,hev,hno]
  simp[C.plain,C.ids,List.map_replicate]
 simp at hy
def BbD {α:Type} (n:Nat) (ds ys:List α):Option (List α):=if ds.length=n/\ys.length<=n then some (ys++ds.drop ys.length) else none
theorem Az1 {α:Type} {k:Nat} {v:α}:∀{l:List (Nat×α)},look k l=some v->upd k v l=l
 | [],h=>by simp[look] at h
 |(j,u)::r,h=>by
  unfold look at h
  unfold upd
  split at h
  ·rename_i hj
   simp only[sJ] at h
   subst h
   rw[if_pos hj,hj]
  rename_i hj
  rw[if_neg hj,Az1 h]
theorem Bi6 {α:Type} (g:α->D) {ds ys zs:List α} {o:Oper} {c:Go.Call} {t u e:TypeId} {x y:Operand} {b n sz:Nat} {zv:V} (hy:BbD n ds ys=some zs) (ho:o.op=.call c) (hc:c.callee=.builtin .copy) (ha:c.args.toList=[x,y])
  (hat:c.argTypes.toList=[t,u]) (ht:nK X.P t=some e) (hn:tsz X.P e=some sz) (hx:ev tm x=some (.c (.arr b n sz))) (hz:evT X.P u tm y=some zv) (hzz:appended zv=some (sz,ys.map g)) (hb:look b hp=some [.seq sz (ds.map g)]) :
  EvO X o ⟨tm,hp,nid,df,pn⟩ (.c (.d (.int .i64 (ys.length:Nat)))) ⟨tm,upd b [.seq sz (zs.map g)] hp,nid,df,pn⟩ eX.none:=by
 unfold BbD at hy
 split at hy
 ·rename_i hc0
  obtain⟨rfl,hle⟩:=hc0
  simp only[sJ] at hy; subst hy
  refine .of λcall=>?_
  cases ys with
  |nil=>
   simp only[List.nil_append,List.length_nil,List.drop_zero,Az1 hb]
   simp[cV,ho,hc,ha,hat,Am4,ht,hx,hz,hzz,hn]
  |cons y0 ys=>
   simp only[List.length_cons] at hle
   simp[cV,ho,hc,ha,hat,Am4,ht,hx,hz,hzz,hn,hb,hle,List.map_drop]
 simp at hy
theorem Aa1 {o:Oper} {t e:TypeId} {x i:Operand} {b n sz j:Nat} {k:IntKind} {m:Int} (hy:jO m n=some j) (ho:o.op=.indexAddr t x i) (ht:nK X.P t=some e) (hz:some sz=tsz X.P e) (hx:ev tm x=some (.c (.arr b n sz))) (hi:ev tm i=some (.c (.d (.int k m)))) :
  EvO X o ⟨tm,hp,nid,df,pn⟩ (.c (.ptr b (j*sz))) ⟨tm,hp,nid,df,pn⟩ ⟨cQ o tm,[],[]⟩:=by
 unfold jO at hy
 split at hy
 ·rename_i hc
  simp only[sJ] at hy; subst hy
  exact .of λcall=>by simp only[cV,ho,evR,ht,hx,hi,hz,hc,and_self,if_true]
 simp at hy
theorem ApZ {α:Type} {g:α->D} {sz:Nat} (hg:AvR g sz) {xs:List α} {j:Nat} {y:α} (hy:xs[j]?=some y):((fL (xs.map g)).drop (j*sz)).take sz=(g y).cells.map C.d:=by
 induction xs generalizing j with
 |nil=>simp at hy
 |cons x xs ih=>
  rw[List.map_cons,AbP]
  cases j with
  |zero=>
   simp only[List.getElem?_cons_zero,sJ] at hy; subst hy
   rw[Nat.zero_mul,List.drop_zero,List.take_append_of_le_length (by simp[(hg x).1]),List.take_of_length_le (by simp[(hg x).1])]
  |succ j=>
   rw[List.drop_append,List.drop_eq_nil_of_le (by simp[(hg x).1,Nat.succ_mul]),List.nil_append]
   have e:(j+1)*sz-((g x).cells.map C.d).length=j*sz:=by simp[(hg x).1,Nat.succ_mul]
   rw[e]
   exact ih (by simpa using hy)
theorem BeY {α:Type} {g:α->D} {sz:Nat} (hg:AvR g sz) (xs:List α):(fL (xs.map g)).length=xs.length*sz:=by
 rw[Ai7 (sz:=sz),List.length_map]
 intro d hd
 simp only[List.mem_map] at hd
 obtain⟨x,_,rfl⟩:=hd
 exact (hg x).1
theorem AmJ {b sz:Nat} {ds:List D} (hb:look b hp=some [.seq sz ds]):yG b hp=some (fL ds):=by simp only[yG,hb,mapOf]
theorem ApK {α:Type} (g:α->D) {xs:List α} {y:α} {o:Oper} {t:TypeId} {a:Operand} {b j:Nat} (hy:nM xs j=some y) (ho:o.op=.load t a) (ht:Ag2 X.P t=some false) (hg:AvR g 1) (hx:ev tm a=some (.c (.ptr b (j*1)))) (hb:look b hp=some [.seq 1 (xs.map g)]) :
  EvO X o ⟨tm,hp,nid,df,pn⟩ (.d (g y)) ⟨tm,hp,nid,df,pn⟩ ⟨cQ o tm,[],[]⟩:=by
 have h1:=ApZ hg hy
 have hc:∃d,(g y).cells=[d]:=by
  have:=(hg y).1
  match h:(g y).cells with
  | [d]=>exact⟨d,rfl⟩
  | []=>simp[h] at this
  |_::_::_=>simp[h] at this
 obtain⟨d,hd⟩:=hc
 have hgd:g y=d:=by have:=(hg y).2.1; rw[hd] at this; exact this.symm
 rw[hd] at h1
 have h2:(fL (xs.map g))[j*1]?=some (.d d):=by
  have:=congrArg (λl=>l[0]?) h1
  simpa using this
 rw[hgd]
 exact .of λcall=>by simp only[cV,ho,evR,hx,AmJ hb,ht,h2]
theorem AoY:∀(n:Nat) {l:List C},(∀c∈l,∃d,c=.d d)->AbA n l=false
 |0,_,_=>rfl
 |n+1,[],_=>rfl
 |n+1,c::r,h=>by
  obtain⟨d,rfl⟩:=h c sM
  simp only[AbA]
  exact AoY n λc hc=>h c (by simp[hc])
theorem AkF (n k:Nat) (ds:List D):AbA n ((fL ds).drop k)=false:=AoY n λc hc=>by
 have hc:=List.mem_of_mem_drop hc
 simp only[fL,List.mem_flatMap,List.mem_map] at hc
 obtain⟨_,_,x,_,rfl⟩:=hc
 exact⟨x,rfl⟩
theorem BkH {α:Type} (g:α->D) {xs:List α} {y:α} {o:Oper} {t:TypeId} {a:Operand} {b j sz:Nat} (hy:nM xs j=some y) (ho:o.op=.load t a) (ht:Ag2 X.P t=some true) (hn:tsz X.P t=some sz) (hg:AvR g sz) (ha:∀x,g x=.agg (g x).cells) (hx:ev tm a=some (.c (.ptr b (j*sz)))) (hb:look b hp=some [.seq sz (xs.map g)]) :
  EvO X o ⟨tm,hp,nid,df,pn⟩ (.d (g y)) ⟨tm,hp,nid,df,pn⟩ ⟨cQ o tm,[],[]⟩:=by
 have h1:=ApZ hg hy
 have hj:j<xs.length:=(List.getElem?_eq_some_iff.1 hy).1
 have hle:j*sz+sz<=(fL (xs.map g)).length:=by
  rw[BeY hg,←Nat.succ_mul]
  exact Nat.mul_le_mul_right _ hj
 have hm:((g y).cells.map C.d).map C.plain=(g y).cells.map C.d:=by simp[List.map_map,Function.comp_def,C.plain]
 have hal:∀ds:List D,AjI (ds.map C.d)=some ds:=by
  intro ds
  induction ds with
  |nil=>rfl
  |cons d ds ih=>simp only[List.map_cons,AjI,C.toD,ih]
 rw[ha y]
 exact .of λcall=>by simp only[cV,ho,evR,hx,AmJ hb,ht,hn,hle,if_true,AkF,h1,hm,AoW,hal]
theorem BcD (d:D):V.cells (.c (.d d))=some (d.cells.map C.d):=by cases d<;>rfl
theorem AwQ:∀ds:List D,AwP (ds.map C.d)=some ds
 | []=>rfl
 |d::ds=>by simp only[List.map_cons,AwP,AwQ ds,Option.map_some]
theorem BaA {α:Type} {g:α->D} {sz:Nat} (hg:AvR g sz) (h0:0<sz) {xs ys:List α} {j:Nat} {v:α} (hy:oL xs j v=some ys):AhQ sz (j*sz) (xs.map g) ((g v).cells.map C.d)=some (ys.map g):=by
 unfold oL at hy
 split at hy
 ·rename_i hj
  simp only[sJ] at hy; subst hy
  unfold AhQ
  rw[AwQ,Nat.mul_div_cancel _ h0,List.getElem?_map,List.getElem?_eq_getElem hj]
  simp only[Option.map_some,Nat.mul_mod_left,Nat.zero_add,(hg v).1,Nat.le_refl,(hg v).2.2,h0,and_self,if_true,(hg v).2.1,List.map_set]
 simp at hy
theorem est {α:Type} (g:α->D) {xs ys:List α} {v:α} {o:Oper} {t:TypeId} {a x:Operand} {b j sz:Nat} (hy:oL xs j v=some ys) (ho:o.op=.store t a x) (hn:tsz X.P t=some sz) (hg:AvR g sz) (h0:Nat.ble 1 sz=true) (ha:ev tm a=some (.c (.ptr b (j*sz)))) (hx:evT X.P t tm x=some (.c (.d (g v)))) (hb:look b hp=some [.seq sz (xs.map g)]) :
  EvO X o ⟨tm,hp,nid,df,pn⟩ (.c .undef) ⟨tm,upd b [.seq sz (ys.map g)] hp,nid,df,pn⟩ ⟨[],[b],[]⟩:=by
 have h0':0<sz:=Nat.le_of_ble_eq_true h0
 have hcn:=BcD (g v)
 have hany:((g v).cells.map C.d).any C.isNilsl=false:=by
  rw[List.any_eq_false]
  intro c hc
  simp only[List.mem_map] at hc
  obtain⟨d,_,rfl⟩:=hc
  simp[C.isNilsl]
 have hpl:((g v).cells.map C.d).map C.plain=(g v).cells.map C.d:=by simp[List.map_map,Function.comp_def,C.plain]
 have hst:storeCells hp b (j*sz) ((g v).cells.map C.d)=some (upd b [.seq sz (ys.map g)] hp):=by
  simp only[storeCells,hb,BaA hg h0' hy,Option.map_some]
 have hlen:tsz X.P t=some ((g v).cells.map C.d).length:=by rw[List.length_map,(hg v).1]; exact hn
 exact .of λcall=>by simp only[cV,ho,ha,hx,hcn,hlen,if_true,hany,fJ,if_false,hpl,hst]
theorem BkZ {α:Type} (g:α->D) {xs:List α} {y:α} {d:D} {o:Oper} {t:TypeId} {a:Operand} {b j sz fo:Nat} (hy:nM xs j=some y) (ho:o.op=.load t a) (ht:Ag2 X.P t=some false) (hg:AvR g sz) (hd:(g y).cells[fo]?=some d) (hx:ev tm a=some (.c (.ptr b (j*sz+fo)))) (hb:look b hp=some [.seq sz (xs.map g)]) :
  EvO X o ⟨tm,hp,nid,df,pn⟩ (.d d) ⟨tm,hp,nid,df,pn⟩ ⟨cQ o tm,[],[]⟩:=by
 have h1:=ApZ hg hy
 have hfo:fo<sz:=by
  have:=(List.getElem?_eq_some_iff.1 hd).1
  rw[(hg y).1] at this
  exact this
 have h2:(fL (xs.map g))[j*sz+fo]?=some (.d d):=by
  have:=congrArg (λl=>l[fo]?) h1
  simp only[List.getElem?_take,if_pos hfo,List.getElem?_drop,List.getElem?_map,hd,Option.map_some] at this
  exact this
 exact .of λcall=>by simp only[cV,ho,evR,hx,AmJ hb,ht,h2]
theorem Bl0 {α:Type} (g:α->D) {xs ys:List α} {y v:α} {k:IntKind} {n:Int} {o:Oper} {t:TypeId} {a x:Operand} {b j sz fo:Nat} (hy:nM xs j=some y) (hs:oL xs j v=some ys) (ho:o.op=.store t a x) (hn:tsz X.P t=some 1) (hg:AvR g sz) (h1:Nat.blt 1 sz=true) (hfo:Nat.blt fo sz=true)
  (hv:(g y).cells.take fo++[D.int k n]++(g y).cells.drop (fo+1)=(g v).cells) (ha:ev tm a=some (.c (.ptr b (j*sz+fo)))) (hx:evT X.P t tm x=some (.c (.d (.int k n)))) (hb:look b hp=some [.seq sz (xs.map g)]) :
  EvO X o ⟨tm,hp,nid,df,pn⟩ (.c .undef) ⟨tm,upd b [.seq sz (ys.map g)] hp,nid,df,pn⟩ ⟨[],[b],[]⟩:=by
 have h1':1<sz:=by simpa[Nat.blt_eq] using h1
 have hfo':fo<sz:=by simpa[Nat.blt_eq] using hfo
 have hcn:V.cells (.c (.d (.int k n)))=some [.d (.int k n)]:=rfl
 have hdiv:(j*sz+fo) / sz=j:=by rw[Nat.mul_comm,Nat.mul_add_div oM,Nat.div_eq_of_lt hfo',Nat.add_zero]
 have hmod:(j*sz+fo) % sz=fo:=by rw[Nat.mul_comm,Nat.mul_add_mod,Nat.mod_eq_of_lt hfo']
 have hst:storeCells hp b (j*sz+fo) [.d (.int k n)]=some (upd b [.seq sz (ys.map g)] hp):=by
  unfold oL at hs
  split at hs
  ·rename_i hj
   simp only[sJ] at hs; subst hs
   have hyj:xs[j]?=some y:=hy
   have hset:AhQ sz (j*sz+fo) (xs.map g) [.d (.int k n)]=some ((xs.set j v).map g):=by
    unfold AhQ
    rw[show AwP [C.d (D.int k n)]=some [D.int k n] from rfl,hdiv,List.getElem?_map,hyj]
    simp only[Option.map_some,hmod,List.length_singleton]
    rw[if_pos ⟨oM,oM,rfl⟩,if_neg oM,hv,(hg v).2.1,List.map_set]
   simp only[storeCells,hb,hset,Option.map_some]
  simp at hs
 exact .of λcall=>by simp only[cV,ho,ha,hx,hcn,List.length_singleton,hn,if_true,List.any_cons,List.any_nil,C.isNilsl,Bool.or_false,fJ,if_false,List.map_cons,List.map_nil,C.plain,hst]
theorem Aj1 {k:Nat} {ks:List Nat} {s s1 s2:St} (hk:Nat.ble 7000000 k=true) (h:Aj2 k s=some s1) (h2:frz ks s1=some s2):frz (k::ks) s=some s2:=by
 simp only[frz,hk,h,h2]
theorem AgT {α:Type} (g:α->D) {xs ys:List α} {b n sz:Nat} (hy:wU n xs=some ys) (hb:look b hp=some [.seq sz (xs.map g)]):Al7 hp (.arr b n sz)=some (.d (.list sz (ys.map g))):=by
 unfold wU at hy
 split at hy
 ·rename_i hc
  simp only[sJ] at hy; subst hy
  simp only[Al7,hb,List.length_map,hc,and_self,if_true]
 simp at hy
theorem Aw0 {α:Type} (xs:List α):wU xs.length xs=some xs:=by simp[wU]
theorem AuQ {c c':C} (h:Al7 hp c=some c'):AeV hp (.c c)=some (.c c'):=by simp only[AeV,h,Option.map_some]
theorem gT {k t b:Nat} {bs:List Nat} {V0 V':V} (hk:Aj2 k ⟨tm,hp,nid,df,pn⟩=Bf0 t ⟨tm,hp,nid,df,pn⟩) (ht:look t tm=some V0) (ha:V0.arrs=b::bs) (hv:AeV hp V0=some V') (h1:(t,V')::tm=tm') (h2:without (b::bs) hp=hp') :
  Aj2 k ⟨tm,hp,nid,df,pn⟩=some ⟨tm',hp',nid,df,pn⟩:=by
 subst h1; subst h2
 rw[hk]
 simp only[Bf0,ht,ha,hv]
theorem jA {α:Type} (g:α->D) {xs ys:List α} {b0 off b n sz:Nat} {hp1:List (Nat×List C)} (hc:cellOf b0 off ⟨tm,hp,nid,df,pn⟩=some (.arr b n sz)) (hy:wU n xs=some ys) (hb:look b hp=some [.seq sz (xs.map g)])
  (h1:without [b] hp=hp1) (h2:cellTo b0 off (.d (.list sz (ys.map g))) ⟨tm,hp1,nid,df,pn⟩=⟨tm,hp',nid,df,pn⟩):AcP b0 off ⟨tm,hp,nid,df,pn⟩=some ⟨tm,hp',nid,df,pn⟩:=by
 subst h1
 simp only[AcP,hc,AgT g hy hb,h2]
theorem gC {k b0 off:Nat} {s s':St} (hk:Aj2 k s=AcP b0 off s) (h:AcP b0 off s=some s'):Aj2 k s=some s':=by rw[hk,h]
theorem AcO {b off:Nat} {s:St}:uR b off 0 s=some s:=rfl
theorem mO {b off n:Nat} {s s1 s2:St} (h:AcP b (off+n) s=some s1) (h2:uR b off n s1=some s2):uR b off (n+1) s=some s2:=by simp only[uR,h,h2]
theorem AgP {P:Program} {s:St}:vT P [] s=some s:=rfl
theorem ApJ {P:Program} {t:Nat} {r:List ResultVar} {s s1:St} (h:vT P r s=some s1):vT P (.tmp t::r) s=some s1:=h
theorem AcM {P:Program} {a t b off n:Nat} {r:List ResultVar} {s s1 s2:St} (ha:look a s.tmps=some (.c (.ptr b off))) (ht:Ag2 P t=some true) (hn:tsz P t=some n) (h:uR b off n s=some s1) (h2:vT P r s1=some s2) :
 vT P (.cell a t::r) s=some s2:=by simp only[vT,ha,ht,hn,h,h2]
def BgW (P:Program) (fn:Func) (n:Nat) (s:St):Option aF:=match BhS P s fn.results.toList with
 |some v=>match Af7 s.heap n v.ids with
  |some (ids,lh')=>match v.into ids with
   |some v'=>some (.ret v' lh')
   |none=>none
  |none=>none
 |none=>none
theorem yD.retF {fn:Func} {n:Nat} {r:aF} {s s1:St} {rs:List ResultVar} (hd:s.defers=[]) (hr:fn.results.toList=rs) (h1:vT X.P rs s=some s1) (h:BgW X.P fn n s1=some r):yD X fn n r .ret s:=
 .ret hd (by subst hr; unfold uJ; rw[h1]; exact h)
structure AwB (X:Ctx) (ops:Array Oper) (l:List Oper) (Q:AX->St->Prop) (s:St):Prop where
 ex:∃x s',(Evt λk=>AbO X.P (X.raw k) ops l s=some (x,s'))/\Q x s'
theorem rnM {id:Nat} {ops:Array Oper} {tm0:List (Nat×V)} {hp0:List (Nat×List C)} {nid0:Nat} (hz:frz (X.H f id) ⟨tm,hp,nid,df,pn⟩=some ⟨tm0,hp0,nid0,df,pn⟩) (hM:isM (X.H f id)=true) (hk:AcQ (X.H f id) tm0 some=some tm')
  (h:AwB X ops ops.toList Q ⟨tm',hp0,nid0,df,pn⟩):awp X f (.region id ops false) Q ⟨tm,hp,nid,df,pn⟩:=by
 rw[uS,sJ] at hk
 subst hk
 obtain⟨x,s',h1,h2⟩:=h
 refine⟨x,s',h1.imp λk p=>?_,h2⟩
 simp only[iW,hz,hM,fJ,if_false,p]
theorem mz {s:St} {ops:Array Oper} (h:Q .normal s):AwB X ops [] Q s:=⟨_,_,.of λ_=>rfl,h⟩
theorem mo {s s1:St} {ops:Array Oper} {o:Oper} {l:List Oper} {v:V} {ft:eX} (hop:EvO X o s v s1 ft) (hw:wantedAt ops s.tmps o=some true) (hs:∀call,spec X.P call o s=none) {s2:St} (h2:putDst o v s1=s2) (h:AwB X ops l Q s2):AwB X ops (o::l) Q s:=by
 subst h2
 obtain⟨x,s',h1,h2⟩:=h
 refine⟨x,s',(hop.and h1).imp λk p=>?_,h2⟩
 obtain⟨p,q⟩:=p
 simp only[AbO,hw,hs]
 rw[show cV X.P (AcC (X.raw k)) s.nid o s=_ from p]
 exact q
theorem ms {s s1:St} {ops:Array Oper} {o:Oper} {l:List Oper} {v:V} (hop:AaI X.P o s=some (v,s1)) (hw:wantedAt ops s.tmps o=some true) {s2:St} (h2:putDst o v s1=s2) (h:AwB X ops l Q s2):AwB X ops (o::l) Q s:=by
 subst h2
 obtain⟨x,s',h1,h2⟩:=h
 refine⟨x,s',h1.imp λk p=>?_,h2⟩
 simp only[AbO,hw,spec,hop,p]
theorem mv {ops:Array Oper} {o:Oper} {l:List Oper} {c:Go.Call} {fo:Operand} {g nid':Nat} {ids:List Nat} {args args':List C} {lh lh' lh'':List (List C)} {v v':V} (hv:Aw8 X g args' lh (.ret v lh')) (ho:o.op=.call c) (hc:c.callee=.value fo)
  (hf:ev tm fo=some (.c (.fn g []))) (ha:pF X.P tm c.args.toList c.argTypes.toList=some args) (hr:rW hp 64 (args.flatMap C.ids) []=some ids) (hi:aY (C.into ids) args=some args') (hb:pG hp ids=some lh)
  (hk:aY (aY (C.back (ids++bD nid (lh'.length-ids.length)))) lh'=some lh'') (hv':V.back (ids++bD nid (lh'.length-ids.length)) v=some v') (hw:wantedAt ops tm o=some true) (hn:nid+(lh'.length-ids.length)=nid')
  {s2:St} (h2:putDst o v' ⟨unviewIn (ids++bD nid (lh'.length-ids.length)) tm,dT (ids++bD nid (lh'.length-ids.length)) lh'' hp,nid',df,pn⟩=s2) (h:AwB X ops l Q s2):AwB X ops (o::l) Q ⟨tm,hp,nid,df,pn⟩:=by
 subst h2 hn
 obtain⟨x,s',h1,h2⟩:=h
 refine⟨x,s',(hv.and h1).imp λk q=>?_,h2⟩
 obtain⟨p,q⟩:=q
 have hs:AaI X.P o ⟨tm,hp,nid,df,pn⟩=none:=by simp only[AaI,ho,hc]
 simp only[AbO,hw,spec,hs,ho,hc,hf,ha,mU,hr,hi,hb,p,hk,hv']
 exact q
theorem BgX {fn:Func} {n:Nat} {r:aF} {s:St} (hd:s.defers=[]) (h:Ai2 X.P fn n s=some r):AzA X fn n r .ret s:=⟨.inr rfl,hd,h⟩
theorem BfQ {α:Type} (g:α->D) {xs ys zs:List α} {o:Oper} {c:Go.Call} {t u e:TypeId} {x y:Operand} {X0 Y0:V} {bs:List Nat} {sz:Nat} {hp1:List (Nat×List C)} (hy:lapp xs ys=some zs) (ho:o.op=.call c) (hc:c.callee=.builtin .append) (ha:c.args.toList=[x,y]) (hat:c.argTypes.toList=[t,u])
  (ht:nK X.P t=some e) (hx:evT X.P t tm x=some X0) (hX:yC hp X0=some (bs,sz,xs.map g)) (hv:evT X.P u tm y=some Y0) (hV:appended Y0=some (sz,ys.map g)) (hn:tsz X.P e=some sz) (hu:iB X.P u=true) (h0:Nat.ble 1 sz=true)
  (hb:Nat.ble (X.P.bytesOf e) 1024=true) (hz:lV X.P e sz=true) (hnv:noView nid tm=true) (h1:without bs hp=hp1) :
  AaI X.P o ⟨tm,hp,nid,df,pn⟩=some (.c (.arr nid zs.length sz),⟨tm,(nid,[.seq sz (zs.map g)])::hp1,nid+1,df,pn⟩):=by
 unfold lapp at hy
 split at hy
 ·rename_i hl
  simp only[sJ] at hy; subst hy; subst h1
  have h0':0<sz:=Nat.le_of_ble_eq_true h0
  have hb':=Nat.le_of_ble_eq_true hb
  simp only[AaI,ho,hc,ha,hat,ht,hx,hv,hV,hX,bJ,hn,hu,h0',hb',hz,hnv,List.length_map,hl,and_self,if_true,List.length_append,List.map_append]
 simp at hy
def BgN {α:Type} (n:Nat) (xs ys:List α):Option (List α):=wU n xs>>=λzs=>lapp zs ys
theorem AvZ {α:Type} {n:Nat} {xs ys zs:List α} (h:BgN n xs ys=some zs):∃l,wU n xs=some l/\lapp l ys=some zs:=by
 unfold BgN at h
 cases h1:wU n xs with
 |none=>rw[h1] at h; simp at h
 |some l=>rw[h1] at h; exact⟨l,rfl,h⟩
theorem pda {α:Type} (g:α->D) {xs ys zs:List α} {ops:Array Oper} {vs:List Nat} {base i i':Nat} {pre pre':List Fp} {o:Oper} {r:List Oper} {c:Go.Call} {t u e:TypeId} {x y:Operand} {Y0:V} {b n sz nid1:Nat} {hp1:List (Nat×List C)}
  (hy:lapp xs ys=some zs) (hX:yC hp (.c (.arr b n sz))=some ([b],sz,xs.map g)) (ho:o.op=.call c) (hc:c.callee=.builtin .append) (ha:c.args.toList=[x,y]) (hat:c.argTypes.toList=[t,u])
  (ht:nK X.P t=some e) (hx:evT X.P t tm x=some (.c (.arr b n sz))) (hv:evT X.P u tm y=some Y0) (hV:appended Y0=some (sz,ys.map g)) (hn:tsz X.P e=some sz) (hu:iB X.P u=true) (h0:Nat.ble 1 sz=true)
  (hb:Nat.ble (X.P.bytesOf e) 1024=true) (hz:lV X.P e sz=true) (hnv:noView nid tm=true) (h1:without [b] hp=hp1) (hw:wantedAt ops tm o=some true) (hnid:nid+1=nid1)
  (hput:(vZ o.dst (.c (.arr nid zs.length sz)) ⟨tm,(nid,[.seq sz (zs.map g)])::hp1,nid1,df,pn⟩).bind (λs2=>rM s2.tmps λtm=>uI s2.heap λhp=>some (tm,hp))=some (tm',hp'))
  (hf:fpK (Fp.fill (yZ X.P ops o ⟨tm,hp,nid,df,pn⟩ (.c (.arr nid zs.length sz))) ⟨tm',hp',nid1,df,pn⟩) (λfp=>rM (pre++[fp]) some)=some pre') (hi:i+1=i')
  (h:oO X ops vs base pre' r i' Q ⟨tm',hp',nid1,df,pn⟩):oO X ops vs base pre (o::r) i Q ⟨tm,hp,nid,df,pn⟩:=by
 rw[Aq4,iY,sJ] at hf
 subst hi hf hnid
 rw[Option.bind_eq_some_iff] at hput
 obtain⟨s2,h2,hput⟩:=hput
 rw[iY,qB] at hput
 simp only[sJ,pJ] at hput
 have hs2:=Ab5 h2
 obtain⟨rfl,rfl⟩:=hput
 rw[←hs2] at h
 have hsp:=BfQ (X:=X) (df:=df) (pn:=pn) (o:=o) g hy ho hc ha hat ht hx hX hv hV hn hu h0 hb hz hnv h1
 have:AdA X.P o ⟨tm,hp,nid,df,pn⟩=some (.c (.arr nid zs.length sz),⟨tm,(nid,[.seq sz (zs.map g)])::hp1,nid+1,df,pn⟩):=by
  rw[←hsp]
  simp only[AdA,ho,hc,ha,hat,hx]
 exact Be2 (s:=⟨tm,hp,nid,df,pn⟩) hw this h2 h
theorem As1 {α:Type} (g:α->D) {xs:List α} {b sz:Nat} (hb:look b hp=some [.seq sz (xs.map g)]):yC hp (.c (.arr b xs.length sz))=some ([b],sz,xs.map g):=by
 simp only[yC,hb,List.length_map,and_self,if_true]
theorem Au2 {α:Type} (g:α->D) {xs ys:List α} {b n sz:Nat} (hy:wU n xs=some ys) (hb:look b hp=some [.seq sz (xs.map g)]):yC hp (.c (.arr b n sz))=some ([b],sz,ys.map g):=by
 unfold wU at hy
 split at hy
 ·rename_i hc
  simp only[sJ] at hy; subst hy
  simp only[yC,hb,List.length_map,hc,and_self,if_true]
 simp at hy
theorem Bc6 {α:Type} (g:α->D) {sz:Nat}:yC hp (.c (.nilsl sz))=some ([],sz,([]:List α).map g):=rfl
theorem Ap1 {α:Type} (g:α->D) {sz:Nat}:yC hp (.c (.full sz []))=some ([],sz,([]:List α).map g):=rfl
end
end Go.AM
namespace Go.AM
open Go
inductive BnH (Q:AX->St->Prop):AX->St->Prop where
 |mk {s:St}:Q .normal s->BnH Q .normal s
section
variable {X:Ctx} {f:Nat} {Q:AX->St->Prop} {tm tm':List (Nat×V)} {hp hp':List (Nat×List C)} {nid nid':Nat} {df:List (Nat×List Nat)} {pn:Option D}
end
end Go.AM
namespace Go.AM
open Go
def AgY (P:Program) (o:Oper) (tm:List (Nat×V)) (hp:List (Nat×List C)):Bool:=
 match o.guard with
 |some _=>false
 |none=>match o.op with
  |.index _ _ _|.slice _ _ _ _ _|.indexAddr _ _ _|.makeSlice _ _ _|.lookup _ _ _ _|.insert _ _ _ _|.mapUpdate _ _ _ _|.makeMap _ _|.defer _|.panic _=>false
  |.convert src dst _=>match P.underlying src,P.underlying dst with
   |some (.int _),_=>true
   |some .string,some .string=>true
   |_,_=>false
  |.binOp op t _ y _=>match op with
   |.quo|.rem=>match y with
    |.const (.int _ n)=>n != 0
    |_=>false
   |.add=>match P.underlying t with
    |some .string=>false
    |_=>true
   |.eql|.neq=>match P.underlying t with
    |some (.struct _)=>false
    |_=>true
   |_=>true
  |.load _ a|.store _ a _=>match ev tm a with
   |some (.c (.ptr b _))=>match look b hp with
    |some [.seq _ _]=>false
    |_=>true
   |_=>true
  |.buildSlice t _ _=>match nK P t with
   |some e=>match Ag2 P e with
    |some true=>false
    |_=>true
   |none=>true
  |.call c=>match c.callee with
   |.builtin .len=>match c.args.toList with
    | [x]=>match ev tm x with
     |some (.c (.d (.str _)))=>true
     |some (.c (.nilsl _))=>true
     |some (.c (.arr _ _ _))=>true
     |_=>false
    |_=>false
   |.builtin .min|.builtin .max=>true
   |_=>false
  |_=>true
def AoC {α:Type} (n:Nat) (k:Nat->α):α:=match n+1 with
 |0=>k n
 |m+1=>k m
theorem xI {α:Type} {n:Nat} {k:Nat->α}:AoC n k=k n:=rfl
def Bd7 {α:Type} (P:Program):List Oper->List (Nat×V)->List (Nat×List C)->Nat->List (Nat×List Nat)->Option D->(List Oper->List (Nat×V)->List (Nat×List C)->Nat->List (Nat×List Nat)->Option D->Option α)->Option α
 | [],tm,hp,nid,df,pn,k=>k [] tm hp nid df pn
 |o::l,tm,hp,nid,df,pn,k=>match AgY P o tm hp with
  |false=>k (o::l) tm hp nid df pn
  |true=>match zD o with
   |true=>none
   |false=>match cV P AdO nid o ⟨tm,hp,nid,df,pn⟩ with
    |some (.val v s',_)=>AqM o.dst v s'.tmps λtm=>uI s'.heap λhp=>match aR o with
     |true=>AoC (nid+1) λn=>Bd7 P l tm hp n df pn k
     |false=>Bd7 P l tm hp nid df pn k
    |_=>none
section
variable {X:Ctx} {f:Nat} {Q:AX->St->Prop} {tm tm':List (Nat×V)} {hp hp':List (Nat×List C)} {nid nid':Nat} {df df':List (Nat×List Nat)} {pn pn':Option D}
theorem AlF {P:Program} {ops:Array Oper} {o:Oper} (h:AgY P o tm hp=true):wantedAt ops tm o=some true:=by
 unfold AgY at h
 split at h
 ·simp at h
 rename_i hg
 simp only[wantedAt,hg]
theorem Af4 {α:Type} {ops:Array Oper}:∀{l:List Oper} {tm:List (Nat×V)} {hp:List (Nat×List C)} {nid:Nat} {df:List (Nat×List Nat)} {pn:Option D} {k:List Oper->List (Nat×V)->List (Nat×List C)->Nat->List (Nat×List Nat)->Option D->Option α} {a:α},
  Bd7 X.P l tm hp nid df pn k=some a->∃l' tm' hp' nid' df' pn',k l' tm' hp' nid' df' pn'=some a/\(qA X ops l' Q ⟨tm',hp',nid',df',pn'⟩->qA X ops l Q ⟨tm,hp,nid,df,pn⟩)
 | [],tm,hp,nid,df,pn,k,a,h=>⟨[],tm,hp,nid,df,pn,h,λh=>h⟩
 |o::l,tm,hp,nid,df,pn,k,a,h=>by
  simp only[Bd7] at h
  split at h
  ·exact⟨o::l,tm,hp,nid,df,pn,h,λh=>h⟩
  rename_i hl
  have hw:=AlF (ops:=ops) hl
  split at h
  ·simp at h
  rename_i hd
  split at h
  ·rename_i v s' ft hev
   have hr:=Am9 rfl (λ_=>rfl) hev hd
   rw[AlO,qB] at h
   cases hm:aR o with
   |true=>
    simp only[hm,xI] at h hr
    obtain⟨l',tm',hp',nid',df',pn',h1,h2⟩:=Af4 h
    refine⟨l',tm',hp',nid',df',pn',h1,λhh=>AkI hw (λcall=>wI hev call) ?_⟩
    have:=h2 hh
    rw[putDst,wD]
    rw[hr] at this ⊢
    exact this
   |false=>
    simp only[hm] at h hr
    obtain⟨l',tm',hp',nid',df',pn',h1,h2⟩:=Af4 h
    refine⟨l',tm',hp',nid',df',pn',h1,λhh=>AkI hw (λcall=>wI hev call) ?_⟩
    have:=h2 hh
    rw[putDst,wD]
    rw[hr] at this ⊢
    exact this
  simp at h
theorem onW {ops:Array Oper} {o:Oper} {l l':List Oper} (hl:AgY X.P o tm hp=true) (h:Bd7 X.P (o::l) tm hp nid df pn ApX=some (l',tm',hp',nid',df',pn')) (hh:qA X ops l' Q ⟨tm',hp',nid',df',pn'⟩):qA X ops (o::l) Q ⟨tm,hp,nid,df,pn⟩:=by
 obtain⟨_,_,_,_,_,_,h1,h2⟩:=Af4 (Q:=Q) (ops:=ops) h
 simp only[ApX,sJ,pJ] at h1
 obtain⟨rfl,rfl,rfl,rfl,rfl,rfl⟩:=h1
 exact h2 hh
theorem onF {ops:Array Oper} {o:Oper} {l l':List Oper} (hw:wantedAt ops tm o=some false) (h:AmQ X.P ops 1 (o::l) tm hp nid df pn ApX=some (l',tm',hp',nid',df',pn')) (hh:qA X ops l' Q ⟨tm',hp',nid',df',pn'⟩):qA X ops (o::l) Q ⟨tm,hp,nid,df,pn⟩:=on 1 h hh
theorem onT {ops:Array Oper} {o:Oper} {l l':List Oper} (hw:wantedAt ops tm o=some true) (hl:AgY X.P { o with guard:=none } tm hp=true) (h:AmQ X.P ops 1 (o::l) tm hp nid df pn ApX=some (l',tm',hp',nid',df',pn')) (hh:qA X ops l' Q ⟨tm',hp',nid',df',pn'⟩):qA X ops (o::l) Q ⟨tm,hp,nid,df,pn⟩:=on 1 h hh
theorem rnW {id:Nat} {ops:Array Oper} {l':List Oper} (hz:noF (X.H f id)=true) (h:AcQ (X.H f id) tm (λtm=>Bd7 X.P ops.toList tm hp nid df pn ApX)=some (l',tm',hp',nid',df',pn')) (hh:qA X ops l' Q ⟨tm',hp',nid',df',pn'⟩) :
  awp X f (.region id ops false) Q ⟨tm,hp,nid,df,pn⟩:=by
 rw[uS] at h
 refine Ap2 hz ?_
 obtain⟨_,_,_,_,_,_,h1,h2⟩:=Af4 (Q:=Q) (ops:=ops) h
 simp only[ApX,sJ,pJ] at h1
 obtain⟨rfl,rfl,rfl,rfl,rfl,rfl⟩:=h1
 exact h2 hh
def AsB {α:Type} (P:Program) (ops:Array Oper) (vs:List Nat) (base:Nat) (nid:Nat) (df:List (Nat×List Nat)) (pn:Option D):List Oper->Nat->List Fp->List (Nat×V)->List (Nat×List C)->(List Oper->Nat->List Fp->List (Nat×V)->List (Nat×List C)->Option α)->Option α
 | [],i,pre,tm,hp,k=>rM pre λpre=>AoC i λi=>k [] i pre tm hp
 |o::l,i,pre,tm,hp,k=>match AgY P o tm hp with
  |false=>rM pre λpre=>AoC i λi=>k (o::l) i pre tm hp
  |true=>match zD o with
   |true=>none
   |false=>match eP P AdO ops vs (base+i) o ⟨tm,hp,nid,df,pn⟩ with
    |some (.val v s1,ft)=>match vZ o.dst v s1 with
     |some s2=>rM s2.tmps λtm=>uI s2.heap λhp=>fpK (ft.fill ⟨tm,hp,nid,df,pn⟩) λfp=>AsB P ops vs base nid df pn l (i+1) (pre++[fp]) tm hp k
     |none=>none
    |_=>none
theorem AgB {α:Type} {ops:Array Oper} {vs:List Nat} {base:Nat}:∀{l:List Oper} {i:Nat} {pre:List Fp} {tm:List (Nat×V)} {hp:List (Nat×List C)} {k:List Oper->Nat->List Fp->List (Nat×V)->List (Nat×List C)->Option α} {a:α},
  AsB X.P ops vs base nid df pn l i pre tm hp k=some a->∃l' i' pre' tm' hp',k l' i' pre' tm' hp'=some a/\(oO X ops vs base pre' l' i' Q ⟨tm',hp',nid,df,pn⟩->oO X ops vs base pre l i Q ⟨tm,hp,nid,df,pn⟩)
 | [],i,pre,tm,hp,k,a,h=>by
  simp only[AsB,iY,xI] at h
  exact⟨[],i,pre,_,_,h,λh=>h⟩
 |o::l,i,pre,tm,hp,k,a,h=>by
  simp only[AsB,iY,qB,Aq4,xI] at h
  split at h
  ·exact⟨o::l,i,pre,tm,hp,h,λh=>h⟩
  rename_i hl
  have hw:=AlF (ops:=ops) hl
  split at h
  ·simp at h
  rename_i hd
  split at h
  ·rename_i v s1 ft hop
   have hr1:=An9 hop hd
   split at h
   ·rename_i s2 hp
    have hr:s2=⟨s2.tmps,s2.heap,nid,df,pn⟩:=by
     rw[hr1] at hp
     exact Ab5 hp
    obtain⟨l',i',pre',tm',hp',h1,h2⟩:=AgB h
    refine⟨l',i',pre',tm',hp',h1,λhh=>AwA hw (λcall=>AiP hop call) hp ?_⟩
    have:=h2 hh
    rw[←hr] at this
    exact this
   simp at h
  simp at h
theorem BkV {ops:Array Oper} {vs:List Nat} {base i i':Nat} {pre pre':List Fp} {o:Oper} {l l':List Oper} (hl:AgY X.P o tm hp=true) (h:AsB X.P ops vs base nid df pn (o::l) i pre tm hp AiO=some (l',i',pre',tm',hp'))
  (hh:oO X ops vs base pre' l' i' Q ⟨tm',hp',nid,df,pn⟩):oO X ops vs base pre (o::l) i Q ⟨tm,hp,nid,df,pn⟩:=by
 obtain⟨_,_,_,_,_,h1,h2⟩:=AgB (Q:=Q) h
 simp only[AiO,sJ,pJ] at h1
 obtain⟨rfl,rfl,rfl,rfl,rfl⟩:=h1
 exact h2 hh
theorem BkT {ops:Array Oper} {vs:List Nat} {base i i':Nat} {pre pre':List Fp} {o:Oper} {l l':List Oper} (hw:wantedAt ops tm o=some false) (h:Ag9 X.P ops vs base nid df pn 1 (o::l) i pre tm hp AiO=some (l',i',pre',tm',hp'))
 (hh:oO X ops vs base pre' l' i' Q ⟨tm',hp',nid,df,pn⟩):oO X ops vs base pre (o::l) i Q ⟨tm,hp,nid,df,pn⟩:=don 1 h hh
theorem BkU {ops:Array Oper} {vs:List Nat} {base i i':Nat} {pre pre':List Fp} {o:Oper} {l l':List Oper} (hw:wantedAt ops tm o=some true) (hl:AgY X.P { o with guard:=none } tm hp=true) (h:Ag9 X.P ops vs base nid df pn 1 (o::l) i pre tm hp AiO=some (l',i',pre',tm',hp'))
 (hh:oO X ops vs base pre' l' i' Q ⟨tm',hp',nid,df,pn⟩):oO X ops vs base pre (o::l) i Q ⟨tm,hp,nid,df,pn⟩:=don 1 h hh
theorem BkX {id i' m:Nat} {ops:Array Oper} {pre':List Fp} {l':List Oper} (hn:AoC (nid+ops.size) some=some m) (hz:(noF (X.H f id)&&!(X.H f id).contains 4999999)=true)
  (h:AcQ (X.H f id) tm (λtm=>AsB X.P ops (rX ops) nid m df pn ops.toList 0 [] tm hp AiO)=some (l',i',pre',tm',hp')) (hh:oO X ops (rX ops) nid pre' l' i' Q ⟨tm',hp',m,df,pn⟩) :
  awp X f (.region id ops true) Q ⟨tm,hp,nid,df,pn⟩:=by
 rw[uS] at h
 rw[xI,sJ] at hn
 subst hn
 refine AwD hz ?_
 obtain⟨_,_,_,_,_,h1,h2⟩:=AgB (Q:=Q) h
 simp only[AiO,sJ,pJ] at h1
 obtain⟨rfl,rfl,rfl,rfl,rfl⟩:=h1
 exact h2 hh
class Ok {α:Type} (e:Option α) (S:outParam (α->Prop)):Prop where
 ok:∀{r},e=some r->S r
theorem Ok.mk' {α β:Type} {g:α->Option β} {M:α->β->Prop} (h:∀a r,g a=some r->M a r):∀a,Ok (g a) (M a):=λa=>⟨λ{r} e=>h a r e⟩
class fF (fn:outParam Func) (n:outParam Nat) (ρ:outParam Type) (E:outParam (ρ->aF)):Prop where
 is:True
theorem Bb3 {ε α:Type} (y:Except ε α):(∃e,y=.error e)\/∃a,y=.ok a:=by
 cases y with
 |error e=>exact .inl ⟨e,rfl⟩
 |ok a=>exact .inr ⟨a,rfl⟩
theorem AoG {o:Oper} {c:Go.Call} {fo:Operand} {g:Nat} {caps ids:List Nat} {args args' args'':List C} {lh lh' lh'':List (List C)} {v v':V} (hv:bF X g args'' lh (.ret v lh'))
  (ho:o.op=.call c) (hc:c.callee=.value fo) (hf:ev tm fo=some (.c (.fn g caps)))
  (ha:pF X.P tm c.args.toList c.argTypes.toList=some args) (hr:rW hp 64 ((args++caps.map λb=>C.ptr b 0).flatMap C.ids) []=some ids) (hi:aY (C.into ids) (args++caps.map λb=>.ptr b 0)=some args')
  (hst:args'.map C.still=args'') (hH:(X.H g 999999).isEmpty=true)
  (hb:pG hp ids=some lh) (hk:aY (aY (C.back (ids++bD nid (lh'.length-ids.length)))) lh'=some lh'') (hv':V.back (ids++bD nid (lh'.length-ids.length)) v=some v') (hn:AoC (nid+(lh'.length-ids.length)) some=some nid') :
  EvO X o ⟨tm,hp,nid,df,pn⟩ v' ⟨unviewIn (ids++bD nid (lh'.length-ids.length)) tm,dT (ids++bD nid (lh'.length-ids.length)) lh'' hp,nid',df,pn⟩ ⟨ids,ids,[]⟩:=
 AbN hv ho hc hf ha hr hi hst hH hb hk hv' (by rw[xI,sJ] at hn; exact hn)
theorem AwX {o:Oper} {c:Go.Call} {fo:Operand} {g:Nat} {caps ids:List Nat} {args args':List C} {lh lh' lh'':List (List C)} {v v':V} (hv:bF X g args' lh (.ret v lh'))
  (ho:o.op=.call c) (hc:c.callee=.value fo) (hf:ev tm fo=some (.c (.fn g caps)))
  (ha:pF X.P tm c.args.toList c.argTypes.toList=some args) (hr:rW hp 64 ((args++caps.map λb=>C.ptr b 0).flatMap C.ids) []=some ids) (hi:aY (C.into ids) (args++caps.map λb=>.ptr b 0)=some args')
  (hb:pG hp ids=some lh) (hk:aY (aY (C.back (ids++bD nid (lh'.length-ids.length)))) lh'=some lh'') (hv':V.back (ids++bD nid (lh'.length-ids.length)) v=some v') (hn:AoC (nid+(lh'.length-ids.length)) some=some nid') :
  EvO X o ⟨tm,hp,nid,df,pn⟩ v' ⟨unviewIn (ids++bD nid (lh'.length-ids.length)) tm,dT (ids++bD nid (lh'.length-ids.length)) lh'' hp,nid',df,pn⟩ ⟨ids,ids,[]⟩:=
 BgS hv ho hc hf ha hr hi hb hk hv' (by rw[xI,sJ] at hn; exact hn)
theorem BnI {ops:Array Oper} {o:Oper} {l:List Oper} {t:TypeId} (ho:o.op=.makeMap t none) (hw:wantedAt ops tm o=some true) (hv:noView nid tm=true)
  (hk:AqM o.dst (.c (.mp nid)) tm (λtm=>some tm)=some tm') (hn:AoC (nid+1) some=some nid') (h:qA X ops l Q ⟨tm',(nid,[.mdat []])::hp,nid',df,pn⟩):qA X ops (o::l) Q ⟨tm,hp,nid,df,pn⟩:=
 pmk ho hw hv hk (by rw[xI,sJ] at hn; exact hn) h
theorem BgU {α:Type} (g:α->D) (z:α) {xs:List α} {n:Int} {o:Oper} {t e:TypeId} {l c:Operand} {k k':IntKind} {sz:Nat} (hy:xP n z=some xs) (ho:o.op=.makeSlice t l c) (hs:rI l c=true) (ht:nK X.P t=some e)
  (hl:ev tm l=some (.c (.d (.int k n)))) (hc:ev tm c=some (.c (.d (.int k' n)))) (hz:((AdB X.P e).map (Ao5 X.P e)).bind V.toD=some (g z)) (hk:tsz X.P e=some sz) (hb:Nat.ble (X.P.bytesOf e) 1024=true) (hzl:(g z).cells.length=sz) (h0:Nat.ble 1 sz=true) (hnv:noView nid tm=true) (hn:AoC (nid+1) some=some nid') :
  EvO X o ⟨tm,hp,nid,df,pn⟩ (.c (.arr nid n.toNat sz)) ⟨tm,(nid,[.seq sz (xs.map g)])::hp,nid',df,pn⟩ eX.none:=
 Am7 g z hy ho hs ht hl hc hz hk hb hzl h0 hnv (by rw[xI,sJ] at hn; exact hn)
theorem BgV {zd:D} {y:Unit} {m:Int} {o:Oper} {t e:TypeId} {l c:Operand} {k k':IntKind} {sz:Nat} (hy:mkcap m=some y) (ho:o.op=.makeSlice t l c) (hs:rI l c=false) (ht:nK X.P t=some e)
 (hl:ev tm l=some (.c (.d (.int k 0)))) (hc:ev tm c=some (.c (.d (.int k' m)))) (hz:((AdB X.P e).map (Ao5 X.P e)).bind V.toD=some zd) (hk:tsz X.P e=some sz) (hb:Nat.ble (X.P.bytesOf e) 1024=true) (hzl:zd.cells.length=sz) (h0:Nat.ble 1 sz=true) :
 EvO X o ⟨tm,hp,nid,df,pn⟩ (.c (.own sz [])) ⟨tm,hp,nid,df,pn⟩ eX.none:=Bj7 id hy ho hs ht hl hc hz hk hb hzl h0
theorem BkD {o:Oper} {s s1:St} {ft:eX} {n:Nat} {a:Arr} (h:EvO X o s (.c (.full n [aI a])) s1 ft):EvO X o s (.c (.full n ([a].map aH))) s1 ft:=by simpa only [List.map_cons,List.map_nil,qU] using h
theorem BkF {o:Oper} {s s1:St} {ft:eX} {n:Nat} {a b:Arr} (h:EvO X o s (.c (.full n [aI a,aI b])) s1 ft):EvO X o s (.c (.full n ([a,b].map aH))) s1 ft:=by simpa only [List.map_cons,List.map_nil,qU] using h
theorem BkE {o:Oper} {s s1:St} {ft:eX} {n:Nat} {a:Node} (h:EvO X o s (.c (.full n [encNode a])) s1 ft):EvO X o s (.c (.full n ([a].map rQ))) s1 ft:=by simpa only [List.map_cons,List.map_nil,wH] using h
theorem BkG {o:Oper} {s s1:St} {ft:eX} {n:Nat} {a b:Node} (h:EvO X o s (.c (.full n [encNode a,encNode b])) s1 ft):EvO X o s (.c (.full n ([a,b].map rQ))) s1 ft:=by simpa only [List.map_cons,List.map_nil,wH] using h
theorem BkY {o:Oper} {s s1:St} {ft:eX} {n:Nat} {a b c:Node} (h:EvO X o s (.c (.full n [encNode a,encNode b,encNode c])) s1 ft):EvO X o s (.c (.full n ([a,b,c].map rQ))) s1 ft:=by simpa only [List.map_cons,List.map_nil,wH] using h
def AftO (X:Ctx) (ops:Array Oper) (o:Oper) (l:List Oper) (Q:AX->St->Prop) (s:St) (v:V) (s1:St) (ft:eX):Prop:=EvO X o s v s1 ft->qA X ops (o::l) Q s
theorem po1 {ops:Array Oper} {o:Oper} {l:List Oper} {v:V} {tm1:List (Nat×V)} {hp1:List (Nat×List C)} {ft:eX} {nid1:Nat} (hop:EvO X o ⟨tm,hp,nid,df,pn⟩ v ⟨tm1,hp1,nid1,df,pn⟩ ft) (h:AftO X ops o l Q ⟨tm,hp,nid,df,pn⟩ v ⟨tm1,hp1,nid1,df,pn⟩ ft):qA X ops (o::l) Q ⟨tm,hp,nid,df,pn⟩:=h hop
theorem po2 {ops:Array Oper} {o:Oper} {l:List Oper} {v:V} {tm1:List (Nat×V)} {hp1:List (Nat×List C)} {ft:eX} {nid1:Nat} (hw:wantedAt ops tm o=some true) (hk:AqM o.dst v tm1 (λtm=>uI hp1 λhp=>some (tm,hp))=some (tm',hp')) (h:qA X ops l Q ⟨tm',hp',nid1,df,pn⟩) :
 AftO X ops o l Q ⟨tm,hp,nid,df,pn⟩ v ⟨tm1,hp1,nid1,df,pn⟩ ft:=λhop=>po hop hw hk h
def BjY (X:Ctx) (ops:Array Oper) (vs:List Nat) (base:Nat) (pre:List Fp) (o:Oper) (l:List Oper) (i:Nat) (Q:AX->St->Prop) (s:St) (v:V) (s1:St) (ft:eX):Prop:=EvO X o s v s1 ft->oO X ops vs base pre (o::l) i Q s
theorem pd1 {ops:Array Oper} {vs:List Nat} {base i:Nat} {pre:List Fp} {o:Oper} {l:List Oper} {v:V} {tm1:List (Nat×V)} {hp1:List (Nat×List C)} {ft:eX} {nid1:Nat} (hop:EvO X o ⟨tm,hp,nid,df,pn⟩ v ⟨tm1,hp1,nid1,df,pn⟩ ft)
 (h:BjY X ops vs base pre o l i Q ⟨tm,hp,nid,df,pn⟩ v ⟨tm1,hp1,nid1,df,pn⟩ ft):oO X ops vs base pre (o::l) i Q ⟨tm,hp,nid,df,pn⟩:=h hop
theorem pd2 {ops:Array Oper} {vs:List Nat} {base i i':Nat} {pre pre':List Fp} {o:Oper} {l:List Oper} {v:V} {tm1:List (Nat×V)} {hp1:List (Nat×List C)} {ft:eX} {nid1:Nat} (hw:wantedAt ops tm o=some true) (hm:aR o=false)
 (hk:(vZ o.dst (hZ vs o.dst v) (afterApp o ⟨tm1,hp1,nid1,df,pn⟩)).bind (λs2=>rM s2.tmps λtm=>uI s2.heap λhp=>some (tm,hp))=some (tm',hp'))
 (hf:fpK ((rR ops o ⟨tm,hp,nid,df,pn⟩ (hZ vs o.dst v) ⟨tm1,hp1,nid1,df,pn⟩ ft).fill ⟨tm',hp',nid1,df,pn⟩) (λfp=>rM (pre++[fp]) some)=some pre') (hi:AoC (i+1) some=some i')
 (h:oO X ops vs base pre' l i' Q ⟨tm',hp',nid1,df,pn⟩):BjY X ops vs base pre o l i Q ⟨tm,hp,nid,df,pn⟩ v ⟨tm1,hp1,nid1,df,pn⟩ ft:=λhop=>pd hop hw hm hk hf (by rw[xI,sJ] at hi; exact hi) h
class Jn (f kd key:Nat) (σ:Type) where
 tp:σ->List (Nat×V)
 cp:σ->List (Nat×List (Nat×C))
def jT (ps:List (Nat×V)) (tm:List (Nat×V)):List Nat->List (Nat×V)
 | []=>[]
 |t::r=>match look t ps with
  |some v=>(t,v)::jT ps tm r
  |none=>match look t tm with
   |some v=>(t,v.calm)::jT ps tm r
   |none=>jT ps tm r
def jC:List (Nat×C)->List C->List C
 | [],cs=>cs
 |(o,c)::r,cs=>jC r (cs.set o c)
def jH (ps:List (Nat×List (Nat×C))) (n:Nat):List (Nat×List C)->List (Nat×List C)
 | []=>[]
 |(b,cs)::r=>match Nat.blt b n with
  |true=>match look b ps with
   |some l=>(b,jC l cs)::jH ps n r
   |none=>(b,cs)::jH ps n r
  |false=>jH ps n r
def stJ {σ:Type} (tp:σ->List (Nat×V)) (cp:σ->List (Nat×List (Nat×C))) (ks:List Nat) (n:Nat) (tm:List (Nat×V)) (hp:List (Nat×List C)) (df:List (Nat×List Nat)) (pn:Option D) (y:σ):St:=
 ⟨jT (tp y) tm ks,jH (cp y) n hp,n,df,pn⟩
def AzR {α:Type} (c:C) (k:C->α):α:=match c with
 |.d x=>k (.d x)
 |.own n xs=>k (.own n xs)
 |.ptr b o=>k (.ptr b o)
 |.nilptr=>k .nilptr
 |.fn f l=>k (.fn f l)
 |.nilfn=>k .nilfn
 |.bfn f x=>k (.bfn f x)
 |.nilmap=>k .nilmap
 |.nilchan=>k .nilchan
 |.nilsl n=>k (.nilsl n)
 |.full n xs=>k (.full n xs)
 |.arr b n s=>k (.arr b n s)
 |.mp b=>k (.mp b)
 |.ment l=>k (.ment l)
 |.mdat l=>k (.mdat l)
 |.seq n l=>k (.seq n l)
 |.hid=>k .hid
 |.undef=>k .undef
theorem AsV {α:Type} {c:C} {k:C->α}:AzR c k=k c:=by cases c<;>rfl
def AzS {α:Type} (v:V) (k:V->α):α:=match v with
 |.c x=>AzR x λx=>k (.c x)
 |.view l n xs=>k (.view l n xs)
 |.rptr cs=>k (.rptr cs)
 |.vagg cs=>k (.vagg cs)
 |.vtup n cs=>k (.vtup n cs)
 |.tuple cs=>k (.tuple cs)
theorem BcT {α:Type} {v:V} {k:V->α}:AzS v k=k v:=by cases v<;>simp only[AzS,AsV]
def Aq3 {α:Type}:List (Nat×V)->(List (Nat×V)->α)->α
 | [],k=>k []
 |(t,v)::r,k=>AzS v λv=>Aq3 r λr=>k ((t,v)::r)
theorem AmF {α:Type}:∀{l:List (Nat×V)} {k:List (Nat×V)->α},Aq3 l k=k l
 | [],_=>rfl
 |(t,v)::r,k=>by simp only[Aq3,BcT,AmF]
def AoH {α:Type}:List C->(List C->α)->α
 | [],k=>k []
 |c::r,k=>AzR c λc=>AoH r λr=>k (c::r)
theorem Aq1 {α:Type}:∀{l:List C} {k:List C->α},AoH l k=k l
 | [],_=>rfl
 |c::r,k=>by simp only[AoH,AsV,Aq1]
def Aq2 {α:Type}:List (Nat×List C)->(List (Nat×List C)->α)->α
 | [],k=>k []
 |(b,cs)::r,k=>AoH cs λcs=>Aq2 r λr=>k ((b,cs)::r)
theorem AmE {α:Type}:∀{l:List (Nat×List C)} {k:List (Nat×List C)->α},Aq2 l k=k l
 | [],_=>rfl
 |(b,cs)::r,k=>by simp only[Aq2,Aq1,AmE]
theorem nfQ {s:St} (hn:Aq3 s.tmps (λtm=>Aq2 s.heap λhp=>AoC s.nid λn=>some (tm,hp,n))=some (tm',hp',nid')) (h:Q .normal ⟨tm',hp',nid',s.defers,s.pan⟩):Q .normal s:=by
 rw[AmF,AmE,xI] at hn
 simp only[sJ,pJ] at hn
 obtain⟨rfl,rfl,rfl⟩:=hn
 exact h
theorem nJb {σ:Type} {y:σ} {id k0:Nat} {ks:List Nat} {c:Code} [J:Jn f 0 id σ] (hk:X.H f (1000000+id)=k0::ks) (h1:awp X f (.block id c) (iL (stJ J.tp J.cp ks nid tm hp df pn) y) ⟨tm,hp,nid,df,pn⟩) (h2:Q .normal (stJ J.tp J.cp ks nid tm hp df pn y)) :
 awp X f (.block id c) Q ⟨tm,hp,nid,df,pn⟩:=by exact gI _ h1 h2
theorem nJc {σ:Type} {y:σ} {t k0:Nat} {ks:List Nat} {a b:Code} [J:Jn f 1 t σ] (hk:X.H f (vK a b)=k0::ks) (h1:awp X f (.cond (.tmp t) a b) (iL (stJ J.tp J.cp ks nid tm hp df pn) y) ⟨tm,hp,nid,df,pn⟩) (h2:Q .normal (stJ J.tp J.cp ks nid tm hp df pn y)) :
 awp X f (.cond (.tmp t) a b) Q ⟨tm,hp,nid,df,pn⟩:=by exact gI _ h1 h2
theorem sJb {fn:Func} {n:Nat} {ρ σ:Type} {E:ρ->aF} [fF fn n ρ E] {res:Except ρ σ} {id k0:Nat} {ks:List Nat} {c:Code} [J:Jn f 0 id σ] (hk:X.H f (1000000+id)=k0::ks)
  (h1:awp X f (.block id c) (lW X fn n E (stJ J.tp J.cp ks nid tm hp df pn) res) ⟨tm,hp,nid,df,pn⟩) (h2:∀y,res=.ok y->Q .normal (stJ J.tp J.cp ks nid tm hp df pn y))
  (h3:∀r x s',res=.error r->x.isOut=true->yD X fn n (E r) x s'->Q x s'):awp X f (.block id c) Q ⟨tm,hp,nid,df,pn⟩:=by
 exact vI fn n E _ h1 h2 h3
theorem sJc {fn:Func} {n:Nat} {ρ σ:Type} {E:ρ->aF} [fF fn n ρ E] {res:Except ρ σ} {t k0:Nat} {ks:List Nat} {a b:Code} [J:Jn f 1 t σ] (hk:X.H f (vK a b)=k0::ks)
  (h1:awp X f (.cond (.tmp t) a b) (lW X fn n E (stJ J.tp J.cp ks nid tm hp df pn) res) ⟨tm,hp,nid,df,pn⟩) (h2:∀y,res=.ok y->Q .normal (stJ J.tp J.cp ks nid tm hp df pn y))
  (h3:∀r x s',res=.error r->x.isOut=true->yD X fn n (E r) x s'->Q x s'):awp X f (.cond (.tmp t) a b) Q ⟨tm,hp,nid,df,pn⟩:=by
 exact vI fn n E _ h1 h2 h3
theorem nL {σ:Type} {y:σ} {st:σ->St} {id:Nat} {c:Code} {s s1:St} {clean:St->Option St} {hk:List Nat} {n:Nat} (hv:cL X f c clean (aL id hk n (iL st y)) s1) (hc:clean s=some s1) (hc1:clean s1=some s1) (he:X.H f (1000000+id)=hk) (hcl:aJ (X.H f (lJ c)) s.nid=clean) (hn:s.nid=n)
  (h2:Q .normal (st y)):awp X f (.block id (.loop c)) Q s:=by
 subst he hcl hn
 exact gI st (yK (dS (bW hc hc1 hv))) h2
theorem sL {fn:Func} {m:Nat} {ρ σ:Type} {E:ρ->aF} {res:Except ρ σ} {st:σ->St} {id:Nat} {c:Code} {s s1:St} {clean:St->Option St} {hk:List Nat} {n:Nat} (hv:cL X f c clean (aL id hk n (lW X fn m E st res)) s1) (hc:clean s=some s1) (hc1:clean s1=some s1) (he:X.H f (1000000+id)=hk) (hcl:aJ (X.H f (lJ c)) s.nid=clean) (hn:s.nid=n)
  (h2:∀y,res=.ok y->Q .normal (st y)) (h3:∀r x s',res=.error r->x.isOut=true->yD X fn m (E r) x s'->Q x s'):awp X f (.block id (.loop c)) Q s:=by
 subst he hcl hn
 exact vI fn m E st (yK (dS (bW hc hc1 hv))) h2 h3
theorem xL {i:Nat} {hk':List Nat} {n':Nat} {ρ σ:Type} {res:Except ρ σ} {st1:ρ->St} {st:σ->St} {id:Nat} {c:Code} {s s1:St} {clean:St->Option St} {hk:List Nat} {n:Nat} (hv:cL X f c clean (aL id hk n (Bc1 i hk' n' st1 st res)) s1) (hc:clean s=some s1) (hc1:clean s1=some s1) (he:X.H f (1000000+id)=hk) (hcl:aJ (X.H f (lJ c)) s.nid=clean) (hn:s.nid=n)
  (h2:∀y,res=.ok y->Q .normal (st y)) (h3:∀y s',res=.error y->zF hk' n' s'=some (st1 y)->Q (.exit i) s'):awp X f (.block id (.loop c)) Q s:=by
 subst he hcl hn
 exact BaT i hk' n' st1 st (yK (dS (bW hc hc1 hv))) h2 h3
theorem aB {fn:Func} {code:Code} {args args':List C} {lh:List (List C)} {ρ:Type} (E:ρ->aF) {r:ρ} {n:Nat} (hE:X.E f=none) (hf:X.P.funcs[f]?=some fn) (hb:fn.body=some code) (hst:(if (X.H f 999999).isEmpty then args.map C.still else args)=args') (hl:args'.length=fn.params.size+fn.nfree)
  (hn:AoC lh.length some=some n) (ht:Aq3 (oK 0 (args'.map λc=>V.c c.plain)) (λtm=>Aq2 (oK 0 lh) λhp=>some (tm,hp))=some (tm,hp)) (hlow:Nat.blt f zQ=true) (h:fF fn n ρ E->awp X f code (yD X fn n (E r)) ⟨tm,hp,n,[],none⟩):bF X f args lh (E r):=by
 rw[AmF,AmE] at ht
 rw[xI,sJ] at hn
 simp only[sJ,pJ] at ht
 exact kM hE hf hb hst hl ht.1 ht.2 hn (h ⟨trivial⟩) hlow
end
end Go.AM
namespace Go.AM
open Go
def Be1 (X:Ctx) (f:Nat) (o:Operand) (a b:Code) (Q:AX->St->Prop) (s:St):Prop:=awp X f (.cond o a b) Q s
section
variable {X:Ctx} {f:Nat} {Q:AX->St->Prop} {tm tm':List (Nat×V)} {hp hp':List (Nat×List C)} {nid nid':Nat} {df df':List (Nat×List Nat)} {pn pn':Option D}
theorem ctC {o:Operand} {a b:Code} {c:Bool} (hc:ev tm o=some (.c (.d (.bool c)))) (e:c=true) (h:awp X f a (fW (X.H f (vK a b)) nid Q) ⟨tm,hp,nid,df,pn⟩):Be1 X f o a b Q ⟨tm,hp,nid,df,pn⟩:=ct hc e h
theorem cfC {o:Operand} {a b:Code} {c:Bool} (hc:ev tm o=some (.c (.d (.bool c)))) (e:c=false) (h:awp X f b (fW (X.H f (vK a b)) nid Q) ⟨tm,hp,nid,df,pn⟩):Be1 X f o a b Q ⟨tm,hp,nid,df,pn⟩:=cf hc e h
theorem jnb {σ:Type} {y:σ} {id k0:Nat} {ks:List Nat} {c:Code} [J:Jn f 0 id σ] (hk:X.H f (1000000+id)=k0::ks) (h1:awp X f c (aL id (X.H f (1000000+id)) nid (iL (stJ J.tp J.cp ks nid tm hp df pn) y)) ⟨tm,hp,nid,df,pn⟩) (h2:Q .normal (stJ J.tp J.cp ks nid tm hp df pn y)) :
 awp X f (.block id c) Q ⟨tm,hp,nid,df,pn⟩:=nJb hk (yK h1) h2
theorem jnc {σ:Type} {y:σ} {t k0:Nat} {ks:List Nat} {a b:Code} [J:Jn f 1 t σ] (hk:X.H f (vK a b)=k0::ks) (h1:Be1 X f (.tmp t) a b (iL (stJ J.tp J.cp ks nid tm hp df pn) y) ⟨tm,hp,nid,df,pn⟩) (h2:Q .normal (stJ J.tp J.cp ks nid tm hp df pn y)) :
 awp X f (.cond (.tmp t) a b) Q ⟨tm,hp,nid,df,pn⟩:=nJc hk h1 h2
theorem jsb {fn:Func} {n:Nat} {ρ σ:Type} {E:ρ->aF} [fF fn n ρ E] {res:Except ρ σ} {id k0:Nat} {ks:List Nat} {c:Code} [J:Jn f 0 id σ] (hk:X.H f (1000000+id)=k0::ks)
 (h1:awp X f c (aL id (X.H f (1000000+id)) nid (lW X fn n E (stJ J.tp J.cp ks nid tm hp df pn) res)) ⟨tm,hp,nid,df,pn⟩) (h2:∀y,res=.ok y->Q .normal (stJ J.tp J.cp ks nid tm hp df pn y))
 (h3:∀r x s',res=.error r->x.isOut=true->yD X fn n (E r) x s'->Q x s'):awp X f (.block id c) Q ⟨tm,hp,nid,df,pn⟩:=sJb hk (yK h1) h2 h3
theorem jsc {fn:Func} {n:Nat} {ρ σ:Type} {E:ρ->aF} [fF fn n ρ E] {res:Except ρ σ} {t k0:Nat} {ks:List Nat} {a b:Code} [J:Jn f 1 t σ] (hk:X.H f (vK a b)=k0::ks)
 (h1:Be1 X f (.tmp t) a b (lW X fn n E (stJ J.tp J.cp ks nid tm hp df pn) res) ⟨tm,hp,nid,df,pn⟩) (h2:∀y,res=.ok y->Q .normal (stJ J.tp J.cp ks nid tm hp df pn y))
 (h3:∀r x s',res=.error r->x.isOut=true->yD X fn n (E r) x s'->Q x s'):awp X f (.cond (.tmp t) a b) Q ⟨tm,hp,nid,df,pn⟩:=sJc hk h1 h2 h3
end
theorem Wk {p:Prop} (w:p:=by
 repeat' first
 |(subst hz; first|refine nfQ rfl ?_|skip)
 |(show awp _ _ _ _ _; first
    |refine Au5 ?_
    |refine rnW rfl rfl ?_
    |refine BkX rfl rfl rfl ?_
    |refine BaU ?_
    |refine AwE ?_
    |refine AwF ?_
    |refine ct rfl rfl ?_
    |refine cf rfl rfl ?_
    |(rcases AlC h with ⟨hc,h⟩|⟨hc,h⟩<;>first|refine ct rfl hc ?_|refine cf rfl hc ?_)
    |refine As4 ?_
    |refine As3 ?_
    |(obtain⟨y,hk,h⟩:=Ag7 h
      have hv:=Ok.ok hk
      first
      |refine nL hv rfl rfl rfl rfl rfl (nfQ rfl ?_)
      |refine sL hv rfl rfl rfl rfl rfl (λz hz=>?_) (λr x s' hz hx he=>?_)
      |refine xL hv rfl rfl rfl rfl rfl (λz hz=>?_) (λz s' hz hS=>?_))
    |(obtain⟨y,hs,h⟩:=Ag7 h
      first
      |refine jnb (y:=y) rfl ((λh=>?_) hs) (nfQ rfl ?_)
      |refine jnc (y:=y) rfl ((λh=>?_) hs) (nfQ rfl ?_)
      |refine jsb (res:=y) rfl ((λh=>?_) hs) (λz hz=>?_) (λr x s' hz hx he=>?_)
      |refine jsc (res:=y) rfl ((λh=>?_) hs) (λz hz=>?_) (λr x s' hz hx he=>?_))
    |refine yK ?_)
 |(show Be1 _ _ _ _ _ _ _; (rcases AlC h with ⟨hc,h⟩|⟨hc,h⟩<;>first|refine ctC rfl hc ?_|refine cfC rfl hc ?_))
 |(show qA _ _ _ _ _; first
    |refine AkH ?_
    |refine onW rfl rfl ?_
    |refine onF rfl rfl ?_
    |refine onT rfl rfl rfl ?_
    |(rcases AlC h with ⟨hc,h⟩|⟨hc,h⟩<;>first|refine gt rfl rfl rfl rfl hc rfl ?_|refine gf rfl rfl rfl rfl hc rfl ?_)
    |refine po1 (nR rfl rfl rfl rfl rfl rfl rfl) ?_
    |refine po1 (BkD (Aa3 rfl)) ?_
    |refine po1 (BkF (Aa3 rfl)) ?_
    |refine po1 (BkE (Aa3 rfl)) ?_
    |refine po1 (BkG (Aa3 rfl)) ?_
    |refine po1 (BkY (Aa3 rfl)) ?_
    |refine po1 (Bi5 rfl rfl rfl rfl rfl rfl) ?_
    |refine po1 (BiC (by kernel_rfl) rfl rfl rfl rfl rfl) ?_
    |refine po1 (BiD (by kernel_rfl) rfl rfl rfl rfl rfl) ?_
    |refine po1 (BeS _ rfl rfl rfl rfl rfl rfl rfl) ?_
    |refine po1 (BeR _ rfl rfl rfl rfl rfl rfl rfl) ?_
    |refine po1 (AwY (AqV _) (.inl rfl) rfl rfl rfl rfl rfl rfl) ?_
    |refine po1 (AwY (AqV _) (.inr rfl) rfl rfl rfl rfl rfl rfl) ?_
    |refine po1 (AwY (AqU _) (.inl rfl) rfl rfl rfl rfl rfl rfl) ?_
    |refine po1 (AwY (AqU _) (.inr rfl) rfl rfl rfl rfl rfl rfl) ?_
    |refine BnI rfl rfl rfl rfl rfl ?_
    |(obtain⟨y,hk,h⟩:=Ag7 h
      first
      |(have hv:=Ok.ok hk
        first
        |refine po1 (kJ hv rfl rfl rfl rfl rfl rfl rfl rfl rfl) ?_
        |refine po1 (AoG hv rfl rfl rfl rfl rfl rfl rfl rfl rfl rfl rfl rfl) ?_
        |refine po1 (BeO hv rfl rfl rfl rfl rfl rfl rfl) ?_
        |refine po1 (AwX hv rfl rfl rfl rfl rfl rfl rfl rfl rfl rfl) ?_
        |refine po1 (BeP hv rfl rfl rfl rfl rfl rfl rfl rfl rfl) ?_
        |(rcases Bb3 y with ⟨e,rfl⟩|⟨y,rfl⟩<;>first
           |refine pp (AzO hv rfl rfl rfl rfl rfl rfl rfl rfl rfl rfl) rfl rfl ?_
           |refine po1 (kJ hv rfl rfl rfl rfl rfl rfl rfl rfl rfl) ?_
           |refine po1 (AoG hv rfl rfl rfl rfl rfl rfl rfl rfl rfl rfl rfl rfl) ?_))
      |refine po1 (nQ aI qU hk rfl rfl rfl rfl rfl) ?_
      |refine po1 (nQ encNode wH hk rfl rfl rfl rfl rfl) ?_
      |refine po1 (nQ _ (λ_=>rfl) hk rfl rfl rfl rfl rfl) ?_
      |refine po1 (BiA hk rfl rfl rfl rfl) ?_
      |refine po1 (AgO hk rfl rfl rfl rfl rfl rfl rfl rfl rfl rfl rfl rfl rfl rfl) ?_
      |refine po1 (Bi4 hk rfl rfl rfl rfl rfl rfl rfl rfl rfl rfl rfl rfl) ?_
      |refine po1 (AwW hk rfl rfl rfl rfl rfl rfl rfl rfl rfl rfl rfl rfl) ?_
      |refine po1 (AwV hk rfl rfl rfl rfl rfl rfl rfl rfl rfl rfl rfl rfl) ?_
      |refine po1 (Bb2 hk rfl rfl rfl rfl rfl rfl rfl rfl rfl rfl rfl rfl rfl) ?_
      |refine po1 (AsP hk rfl rfl rfl rfl rfl rfl rfl) ?_
      |refine po1 (Am6 hk rfl rfl rfl rfl rfl rfl) ?_
      |refine po1 (BgT hk rfl rfl rfl rfl rfl rfl) ?_
      |refine po1 (BeQ hk rfl rfl rfl rfl rfl rfl rfl) ?_
      |refine po1 (BiB hk rfl rfl rfl rfl rfl) ?_
      |refine po1 (BeT hk rfl rfl rfl rfl) ?_
      |refine po1 (BkI hk rfl rfl rfl rfl) ?_
      |refine po1 (Bi9 hk rfl rfl rfl) ?_
      |refine po1 (Aa1 hk rfl rfl rfl rfl rfl) ?_
      |refine po1 (BkH _ hk rfl rfl rfl (λ_=>⟨rfl,rfl,rfl⟩) (λ_=>rfl) rfl rfl) ?_
      |refine po1 (ApK _ hk rfl rfl (λ_=>⟨rfl,rfl,rfl⟩) rfl rfl) ?_
      |refine po1 (est _ hk rfl rfl (λ_=>⟨rfl,rfl,rfl⟩) rfl rfl rfl rfl) ?_
      |refine po1 (BgU _ _ hk rfl rfl rfl rfl rfl rfl rfl rfl rfl rfl rfl rfl) ?_
      |refine po1 (BgV hk rfl rfl rfl rfl rfl rfl rfl rfl rfl rfl) ?_
      |refine po1 (Bi6 _ hk rfl rfl rfl rfl rfl rfl rfl rfl rfl rfl) ?_
      |refine po1 (Bi7 hk rfl rfl rfl) ?_
      |refine po1 (Bi8 hk rfl rfl rfl) ?_
      |refine po1 (BgZ hk rfl rfl rfl rfl rfl rfl) ?_
      |refine po1 (AgO hk (show List.map AcB _=List.map (D.int .u8) (List.map u8I _) from by rw[List.map_map]; rfl) rfl rfl rfl rfl rfl rfl rfl rfl rfl rfl rfl rfl rfl) ?_
      |refine po1 (AwW hk (show List.map AcB _=List.map (D.int .u8) (List.map u8I _) from by rw[List.map_map]; rfl) rfl rfl rfl rfl rfl rfl rfl rfl rfl rfl rfl) ?_
      |refine po1 (Bb2 hk (show List.map AcB _=List.map (D.int .u8) (List.map u8I _) from by rw[List.map_map]; rfl) rfl rfl rfl rfl rfl rfl rfl rfl rfl rfl rfl rfl) ?_)
    |refine on 1 rfl ?_)
 |(show oO _ _ _ _ _ _ _ _ _; first
    |refine dz' (by kernel_rfl) ?_
    |refine BkV rfl rfl ?_
    |refine BkT rfl rfl ?_
    |refine BkU rfl rfl rfl ?_
    |(rcases AlC h with ⟨hc,h⟩|⟨hc,h⟩<;>first|refine dgt rfl rfl rfl rfl hc rfl ?_|refine dgf rfl rfl rfl rfl hc rfl ?_)
    |refine pd1 (nR rfl rfl rfl rfl rfl rfl rfl) ?_
    |refine pd1 (BkD (Aa3 rfl)) ?_
    |refine pd1 (BkF (Aa3 rfl)) ?_
    |refine pd1 (BkE (Aa3 rfl)) ?_
    |refine pd1 (BkG (Aa3 rfl)) ?_
    |refine pd1 (Bi5 rfl rfl rfl rfl rfl rfl) ?_
    |refine pd1 (BiC (by kernel_rfl) rfl rfl rfl rfl rfl) ?_
    |refine pd1 (BiD (by kernel_rfl) rfl rfl rfl rfl rfl) ?_
    |refine pd1 (AwY (AqU _) (.inr rfl) rfl rfl rfl rfl rfl rfl) ?_
    |refine pd1 (AwY (AqU _) (.inl rfl) rfl rfl rfl rfl rfl rfl) ?_
    |refine pd1 (AwY (AqV _) (.inr rfl) rfl rfl rfl rfl rfl rfl) ?_
    |refine pd1 (AwY (AqV _) (.inl rfl) rfl rfl rfl rfl rfl rfl) ?_
    |refine pd1 (BeR _ rfl rfl rfl rfl rfl rfl rfl) ?_
    |refine pd1 (BeS _ rfl rfl rfl rfl rfl rfl rfl) ?_
    |(obtain⟨y,hk,h⟩:=Ag7 h
      first
      |(have hv:=Ok.ok hk
        first
        |refine pd1 (kJ hv rfl rfl rfl rfl rfl rfl rfl rfl rfl) ?_
        |refine pd1 (AoG hv rfl rfl rfl rfl rfl rfl rfl rfl rfl rfl rfl rfl) ?_
        |refine pd1 (BeO hv rfl rfl rfl rfl rfl rfl rfl) ?_
        |refine pd1 (AwX hv rfl rfl rfl rfl rfl rfl rfl rfl rfl rfl) ?_
        |refine pd1 (BeP hv rfl rfl rfl rfl rfl rfl rfl rfl rfl) ?_
        |(rcases Bb3 y with ⟨e,rfl⟩|⟨y,rfl⟩<;>first
           |refine dp rfl (AzO hv rfl rfl rfl rfl rfl rfl rfl rfl rfl rfl) (AzO hv rfl rfl rfl rfl rfl rfl rfl rfl rfl rfl) rfl rfl rfl rfl (by kernel_rfl) ?_
           |refine pd1 (kJ hv rfl rfl rfl rfl rfl rfl rfl rfl rfl) ?_
           |refine pd1 (AoG hv rfl rfl rfl rfl rfl rfl rfl rfl rfl rfl rfl rfl) ?_))
      |refine pd1 (nQ aI qU hk rfl rfl rfl rfl rfl) ?_
      |refine pd1 (nQ encNode wH hk rfl rfl rfl rfl rfl) ?_
      |refine pd1 (nQ _ (λ_=>rfl) hk rfl rfl rfl rfl rfl) ?_
      |refine pd1 (BiA hk rfl rfl rfl rfl) ?_
      |refine pd1 (AgO hk rfl rfl rfl rfl rfl rfl rfl rfl rfl rfl rfl rfl rfl rfl) ?_
      |refine pd1 (Bi4 hk rfl rfl rfl rfl rfl rfl rfl rfl rfl rfl rfl rfl) ?_
      |refine pd1 (AwW hk rfl rfl rfl rfl rfl rfl rfl rfl rfl rfl rfl rfl) ?_
      |refine pd1 (AwV hk rfl rfl rfl rfl rfl rfl rfl rfl rfl rfl rfl rfl) ?_
      |refine pd1 (Bb2 hk rfl rfl rfl rfl rfl rfl rfl rfl rfl rfl rfl rfl rfl) ?_
      |refine pd1 (AsP hk rfl rfl rfl rfl rfl rfl rfl) ?_
      |refine pd1 (Am6 hk rfl rfl rfl rfl rfl rfl) ?_
      |refine pd1 (BgT hk rfl rfl rfl rfl rfl rfl) ?_
      |refine pd1 (BeQ hk rfl rfl rfl rfl rfl rfl rfl) ?_
      |refine pd1 (BiB hk rfl rfl rfl rfl rfl) ?_
      |refine pd1 (BeT hk rfl rfl rfl rfl) ?_
      |refine pd1 (BkI hk rfl rfl rfl rfl) ?_
      |refine pd1 (Bi9 hk rfl rfl rfl) ?_
      |refine pd1 (Aa1 hk rfl rfl rfl rfl rfl) ?_
      |refine pd1 (BkH _ hk rfl rfl rfl (λ_=>⟨rfl,rfl,rfl⟩) (λ_=>rfl) rfl rfl) ?_
      |refine pd1 (ApK _ hk rfl rfl (λ_=>⟨rfl,rfl,rfl⟩) rfl rfl) ?_
      |refine pd1 (est _ hk rfl rfl (λ_=>⟨rfl,rfl,rfl⟩) rfl rfl rfl rfl) ?_
      |refine pdm _ _ hk rfl rfl rfl rfl rfl rfl rfl rfl rfl rfl rfl rfl rfl rfl rfl ?_
      |refine pda _ hk (As1 _ rfl) rfl rfl rfl rfl rfl rfl rfl rfl rfl rfl rfl rfl rfl rfl rfl rfl rfl rfl rfl rfl ?_
      |(obtain⟨_,hk1,hk⟩:=AvZ hk
        refine pda _ hk (Au2 _ hk1 rfl) rfl rfl rfl rfl rfl rfl rfl rfl rfl rfl rfl rfl rfl rfl rfl rfl rfl rfl rfl rfl ?_)
      |refine pd1 (Bi7 hk rfl rfl rfl) ?_
      |refine pd1 (Bi8 hk rfl rfl rfl) ?_
      |refine pd1 (AgO hk (show List.map AcB _=List.map (D.int .u8) (List.map u8I _) from by rw[List.map_map]; rfl) rfl rfl rfl rfl rfl rfl rfl rfl rfl rfl rfl rfl rfl) ?_)
    |refine don 1 rfl ?_)
 |refine po2 rfl rfl ?_
 |refine pd2 rfl rfl rfl rfl rfl ?_
 |refine kW.normal ?_
 |refine kW.ret ?_
 |refine kW.exit ?_
 |refine kW.pan ?_
 |refine kW.out hx ?_
 |refine fW.ret ?_
 |refine cn rfl ?_
 |refine fW.exit ?_
 |refine fW.pan ?_
 |refine fW.out hx ?_
 |refine aL.ret ?_
 |refine eh rfl ?_
 |refine en rfl ?_
 |refine aL.there rfl ?_
 |refine aL.pan ?_
 |refine aL.out hx ?_
 |refine aL.here hS ?_
 |refine cD.normal ?_
 |refine cD.ret ?_
 |refine cD.exit ?_
 |refine cD.pan ?_
 |refine cD.out hx ?_
 |(cases h; done)
 |(have hv:=Ok.ok h; exact bW rfl rfl hv)
 |(cases h; first
    |exact .ret rfl rfl
    |exact .ok rfl
    |exact .err rfl (.ret rfl rfl)
    |exact he
    |exact .err hx he
    |exact .normal rfl rfl
    |exact .err rfl (.normal rfl rfl)
    |exact .pan rfl rfl
    |exact .err rfl (.pan rfl rfl)
    |exact ex1 rfl rfl)):p:=w
end Go.AM
namespace Go.AM.Seat
open Go Go.AM Go.Proofs
structure Env where
 names:(List Str)
 vals:(List Arr)
 deriving Inhabited
def encEnv (x:Env):D:=.agg [(.list 1 (List.map D.str x.names)),(.list 2 (List.map aH x.vals))]
structure pE where
 left:Arr
 right:Arr
 deriving Inhabited
def Ax0 (x:pE):D:=.agg [(.list 1 (List.map (D.int .i64) x.left.shape)),(.list 3 (List.map aC x.left.cells)),(.list 1 (List.map (D.int .i64) x.right.shape)),(.list 3 (List.map aC x.right.cells))]
structure dD where
 left:Int
 used:Int
 deriving Inhabited
structure aG where
 fuel:dD
 cells:Int
 deriving Inhabited
structure cC where
 op_:Int
 turned:Bool
 deriving Inhabited
def rZ (x:cC):D:=.agg [(.int .i64 x.op_),(.bool x.turned)]
structure eV where
 hi:Int
 lo:Int
 deriving Inhabited
def AcN (x:eV):D:=.agg [(.int .u64 x.hi),(.int .u64 x.lo)]
def h5:Nat->List Nat|0=>[0,1,2,3,4]|1=>[2,3,4,5,6]|3=>[2,3,4,5,6]|4=>[2,3,4,5,6,11,12,13]|6=>[2,3,4,5,6,11,12,13]|7=>[11,12,13,14,15,16]|_=>[]
def h6:Nat->List Nat|0=>[0,1,2,3]|1=>[2,3,4,5]|3=>[2,3,4,5]|4=>[2,3,9,10,11]|6=>[3,9,11]|7=>[9]|8=>[3,9]|_=>[]
def h7:Nat->List Nat|0=>[0,1,2,3,4,5]|1=>[2,3,4,6,7,11]|3=>[2,3,4,6,7,11]|4=>[2,3,4,6,7,11,13]|5=>[2,3,6,7,11,13]|6=>[2,3,6,7,13]|7=>[2,3,6,7,13]|8=>[2,3,6,7,13]|9=>[2,3,7,13,14,15,16]|10=>[14,15,16,17,18,19]|_=>[]
def h8:Nat->List Nat|0=>[0,1,2,3]|1=>[2,3,4,5]|3=>[2,3,4,5]|4=>[2,3,4,5,9,10,11,14000000]|5=>[2,3,4,5,9,10,11,12]|6=>[2,3,4,5,9,10,11,12,15]|7=>[2,3,4,5,9,10,11,12,15]|8=>[2,3,4,5,9,10,11,12,15]|9=>[2,3,4,5,9,10,11,12]|10=>[2,3,4,5,9,10,11,12,16]|11=>[2,3,4,5,9,10,11,12,16]|12=>[2,3,4,5,9,10,11,12,16]|13=>[2,3,4,5,9,10,11]|14=>[9,10,11,17,18,19]|1000000=>[0,2,3,4,5,9,10,11,12]|1000002=>[0,2,3,4,5,9,10,11]|_=>[]
def h9:Nat->List Nat|0=>[0,1,2,3]|1=>[2,3,4,5]|3=>[4]|4=>[4,9]|5=>[4,9,10]|6=>[4,9,10]|7=>[4,9,10]|8=>[9]|1000000=>[0,9]|_=>[]
def h11:Nat->List Nat|0=>[0,1,2,3]|1=>[2,3,4,5,8]|2=>[8]|3=>[2,3,4,5,8]|4=>[5,8,11]|5=>[8,11,12,13]|6=>[8,12,13,14]|7=>[8,13,14]|8=>[8,12,14]|_=>[]
def h13:Nat->List Nat|0=>[0,1]|1=>[2,3]|_=>[]
def h14:Nat->List Nat|0=>[0,1]|1=>[1,2]|_=>[]
def h15:Nat->List Nat|0=>[0,1]|1=>[0,3,4]|2=>[0,3,4]|3=>[0,3,4]|4=>[0,3,4]|5=>[0,3,4]|1000000=>[0,0,3,4]|_=>[]
def h17:Nat->List Nat|0=>[0,1,2]|1=>[0,4,5,6]|2=>[4,5,6]|3=>[0,4,5,6]|4=>[0,4,5,6]|5=>[0,4,5,6]|6=>[0,4,5,6]|7=>[0,4,5,6]|1000000=>[0,0,4,5,6]|_=>[]
def h19:Nat->List Nat|0=>[0]|1=>[1]|_=>[]
def h20:Nat->List Nat|0=>[0,1]|1=>[1,2]|3=>[1,2]|4=>[1,2,5]|5=>[1,2,5]|6=>[1,2,5]|1000000=>[0]|_=>[]
def h21:Nat->List Nat|0=>[0,1]|1=>[1,2]|_=>[]
def h28:Nat->List Nat|0=>[0]|1=>[1]|_=>[]
def h29:Nat->List Nat|0=>[0,1]|1=>[0,1]|_=>[]
def h30:Nat->List Nat|0=>[0,1,2]|1=>[0,4,5,6]|2=>[0,4,5,6,8]|3=>[6,8]|4=>[0,4,5,6]|5=>[0,4,5,6,22]|6=>[0,4,6]|7=>[0,4,5,6,22]|8=>[0,4,6]|9=>[0,4,5,6,22]|10=>[5,6]|11=>[0,4,5,6,22]|12=>[5,6]|13=>[0,4,5,6]|14=>[0,4,5,6,9,10]|15=>[0,4,6,9,10]|16=>[6,10]|17=>[0,4,6,9]|18=>[0,4,5,6,9]|19=>[0,4,6,9,10,11]|20=>[6,10]|21=>[0,4,6,9,11]|_=>[]
def h31:Nat->List Nat|0=>[0]|1=>[0]|_=>[]
def h32:Nat->List Nat|0=>[0]|1=>[1,2]|2=>[1,2,3]|3=>[2,3,11,12,13]|4=>[2,3,11,12,13]|5=>[2,3,5,11,12,13]|6=>[2,3,11,12,13]|7=>[2,3]|1000000=>[0,2,3]|_=>[]
def h36:Nat->List Nat|0=>[0,1]|1=>[2,3]|2=>[2,3,5]|3=>[2,3,5,6]|4=>[2,3,5,6]|5=>[2,3,6]|6=>[2,3,5]|7=>[2,3,5,7]|8=>[2,3,5,7]|9=>[2,3,7]|10=>[2,3,5]|11=>[2,3]|12=>[5]|1000000=>[0,2,3,5]|1000002=>[0,2,3,5]|2000011=>[0,5]|_=>[]
def h37:Nat->List Nat|0=>[0,1,2]|1=>[1,2,3]|2=>[1,2,3,7]|3=>[1,2,3,7,8]|4=>[1,2,3,7,8]|5=>[1,2,3,7,8]|6=>[1,2,3,7,8,9]|7=>[1,2,3,7,8,9]|8=>[1,2,3,7,8,9]|9=>[1]|10=>[1,2,3,7,8,9]|11=>[7]|1000000=>[0,7]|1000002=>[0,1,2,3,7,8]|_=>[]
def h38:Nat->List Nat|0=>[0,1]|1=>[0,3,4]|2=>[0,3,4,6]|3=>[4,6]|4=>[0,3,4]|5=>[4]|6=>[0,3,4,18]|7=>[0,3,4,18]|8=>[0,3,4,18]|9=>[0,3,4,18]|10=>[4,18]|11=>[4]|12=>[0,3,4]|13=>[0,3,4,7]|14=>[0,4,7,33,34,35]|15=>[0,4,7,33,34,35]|16=>[0,4,7,9,33,34,35]|17=>[4]|18=>[0,4,7,9,33,34,35]|19=>[0,4,7,10,11,33,34,35]|20=>[4,11]|21=>[0,4,7,10,33,34,35]|22=>[0,4,7,33,34,35]|23=>[4,7]|1000001=>[0,4,7]|2000007=>[0,0,3,4,18,20]|_=>[]
def h39:Nat->List Nat|0=>[0,1]|1=>[0,3,4]|2=>[0,3,4,6]|3=>[4,6]|4=>[0,3,4]|5=>[0,3,4,14]|6=>[0,3,4,14]|7=>[0,3,4]|8=>[3,4,14]|9=>[3,4]|10=>[4]|2000006=>[0,0,3,4,14,15]|_=>[]
def h40:Nat->List Nat|0=>[0,1]|1=>[0,3,4]|2=>[0,3,4,6]|3=>[4,6]|4=>[0,3,4]|5=>[0,3,4]|6=>[3,4,18]|7=>[3,4]|8=>[3,4,18]|9=>[3,4]|10=>[3,4,7]|11=>[4,7,33,34,35]|12=>[4,7,33,34,35]|13=>[4,7,9,33,34,35]|14=>[4,7,33,34,35]|15=>[4,7]|16=>[3,4,18]|17=>[3,4]|18=>[3,4,18]|19=>[3,4]|20=>[3,4,18]|21=>[3,4]|22=>[3,4,18]|23=>[3,4]|24=>[3,4,18]|25=>[3,4]|26=>[3,4,18]|27=>[3,4]|28=>[4]|29=>[3,4]|30=>[3,4,18]|31=>[3,4]|32=>[3,4,18]|33=>[3,4]|34=>[3,4,18]|35=>[3,4]|36=>[4]|37=>[3,4]|38=>[3,4]|39=>[4]|1000001=>[0,4,7]|_=>[]
def h44:Nat->List Nat|0=>[0,1]|1=>[2,3,4]|2=>[2,3,4,16,17,18]|3=>[2,3,4,16,17,18]|4=>[2,3,4,7,16,17,18]|5=>[2,3,4,8,16,17,18]|6=>[4,8]|7=>[2,3,4,16,17,18]|8=>[2,3,4]|9=>[3,4,9,10]|10=>[4,10]|11=>[3,4,9]|12=>[3,4,9,10,11]|13=>[4,10]|14=>[3,4,9,11]|15=>[4]|16=>[3,4,9,11]|17=>[3,4,11,12]|18=>[3,4,12,58,59]|19=>[3,4,12,58,59]|20=>[3,4,12,13,58,59]|21=>[3,4,12,58,59]|22=>[4,12]|1000000=>[0,2,3,4]|1000002=>[0,4,12]|_=>[]
def h45:Nat->List Nat|0=>[0,1,2]|1=>[0,4,5,6]|2=>[0,4,5,6,8]|3=>[6,8]|4=>[0,4,5,6]|5=>[0,4,5,6,9]|6=>[4,5,6,9,24]|7=>[4,5,6,9]|8=>[6]|9=>[4,5,6,9]|10=>[4,5,6,9]|11=>[4,6,9,37,38,39]|12=>[4,6,9,37,38,39]|13=>[4,6,9,11,37,38,39]|14=>[4,6,9,37,38,39]|15=>[6,9]|16=>[4,5,6,9,24]|17=>[4,5,6,9]|18=>[4,5,6,9]|19=>[5,6,9,62,63,64]|20=>[5,6,9,62,63,64]|21=>[5,6,9,13,62,63,64]|22=>[5,6,9,13,14,62,63,64]|23=>[5,6,9,62,63,64]|24=>[5,6,9,14,62,63,64]|25=>[5,6,9,62,63,64]|26=>[6,9]|27=>[6]|1000001=>[0,6,9]|1000003=>[0,6,9]|2000023=>[0,5,6,9,14,62,63,64]|_=>[]
def h46:Nat->List Nat|0=>[0,1,2]|1=>[0,4,5,6]|2=>[0,4,5,6,15,16,17]|3=>[0,4,5,6,15,16,17]|4=>[0,4,5,6,9,15,16,17]|5=>[0,4,5,6,10,15,16,17]|6=>[6,10]|7=>[0,4,5,6,15,16,17]|8=>[0,4,5,6]|9=>[0,4,5,6]|10=>[6]|11=>[0,4,5,6,32]|12=>[0,4,5,6,32]|13=>[0,4,5,6]|14=>[0,4,5,6,32]|15=>[4,5,6]|16=>[0,4,5,6,32]|17=>[4,5,6]|18=>[0,4,5,6,32]|19=>[0,4,5,6,32]|20=>[0,4,5,6]|21=>[0,4,5,6,32]|22=>[0,4,5,6,32]|23=>[0,4,5,6,32]|24=>[0,4,5,6,32]|25=>[0,4,5,6]|26=>[0,5,6,11,12]|27=>[6,12]|28=>[0,5,6,11]|29=>[5,6,11]|30=>[0,5,6,11]|31=>[5,6,11]|32=>[0,5,6,11]|33=>[5,6,11]|34=>[5,6,11]|1000000=>[0,0,4,5,6]|2000012=>[0,0,4,5,6,32,34]|2000019=>[0,0,4,5,6,32,58]|2000022=>[0,0,4,5,6,68]|_=>[]
def h47:Nat->List Nat|0=>[0,1,2]|1=>[0,4,5,6]|2=>[0,4,5,6,22,23,24]|3=>[0,4,5,6,22,23,24]|4=>[0,4,5,6,9,22,23,24]|5=>[0,4,5,6,10,22,23,24]|6=>[6,10]|7=>[0,4,5,6,22,23,24]|8=>[0,4,5,6]|9=>[6]|10=>[0,4,5,6]|11=>[6]|12=>[0,4,5,6]|13=>[0,4,5,6,11,12]|14=>[6,12]|15=>[0,4,5,6,11]|16=>[0,4,5,6,11,13]|17=>[0,4,5,6,11]|18=>[0,4,5,6,11,13]|19=>[0,4,5,6,13,14]|20=>[0,4,5,6,14,73,74]|21=>[0,4,5,6,14,73,74]|22=>[0,4,5,6,14,15,73,74]|23=>[0,4,5,6,14,15,16,17,73,74]|24=>[0,4,5,6,14,15,16,17,73,74]|25=>[0,4,5,6,14,15,16,17,73,74]|26=>[0,4,5,6,14,15,16,17,73,74]|27=>[0,4,5,6,14,16,17,73,74]|28=>[0,4,5,6,14,18,19,73,74]|29=>[6,19]|30=>[0,4,5,6,14,18,73,74]|31=>[0,4,5,6,14,73,74]|32=>[6,14]|1000000=>[0,0,4,5,6]|1000002=>[0,6,14]|2000017=>[0,0,4,5,6,11,13]|2000024=>[0,0,4,5,6,14,15,16,17,73,74]|2000026=>[0,0,4,5,6,14,16,17,73,74]|_=>[]
def h52:Nat->List Nat|0=>[0,1]|1=>[1,2]|2=>[1,2,5,6]|3=>[6]|4=>[1,2,5]|6=>[1,2]|7=>[1,2,7]|8=>[1,2,7]|9=>[1,2,7]|11=>[1,2]|12=>[1,2,8]|13=>[1,2,8]|14=>[1,2,8]|15=>[1,2,8,9]|16=>[9]|1000000=>[0,1,2]|1000002=>[0]|_=>[]
def h53:Nat->List Nat|0=>[0,1,2]|1=>[1,2,3]|2=>[1,2,3,7]|3=>[1,2,3,7,8]|4=>[1,2,3,7,8]|5=>[1,2,3,7,8]|6=>[1]|7=>[1,2,3,7,8]|8=>[7]|1000000=>[0,7]|_=>[]
def h54:Nat->List Nat|0=>[0,1,2]|1=>[0,2,4]|3=>[0,2,4]|4=>[0,2,4,12]|5=>[4]|6=>[0,2,4,12]|7=>[4]|8=>[0,2,4,12]|9=>[0,2,4,12]|10=>[0,4]|12=>[0,4]|14=>[0,2,4,12]|15=>[0,2,4]|16=>[0,2,4,12]|17=>[0,2,4]|2000009=>[0,0,2,4,12,31]|_=>[]
def h55:Nat->List Nat|0=>[0]|1=>[0]|_=>[]
def h56:Nat->List Nat|0=>[0,1,2]|1=>[0,2,4,6]|2=>[0,4,6]|3=>[2,4,6]|4=>[2,6]|5=>[4,6]|2000002=>[0,2,4,6]|_=>[]
def h57:Nat->List Nat|0=>[0,1]|1=>[0,1,4]|2=>[0,1,4,12,13,14]|3=>[0,1,4,12,13,14]|4=>[0,1,4,6,7,12,13,14]|5=>[0,4,6]|6=>[4]|7=>[0,4,6]|8=>[0,1,4,12,13,14]|9=>[4]|1000000=>[0,4]|1000001=>[0,0,1,4,12,13,14]|_=>[]
def h58:Nat->List Nat|0=>[0,1,2]|1=>[0,4,5,6]|2=>[0,4,5,6,8]|3=>[6,8]|4=>[0,4,5,6]|5=>[0,4,5,6,21]|6=>[0,4,5,6]|7=>[0,4,5,6,21]|8=>[0,4,5,6]|9=>[0,4,5,6,21]|10=>[0,4,5,6]|11=>[0,4,5,6,21]|12=>[0,4,5,6,21]|13=>[0,4,5,6]|14=>[0,4,5,6,21]|15=>[0,4,5,6,21]|16=>[0,4,5,6]|17=>[0,4,5,6]|18=>[0,4,5,6,97,98]|19=>[0,4,5,6,97,98]|20=>[0,4,5,6,9,10,97,98]|21=>[6,10]|22=>[0,4,5,6,9,97,98]|23=>[0,4,5,6,97,98]|24=>[5,6]|1000001=>[0,5,6]|2000012=>[0,0,4,5,6,21,58]|2000015=>[0,0,4,5,6,77]|_=>[]
def h59:Nat->List Nat|0=>[0,1,2,3]|1=>[0,5,6,7,8]|2=>[0,5,6,7,8,10]|3=>[8,10]|4=>[0,5,6,7,8]|5=>[0,5,6,7,8,21]|6=>[0,5,6,7,8]|7=>[0,5,6,7,8,21]|8=>[0,5,6,7,8]|9=>[0,5,6,7,8,21]|10=>[0,5,6,7,8]|11=>[0,5,6,7,8]|_=>[]
def h60:Nat->List Nat|0=>[0]|1=>[1,2]|2=>[1,2]|3=>[1,2]|2000002=>[0,1,2,6000002]|_=>[]
def h69:Nat->List Nat|0=>[0,1]|1=>[0,1]|3=>[0,1]|_=>[]
def h70:Nat->List Nat|0=>[0,1]|1=>[2,3]|2=>[2,3,5]|3=>[2,3]|4=>[2,3,5]|5=>[2,3]|6=>[2,3,5]|7=>[2,3]|8=>[5]|2000003=>[0,2,3,5]|2000007=>[0,5]|_=>[]
def h71:Nat->List Nat|0=>[0]|1=>[1]|_=>[]
def h72:Nat->List Nat|0=>[0,1]|1=>[0,1]|2=>[1,6]|3=>[1]|4=>[1,6]|5=>[1]|6=>[1,6]|7=>[1]|8=>[1]|10=>[1]|_=>[]
def h73:Nat->List Nat|0=>[0]|1=>[0]|2=>[6,7,8]|3=>[6,7,8]|4=>[4,6,7,8]|5=>[5,6,7,8]|6=>[5]|7=>[6,7,8]|1000000=>[0]|_=>[]
def h74:Nat->List Nat|0=>[0,1]|1=>[2,3,4]|2=>[4]|3=>[2,3,4]|4=>[4]|5=>[2,3,4]|6=>[3,4,6]|7=>[3,4,6,7]|8=>[3,4,6,7,30,31]|9=>[3,4,6,7,30,31]|10=>[3,4,6,7,8,30,31]|11=>[3,4,6,7,30,31]|12=>[3,4,6,7]|13=>[4,7]|14=>[4,7,9]|15=>[4,9,46,47,48]|16=>[4,9,46,47,48]|17=>[4,9,11,46,47,48]|18=>[4,9,46,47,48]|19=>[4,9]|1000001=>[0,3,4,6,7]|1000003=>[0,4,9]|_=>[]
def h75:Nat->List Nat|0=>[0]|1=>[1,2]|2=>[1,2]|3=>[1,2]|4=>[1,2]|5=>[1,2,3]|6=>[1,2,3,4]|7=>[2,3,4,20,21,22]|8=>[2,3,4,20,21,22]|9=>[2,3,4,6,20,21,22]|10=>[2,3,4,6,20,21,22]|11=>[2,3,4,6,20,21,22]|12=>[2,3,4,20,21,22]|13=>[2,3,4]|14=>[2,4]|1000000=>[0,2,3,4]|1000001=>[0,2,3,4,20,21,22]|2000003=>[0,1,2,6000000]|_=>[]
def h76:Nat->List Nat|0=>[0]|1=>[1,2]|2=>[2]|3=>[1,2]|4=>[2]|5=>[1,2]|6=>[2]|7=>[1,2]|8=>[2,4]|9=>[2,4,46,47]|10=>[2,4,46,47]|11=>[2,4,5,46,47]|12=>[2,4,46,47]|13=>[2,4]|1000001=>[0,2,4]|_=>[]
def h77:Nat->List Nat|0=>[0]|1=>[0,2]|_=>[]
def h78:Nat->List Nat|0=>[0]|1=>[1]|3=>[1]|_=>[]
def h79:Nat->List Nat|0=>[0,1]|1=>[1,2,4]|2=>[2,4]|3=>[1,2,4]|4=>[1,2,4,5]|5=>[1,2,4,5,21,22,23]|6=>[1,2,4,5,21,22,23]|7=>[1,2,4,5,7,21,22,23]|8=>[1,2,4,5,21,22,23]|9=>[1,2,4,5]|10=>[2,4,5,8]|11=>[2,4,5,8,9]|12=>[2,4,5,8,9,10]|13=>[2,4,5,8,9,10]|14=>[2,4,5,8,9,10]|15=>[2,4,5,8,9,10,11]|16=>[2,4,5,8,9,10,11]|17=>[2,4,5,8,9,10,11]|18=>[2,4,9]|1000000=>[0,1,2,4,5]|1000002=>[0,2,4,9]|1000004=>[0,2,4,5,8,9,10]|_=>[]
def h80:Nat->List Nat|0=>[0]|1=>[1,2]|2=>[1,2,3]|3=>[1,2,3]|4=>[1,2,3,4]|5=>[1,2,3,4,21,22]|6=>[1,2,3,4,21,22]|7=>[1,2,3,4,5,21,22]|8=>[1,2,3,4,5,21,22,25,26]|9=>[1,2,3,4,5,21,22,25,26]|10=>[1,2,3,4,5,6,21,22,25,26]|11=>[1,2,3,4,5,21,22,25,26]|12=>[1,2,3,4,5,21,22]|13=>[1,2,3,4,21,22]|14=>[1,2,3,4,7,21,22]|15=>[1,2,3,4,7,21,22]|16=>[1,2,3,4,7,21,22]|17=>[1,2,3,4,7,21,22]|18=>[1,2,3,4,7,21,22]|19=>[1,2,3,4,21,22]|20=>[2,3]|1000000=>[0,2,3]|1000001=>[0,1,2,3,4,21,22]|1000002=>[0,1,2,3,4,5,21,22]|1000004=>[0,1,2,3,4,21,22]|_=>[]
def h81:Nat->List Nat|0=>[0]|1=>[1]|2=>[1,3]|3=>[3,7,8,9]|4=>[3,7,8,9]|5=>[3,5,7,8,9]|6=>[3,5,7,8,9]|7=>[3,7,8,9]|8=>[3]|1000000=>[0,3]|1000001=>[0,3,7,8,9]|_=>[]
def h82:Nat->List Nat|0=>[0]|1=>[1,2]|2=>[2]|3=>[1,2]|4=>[1,2]|5=>[1,2]|_=>[]
def h83:Nat->List Nat|0=>[0]|1=>[1,2]|2=>[1,2]|3=>[1,2]|4=>[2]|5=>[1,2]|_=>[]
def h95:Nat->List Nat|0=>[0]|1=>[1]|3=>[1]|4=>[1,4]|5=>[4,16,17,18]|6=>[4,16,17,18]|7=>[4,6,16,17,18]|9=>[4,6,16,17,18]|10=>[4,16,17,18]|11=>[4]|13=>[4]|15=>[4]|1000000=>[0,4]|_=>[]
def h96:Nat->List Nat|0=>[0]|1=>[0]|3=>[0]|4=>[0,4,5]|5=>[0,4,5,13,14,15]|6=>[0,4,5,13,14,15]|7=>[0,4,5,7,13,14,15]|9=>[0,4,5,7,13,14,15]|10=>[0,4,5,13,14,15]|11=>[0,4,5]|13=>[0,4]|14=>[4,28,29,30]|15=>[4,28,29,30]|16=>[4,9,28,29,30]|18=>[4,9,28,29,30]|19=>[4,28,29,30]|20=>[4]|1000000=>[0,0,4,5]|1000001=>[0,0,4,5,13,14,15]|1000002=>[0,4]|_=>[]
def h98:Nat->List Nat|0=>[0,1]|1=>[0,3]|2=>[0,5]|3=>[5]|4=>[0]|_=>[]
def h99:Nat->List Nat|0=>[0,1,2]|1=>[2,3,4,6]|2=>[3,4,6,8,9]|3=>[6,9]|4=>[3,4,6,8,14000000]|5=>[12004001,3,4,6,8,10]|6=>[8004000,3,4,6,8,10]|7=>[3,4,6,8,10,12]|8=>[6]|9=>[3,4,6,8,10]|10=>[3,4,6,8,10,13]|11=>[3,4,6,8,10,13,73,74,75]|12=>[3,4,6,8,10,13,73,74,75]|13=>[3,4,6,8,10,13,15,73,74,75]|14=>[3,4,6,8,10,13,73,74,75]|15=>[3,4,6,8,10,13]|16=>[3,4,6,8,10,16,17]|17=>[3,4,6,8,10,16,17,18]|18=>[3,4,6,10,16,17,18,100,101,102]|19=>[3,4,6,10,16,17,18,100,101,102]|20=>[3,4,6,10,16,17,18,20,100,101,102]|21=>[3,4,6,10,16,17,18,100,101,102]|22=>[3,4,6,10,16,17,18]|23=>[3,4,6,10,16,17,110,111]|24=>[3,4,6,10,16,17,110,111]|25=>[3,4,6,10,16,17,21,110,111]|26=>[3,4,6,10,16,17,110,111]|27=>[6,10]|1000000=>[0,3,4,6,8,10,13]|1000002=>[0,3,4,6,10,16,17,18]|1000004=>[0,6,10]|_=>[]
def Bl1:Nat->List Nat|0=>[0,1]|1=>[2,3,4]|2=>[4]|3=>[2,3,4]|4=>[2,3,4,31,32,33]|5=>[2,3,4,31,32,33]|6=>[2,3,4,7,31,32,33]|7=>[4]|8=>[2,3,4,7,31,32,33]|9=>[4]|10=>[2,3,4,31,32,33]|11=>[2,3,4]|12=>[2,3,4,8]|13=>[2,3,4,8,10]|14=>[4,10]|15=>[2,3,4,8]|16=>[2,3,4,8,11]|17=>[3,4,8,11,79,80,81]|18=>[3,4,8,11,79,80,81]|19=>[3,4,8,11,13,79,80,81]|20=>[3,4,8,11,79,80,81]|21=>[4,8]|1000000=>[0,2,3,4]|1000003=>[0,4,8]|_=>[]
def Bl2:Nat->List Nat|0=>[0,1,2]|1=>[2,3,4,6]|2=>[2,3,4,6]|3=>[2,3,4,6,8]|4=>[3,4,6]|5=>[3,4,6,8]|6=>[4,6,8,9,10]|7=>[6,10]|8=>[4,6,8,9,14000000]|9=>[12016001,4,6,8,9,11]|10=>[4,6,8,9,11]|11=>[4,6,8,9,11,52,53,54]|12=>[4,6,8,9,11,52,53,54]|13=>[4,6,8,9,11,13,52,53,54]|14=>[4,6,8,9,11,52,53,54]|15=>[8016000,4,6,8,9,11]|16=>[4,6,8,9,11,15]|17=>[6,15]|18=>[4,6,8,9,11]|19=>[4,6,8,9,11,16]|20=>[4,6,9,11,16,81,82,83]|21=>[4,6,9,11,16,81,82,83]|22=>[4,6,9,11,16,18,81,82,83]|23=>[4,6,9,11,16,81,82,83]|24=>[4,6,9,11,16]|25=>[4,6,9,11,16,19]|26=>[4,6,9,11,16,19]|27=>[4,6,9,11,16,19]|28=>[4,6,9,11,16,19,102,103,104]|29=>[4,6,9,11,16,19,102,103,104]|30=>[4,6,9,11,16,19,20,21,102,103,104]|31=>[4,6,9,11,16,19,20,102,103,104,109,110]|32=>[4,6,9,11,16,19,20,102,103,104,109,110]|33=>[4,6,9,11,16,19,20,102,103,104,109,110]|34=>[4,6,9,11,16,19,102,103,104]|35=>[6,11]|1000000=>[0,4,6,8,9,11]|1000002=>[0,4,6,9,11,16]|1000004=>[0,6,11]|1000006=>[0,4,6,9,11,16,19]|1000008=>[0,4,6,9,11,16,19,102,103,104]|2000004=>[0,3,4,6,8]|_=>[]
def Bl3:Nat->List Nat|0=>[0]|1=>[1]|3=>[1]|5=>[1]|_=>[]
def Bl4:Nat->List Nat|0=>[0,1]|1=>[0,3,4]|2=>[0,3,4]|3=>[4]|4=>[0,3,4]|5=>[0,3,4,6,7]|6=>[0,3,4,6,7,8]|7=>[0,3,4,6,7,8,10]|8=>[4,10]|9=>[0,3,4,6,7,8]|10=>[0,3,4,6,7]|11=>[3,4,6,7]|12=>[3,4,6]|13=>[0,3,4,6,7,8]|14=>[0,3,4,6,7,8,11,12]|15=>[4,12]|16=>[0,3,4,6,7,8,11]|17=>[0,3,4,8,11,13]|18=>[0,3,4,8,11,13,78,79]|19=>[0,3,4,8,11,13,78,79]|20=>[0,3,4,8,11,13,14,78,79]|21=>[0,3,4,8,11,13,78,79]|22=>[0,3,4,8,13]|23=>[3,4,8,13,14000000]|24=>[7000013,3,4,8,13]|1000000=>[0,0,3,4,8,13]|_=>[]
def Bl5:Nat->List Nat|0=>[0,1]|1=>[0,3,4]|2=>[0,3,4]|3=>[0,3,4,5]|4=>[3,4]|5=>[0,3,4,5]|6=>[0,3,4,5]|7=>[0,3,4,5]|_=>[]
def Bl6:Nat->List Nat|0=>[0,1,2]|1=>[0,2,4,6]|2=>[4,6]|3=>[0,2,4,6]|4=>[0,2,4,6,7]|5=>[0,2,4,6,7,30,31,32]|6=>[0,2,4,6,7,30,31,32]|7=>[0,2,4,6,7,9,30,31,32]|8=>[0,2,4,6,7,30,31,32]|9=>[0,2,4,6,7]|10=>[0,4,6,7,10]|11=>[4,6,7,10,11]|12=>[4,6,7,10,11]|13=>[4,6,7,10,11]|14=>[4,6,7,10,11,12]|15=>[4,6,7,10,11,12,13]|16=>[4,6,7,10,11,12,13]|17=>[4,6,7,10,11,12,13]|18=>[4,6,7,10,11,12,13,14]|19=>[4,6,7,10,11,12,13,14]|20=>[6,12]|1000000=>[0,0,2,4,6,7]|1000002=>[0,6,12]|2000012=>[0,4,6,7,10,11]|_=>[]
def Bl7:Nat->List Nat|0=>[0]|1=>[0]|_=>[]
def Bl8:Nat->List Nat|0=>[0,1]|1=>[0,1]|2=>[1]|3=>[0,1]|4=>[0]|5=>[0,1]|7=>[0,1]|8=>[0,1,26,27]|9=>[0,1,26,27]|10=>[0,1,6,26,27]|12=>[0,1,26,27]|13=>[0]|1000001=>[0,0]|_=>[]
def Bl9:Nat->List Nat|0=>[0,1,2]|1=>[0,4,5,6]|2=>[0,4,5,6,8]|3=>[6]|4=>[0,4,5,6,8]|5=>[6]|6=>[0,4,5,6,8]|7=>[0,6]|8=>[0,4,5,6,8]|9=>[6]|10=>[0,4,5,6]|11=>[0,4,5,6]|12=>[0,4,5,6]|13=>[6,9,10]|1000000=>[0,0,4,5,6]|_=>[]
def BlA:Nat->List Nat|0=>[0]|1=>[0]|3=>[0]|4=>[0,4]|5=>[0,4,5]|6=>[0,4,5]|7=>[0,4,5]|9=>[0,4,5]|10=>[0,5]|11=>[0,4]|13=>[0]|14=>[0,6]|15=>[0,6,7]|16=>[0,6,7]|17=>[0,6,7]|19=>[0,6,7]|20=>[0,6,7]|22=>[6]|1000000=>[0,0,4]|1000001=>[0,0,4,5]|1000002=>[0,6]|_=>[]
def BlB:Nat->List Nat|0=>[0,1]|1=>[1,2]|2=>[1,2]|4=>[1,2]|5=>[2]|7=>[2]|_=>[]
def BlC:Nat->List Nat|0=>[0,1]|1=>[0,1]|2=>[0,1]|_=>[]
def BlD:Nat->List Nat|0=>[0,1,2,3,4]|1=>[1,2,3,4,5]|_=>[]
def BlE:Nat->List Nat|0=>[0]|1=>[1]|3=>[1]|4=>[1,27,28,29]|5=>[1,27,28,29]|6=>[1,4,27,28,29]|8=>[1,27,28,29]|1000000=>[0]|1000001=>[0,1,27,28,29]|_=>[]
def BlF:Nat->List Nat|0=>[0]|1=>[0]|2=>[0,6,7]|3=>[0,6,7]|4=>[0,3,6,7]|5=>[0,3,4,6,7]|7=>[0,6,7]|8=>[0]|1000000=>[0,0]|1000001=>[0,0,6,7]|_=>[]
def BlG:Nat->List Nat|0=>[0,1,2]|1=>[0,2,4]|3=>[0,2,4]|4=>[0,2,4,12]|5=>[4]|6=>[0,2,4,12]|7=>[0,2,4]|8=>[0,2,4,12]|9=>[0,2,4,12]|10=>[0,2,4,12]|11=>[0,2,4,12]|12=>[0,2,4]|13=>[0,2,4,12]|14=>[0,2,4]|15=>[0,2,4,12]|16=>[0,2,4]|2000009=>[0,0,2,4,12,33]|_=>[]
def BlH:Nat->List Nat|0=>[0,1,2]|1=>[0,2,4]|2=>[0,2,4,8]|3=>[0,2,4]|4=>[0,2,4,8]|5=>[0,2,4]|6=>[0,2,4]|_=>[]
def BlI:Nat->List Nat|0=>[0,1]|1=>[0,1]|3=>[0,1]|_=>[]
def BlJ:Nat->List Nat|0=>[0,1]|1=>[0,3]|_=>[]
def BlK:Nat->List Nat|0=>[0,1,2]|1=>[2,3,4,6]|2=>[2,3,4,6,8]|3=>[6,8]|4=>[2,3,4,6]|5=>[4,6]|6=>[2,3,4,6]|7=>[3,4,6,9]|8=>[3,4,6,9,10]|9=>[3,4,6,9,10,12]|10=>[6,12]|11=>[3,4,6,9,10]|12=>[3,4,6,10,13,14,15]|13=>[3,4,6,10,14,15,63,64]|14=>[3,4,6,10,14,15,63,64]|15=>[3,4,6,10,14,15,16,63,64]|16=>[3,4,6,10,14,15,16,63,64,67,68]|17=>[3,4,6,10,14,15,16,63,64,67,68]|18=>[3,4,6,10,14,15,16,17,63,64,67,68]|19=>[3,4,6,10,14,15,16,18,19,63,64,67,68]|20=>[6,19]|21=>[3,4,6,10,14,15,16,18,63,64,67,68]|22=>[3,4,6,10,14,15,16,63,64,67,68]|23=>[3,4,6,10,14,15,63,64]|24=>[6,10]|1000000=>[0,6,10]|1000002=>[0,3,4,6,10,14,15,63,64]|_=>[]
def BlL:Nat->List Nat|0=>[0]|1=>[1,2]|2=>[1,2]|3=>[1,2]|_=>[]
def BlM:Nat->List Nat|0=>[0,1,2]|1=>[2,3,4,6]|2=>[2,3,4,6,8]|3=>[6,8]|4=>[2,3,4,6,14000000]|5=>[2,3,4,6,9]|6=>[6,9]|7=>[2,3,4,6,9]|8=>[3,4,6,9,10,11,12]|9=>[3,4,6,9,11,12,45,46]|10=>[3,4,6,9,11,12,45,46]|11=>[3,4,6,9,11,12,13,45,46]|12=>[3,4,6,9,11,12,13,45,46,49,50]|13=>[3,4,6,9,11,12,13,45,46,49,50]|14=>[3,4,6,9,11,12,13,14,45,46,49,50]|15=>[3,4,6,9,11,12,13,15,45,46,49,50]|16=>[3,4,6,9,11,12,13,15,16,45,46,49,50]|17=>[3,4,6,9,11,12,13,15,16,17,45,46,49,50]|18=>[3,4,6,9,11,12,13,15,16,17,45,46,49,50]|19=>[3,4,6,9,11,12,13,15,16,17,45,46,49,50]|20=>[3,4,6,9,11,12,13,15,16,17,18,19,45,46,49,50]|21=>[6,19]|22=>[3,4,6,9,11,12,13,15,16,17,18,45,46,49,50]|23=>[3,4,6,9,11,12,13,45,46,49,50]|24=>[3,4,6,9,11,12,45,46]|25=>[6,9]|1000000=>[0,6,9]|1000002=>[0,3,4,6,9,11,12,45,46]|1000004=>[0,3,4,6,9,11,12,13,45,46,49,50]|_=>[]
def BlN:Nat->List Nat|0=>[0,1,2]|1=>[3,4,5,6]|2=>[3,4,5,6,8]|3=>[6,8]|4=>[3,4,5,6]|5=>[8011000,3,4,5,6,9]|6=>[3,4,5,6,9,11]|7=>[6,11]|8=>[3,4,5,6,9]|9=>[3,5,6,9,45,46,47]|10=>[3,5,6,9,45,46,47]|11=>[3,5,6,9,13,45,46,47]|12=>[3,5,6,9,13,45,46,47,52,53,54]|13=>[3,5,6,9,13,45,46,47,52,53,54]|14=>[3,5,6,9,13,15,45,46,47,52,53,54]|15=>[3,5,6,9,13,16,17,45,46,47,52,53,54]|16=>[6,17]|17=>[3,5,6,9,13,16,45,46,47,52,53,54]|18=>[3,5,6,9,13,45,46,47,52,53,54]|19=>[3,5,6,9,45,46,47]|20=>[6,9]|1000000=>[0,6,9]|1000002=>[0,3,5,6,9,45,46,47]|_=>[]
def BlO:Nat->List Nat|0=>[0,1]|1=>[1,2]|2=>[1,2,5,6]|3=>[6]|4=>[1,2,5]|6=>[1,2]|7=>[1,2,27,28,29]|8=>[1,2,27,28,29]|9=>[1,2,8,27,28,29]|11=>[1,2,27,28,29]|12=>[1,2]|13=>[1,37,38,39]|14=>[1,37,38,39]|15=>[1,10,37,38,39]|16=>[1,10,37,38,39]|18=>[1,10,37,38,39]|19=>[1,11,37,38,39]|20=>[11]|21=>[1,10,37,38,39]|23=>[1,37,38,39]|1000000=>[0,1,2]|1000002=>[0]|1000003=>[0,1,37,38,39]|_=>[]
def BlP:Nat->List Nat|0=>[0]|1=>[0]|_=>[]
def BlQ:Nat->List Nat|0=>[0]|1=>[0]|3=>[0]|_=>[]
def BlR:Nat->List Nat|0=>[0]|1=>[0]|2=>[0]|3=>[0]|_=>[]
def BlS:Nat->List Nat|0=>[0]|1=>[0]|2=>[0,5,6,7]|3=>[0,5,6,7]|4=>[0,4,5,6,7]|6=>[0,5,6,7]|1000000=>[0]|_=>[]
def BlT:Nat->List Nat|0=>[0]|1=>[1]|2=>[1,3]|4=>[1,3]|5=>[1,3,4]|6=>[1,3,4,22,23]|7=>[1,3,4,22,23]|8=>[1,3,4,5,22,23]|9=>[1,3,4,22,23]|10=>[3]|1000000=>[0,3]|_=>[]
def BlU:Nat->List Nat|0=>[0,1]|_=>[]
def BlV:Nat->List Nat|0=>[0,1,2,3]|1=>[0,1,2,3]|2=>[3,7]|3=>[7]|4=>[7]|_=>[]
def BlW:Nat->List Nat|0=>[0,1,2]|1=>[0,1,2]|2=>[0,1,2,11,12,13]|3=>[0,1,2,11,12,13]|4=>[0,1,2,7,8,11,12,13]|6=>[0,1,2,7,8,11,12,13]|7=>[0,1,2,8,9,11,12,13]|8=>[0,1,2,10,11,12,13]|9=>[10]|10=>[0,1,2,11,12,13]|11=>[0,1]|1000000=>[0,0,1]|_=>[]
def BlX:Nat->List Nat|0=>[0,1]|1=>[2,3]|2=>[2,3,5]|3=>[5]|4=>[2,3]|5=>[2,3,6]|6=>[2,3,6]|7=>[2,3]|8=>[6]|9=>[2,3]|_=>[]
def BlY:Nat->List Nat|0=>[0,1]|1=>[0,1]|_=>[]
def BlZ:Nat->List Nat|0=>[0,1]|1=>[0,1]|_=>[]
def Bm0:Nat->List Nat|0=>[0]|1=>[0]|2=>[0]|3=>[0]|4=>[0,3]|5=>[0,3,4]|6=>[0,3,4]|7=>[0,3,4]|8=>[3]|1000000=>[0,3]|_=>[]
def Bm1:Nat->List Nat|0=>[0,1]|1=>[0,1]|2=>[0,1,7,8]|3=>[0,1,7,8]|4=>[0,1,5,7,8]|5=>[5]|6=>[0,1,7,8]|1000000=>[0]|_=>[]
def Bm2:Nat->List Nat|0=>[0,1]|1=>[1,2]|_=>[]
def Bm3:Nat->List Nat|0=>[0,1,2]|1=>[2,3,4,6,7]|2=>[3,4,6,7]|3=>[2,3,4,6,7]|4=>[2,3,4,6,7,10]|5=>[3,4,6,7]|6=>[3,4,6,7,10]|7=>[3,4,6,7,10,11]|8=>[3,4,6,7,10]|9=>[3,4,6,7,10,11]|10=>[3,4,6,7,10]|11=>[3,4,6,7,10,11]|12=>[3,4,6,7,10]|13=>[3,4,6,7,10,11]|14=>[3,4,6,7,10]|15=>[3,4,6,7,10,11]|16=>[3,4,6,7]|17=>[3,4,6,7,10]|18=>[3,4,6,7,10,12,13]|19=>[3,4,6,7,10,12,13,101,102]|20=>[3,4,6,7,10,12,13,101,102]|21=>[3,4,6,7,10,12,13,14,101,102]|22=>[3,4,6,7]|23=>[3,4,6,7,10,12,13,101,102]|24=>[3,4,6,7,10]|1000000=>[0,3,4,6,7,10]|1000001=>[0,3,4,6,7,10]|2000005=>[0,3,4,6,7,10]|_=>[]
def Bm4:Nat->List Nat|0=>[0]|1=>[1]|2=>[1,3]|3=>[3,8,9,10]|4=>[3,8,9,10]|5=>[3,5,8,9,10]|6=>[3,8,9,10]|7=>[3]|1000000=>[0,3]|_=>[]
def Bm5:Nat->List Nat|0=>[0]|1=>[1,2]|2=>[1,2]|3=>[1,2]|2000002=>[0,1,2,6000000]|_=>[]
def Bm6:Nat->List Nat|0=>[0,1]|1=>[1,2]|3=>[1,2]|4=>[1,2,17,18,19]|5=>[1,2,17,18,19]|6=>[1,2,7,17,18,19]|8=>[1,2,17,18,19]|9=>[1,2]|11=>[1,2]|12=>[2,8,9]|13=>[2,8,9,46,47]|14=>[2,8,9,46,47]|15=>[2,8,9,10,46,47]|16=>[2,8,9,10,11,46,47]|17=>[2,8,9,10,11,46,47]|18=>[2,8,9,10,11,46,47]|20=>[2,8,9,10,11,46,47]|21=>[2,8,9,10,46,47]|22=>[2,8,9,46,47]|23=>[7000008,8]|1000000=>[0,1,2]|1000002=>[0,8]|2000017=>[0,2,8,9,10,11,46,47]|_=>[]
def Bm7:Nat->List Nat|0=>[0,1,2]|1=>[1,2,3,6]|2=>[1,2,3,6,7]|3=>[1,2,3,6,7,8]|4=>[6,8]|_=>[]
def Bm8:Nat->List Nat|0=>[0]|1=>[1,2]|2=>[2]|3=>[1,2]|4=>[2]|5=>[2]|_=>[]
def Bm9:Nat->List Nat|0=>[0]|1=>[0]|_=>[]
def BmA:Nat->List Nat|0=>[0,1,2]|1=>[0,1,2]|2=>[1,2,8]|3=>[1,2]|4=>[1,2,8]|5=>[1,2]|6=>[1,2,8]|7=>[1,2]|8=>[1,2,8]|9=>[1,2]|10=>[1,2,8]|11=>[1,2]|12=>[1,2]|_=>[]
def BmB:Nat->List Nat|0=>[0]|1=>[0]|_=>[]
def BmC:Nat->List Nat|0=>[0,1,2]|1=>[0,2,4]|3=>[0,2,4]|4=>[0,2,4,7]|5=>[0,2,4,7]|6=>[0,4,7,8]|7=>[0,4,7,8,9,10]|8=>[4,8,9,10]|9=>[8,9]|10=>[8,9,10]|_=>[]
def BmD:Nat->List Nat|0=>[0,1,2]|1=>[0,2,4]|2=>[0,2,4]|4=>[0,2,4]|5=>[0,2,4]|2000002=>[0,0,2,4]|_=>[]
def BmE:Nat->List Nat|0=>[0,1,2]|1=>[0,2,4]|3=>[0,2,4]|4=>[0,2,7]|_=>[]
def BmF:Nat->List Nat|0=>[0,1,2]|1=>[0,2,4]|3=>[0,2,4]|4=>[0,2,4,12]|5=>[4]|6=>[0,2,4,12]|7=>[0,2,4]|_=>[]
def BmG:Nat->List Nat|0=>[0]|1=>[1]|2=>[1,3]|3=>[3,12,13,14]|4=>[3,12,13,14]|5=>[3,5,12,13,14]|6=>[3,12,13,14,19,20,21]|7=>[3,12,13,14,19,20,21]|8=>[3,7,12,13,14,19,20,21]|9=>[3,12,13,14,19,20,21]|10=>[3,12,13,14]|11=>[3]|1000000=>[0,3]|1000002=>[0,3,12,13,14]|_=>[]
def BmH:Nat->List Nat|0=>[0,1]|1=>[1,2]|2=>[2,8,9,10]|3=>[2,8,9,10]|4=>[2,6,8,9,10]|5=>[2,7,8,9,10]|6=>[7]|7=>[2,8,9,10]|8=>[2]|1000000=>[0,2]|_=>[]
def BmI:Nat->List Nat|0=>[0,1]|1=>[1,2]|2=>[2]|_=>[]
def BmJ:Nat->List Nat|0=>[0,1]|1=>[0,1]|2=>[0,1,4,5]|3=>[0,1,4,5,13,14,15]|4=>[0,1,4,5,13,14,15]|5=>[0,1,4,5,8,13,14,15]|6=>[0,1,4,5,13,14,15]|7=>[0,1,4,5]|8=>[0,1,4,5,26,27,28]|9=>[0,1,4,5,26,27,28]|10=>[0,1,4,5,10,26,27,28]|11=>[0,1,4,5,26,27,28]|12=>[0,1,4,5]|1000000=>[0,0,1,4,5]|1000002=>[0,0,1,4,5]|_=>[]
def BmK:Nat->List Nat|0=>[0,1]|1=>[1,2,4]|2=>[1,4]|3=>[1,2,4]|4=>[4]|5=>[1,2,4]|6=>[4]|7=>[1,2,4]|8=>[4]|9=>[1,2,4]|10=>[1,2,4]|11=>[2,4,6,7]|12=>[4,7]|13=>[2,4,6]|14=>[2,4,6,8]|15=>[4,6]|16=>[4,6,8]|17=>[4,7,9]|18=>[1,2,4]|19=>[1,4,10]|20=>[1,4,10,11]|21=>[1,4,10,11,13]|22=>[1,4,10,11,13]|23=>[1,4,10,11,13]|24=>[1,4,10,11,12,13]|25=>[4,12]|26=>[4,11]|1000000=>[0,1,2,4]|1000001=>[0,4,11]|_=>[]
def BmL:Nat->List Nat|0=>[0,1,2,3]|1=>[0,1,2,3]|2=>[0,1,2,3,9]|3=>[0,1,2,9,13,14]|4=>[0,1,2,9,13,14]|5=>[0,1,2,9,10,13,14]|6=>[0,1,2,9,13,14]|7=>[9]|1000000=>[0,9]|_=>[]
def BmM:Nat->List Nat|0=>[0,1,2]|1=>[3,4,5,6]|2=>[3,4,5,6]|3=>[3,4,5,6]|2000002=>[0,3,4,5,6]|_=>[]
def BmN:Nat->List Nat|0=>[0]|1=>[0]|_=>[]
def BmO:Nat->List Nat|0=>[0,1]|1=>[0,1]|3=>[0,1]|_=>[]
def BmP:Nat->List Nat|0=>[0,1,2]|1=>[0,1,2,6]|2=>[0,1,2,6,7,8]|3=>[0,1,2,6,7,8]|4=>[0,1,2,6,8]|5=>[0,1,2,6,7,8]|6=>[0,1,2,6,7]|7=>[0,1,2,6]|8=>[0,1,2,6]|9=>[0,1,2,6,7,8]|10=>[0,1,2,6,7,8]|11=>[0,1,2,6,8]|12=>[0,1,2,6,7,8]|13=>[0,1,2,6,7]|14=>[0,1,2,6,7,9]|15=>[0,1,2,6,7,9]|16=>[0,1,2,6]|1000000=>[0,0,1,2,6,7]|1000002=>[0]|1000004=>[0,0,1,2,6,7]|2000015=>[0,0,1,2,6]|_=>[]
def BmQ:Nat->List Nat|0=>[0,1]|1=>[0,1]|3=>[0,1]|_=>[]
def BmR:Nat->List Nat|0=>[0,1]|1=>[0,1]|3=>[0,1]|_=>[]
def BmS:Nat->List Nat|0=>[0,1]|1=>[2,3]|2=>[2,3,5]|3=>[2,3,5,6]|4=>[6]|5=>[2,3,5]|6=>[2,3,5,7]|7=>[7]|8=>[2,3,5]|9=>[2,3,8]|10=>[8]|11=>[2,3]|_=>[]
def BmT:Nat->List Nat|0=>[0,1]|1=>[0,1]|2=>[0,1,7,8]|3=>[0,1,7,8]|4=>[0,1,5,7,8]|5=>[5]|6=>[0,1,7,8]|1000000=>[0]|_=>[]
def BmU:Nat->List Nat|0=>[0,1]|1=>[1,2,4]|2=>[1,2,4,5]|3=>[2,4,5,7]|4=>[2,4,7,15,16]|5=>[2,4,7,15,16]|6=>[2,4,7,15,16]|7=>[4,7]|1000000=>[0,4,7]|_=>[]
def BmV:Nat->List Nat|0=>[0,1]|1=>[0,1]|_=>[]
def BmW:Nat->List Nat|0=>[0,1]|1=>[0,1]|_=>[]
def BmX:Nat->List Nat|0=>[0,1]|1=>[0,1]|3=>[0,1]|_=>[]
def BmY:Nat->List Nat|0=>[0,1]|1=>[0,1]|_=>[]
def BmZ:Nat->List Nat|0=>[0,1]|1=>[0,1]|2=>[1]|3=>[0,1]|5=>[0,1]|6=>[0,5]|7=>[0,5]|8=>[5]|2000007=>[0,5]|_=>[]
def Bn0:Nat->List Nat|0=>[0]|1=>[0]|_=>[]
def Bn1:Nat->List Nat|0=>[0]|1=>[0]|2=>[0,4]|3=>[4,10,11,12]|4=>[4,10,11,12]|5=>[4,5,6,10,11,12]|7=>[4,5,6,10,11,12]|8=>[4,10,11,12]|9=>[7000004,4]|1000000=>[0,4]|_=>[]
def Bn2:Nat->List Nat|0=>[0]|1=>[0]|2=>[0,4,5]|3=>[0,4,5,10,11]|4=>[0,4,5,10,11]|5=>[0,4,5,6,10,11]|6=>[0,4,5,7,8,10,11]|7=>[0,4,5,7,10,11]|8=>[0,4,5,7,10,11]|9=>[0,4,5,10,11]|10=>[4,5]|11=>[4,5]|12=>[5]|13=>[4,5]|14=>[4]|1000000=>[0,4,5]|1000001=>[0,0,4,5,10,11]|_=>[]
def Bn3:Nat->List Nat|0=>[0]|1=>[0]|2=>[0,4,5]|3=>[0,4,5,6]|4=>[0,4,5,6,11,12]|5=>[0,4,5,6,11,12]|6=>[0,4,5,6,7,11,12]|7=>[0,4,5,6,8,9,11,12]|9=>[0,4,5,6,8,9,11,12]|10=>[0,4,5,6,8,11,12]|11=>[0,4,5,11,12]|12=>[0,4,5,6,8,11,12]|13=>[0,4,5,6,11,12]|14=>[4,5,6]|16=>[4,5]|1000000=>[0,4,5,6]|1000001=>[0,0,4,5,6,11,12]|_=>[]
def Bn4:Nat->List Nat|0=>[0,1,2,3]|1=>[0,1,2,3,8]|2=>[0,1,2,3,8]|3=>[0,1,2,3,8]|4=>[0,1,2,3,8,9]|5=>[0,1,2,3,8,9]|6=>[0,1,2,3,8,9]|1000000=>[0]|1000002=>[0,0,1,2,3,8]|_=>[]
def Bn5:Nat->List Nat|0=>[0,1,2,3,4]|1=>[0,1,2,3,4]|2=>[0,1,3,4,10]|3=>[0,1,4,10,11]|4=>[0,1,4,10,11]|5=>[0,1,4,10,11,12]|6=>[0,1,4,11,12]|7=>[0,1,4,10,12]|8=>[0,1,10]|9=>[0,10,13]|10=>[0,10,13]|11=>[0,10,13]|12=>[0,1,2,3,4]|13=>[0,1,2,4]|14=>[0,2,4,14]|15=>[0,2,4,14,15]|16=>[0,2,4,14,15]|17=>[0,2,4,14,15,16]|18=>[0,2,4,15,16]|19=>[0,2,4,14,16]|20=>[0,2,14]|21=>[0,14,17]|22=>[0,14,17]|23=>[0,14,17]|24=>[0,1,2,3,4]|25=>[0,1,2,3,4,18]|26=>[0,1,2,3,4,18,19]|27=>[0,1,2,3,4,18,19]|28=>[0,1,2,3,4,18,19]|29=>[0,1,2,3,4,18,19,20]|30=>[0,1,2,3,4,18,19]|31=>[0,1,2,3,4,18,19,20]|32=>[0,1,2,3,4,18,19,20,21]|33=>[0,1,2,3,4,18,19,20,21,22]|34=>[0,1,2,3,4,18,19,20,21,22]|35=>[0,1,2,3,4,18,19,20,21,22,23]|36=>[0,1,2,3,4,18,19,21,22,23]|37=>[0,1,2,3,4,18,19,20,22,23]|38=>[0,1,2,3,4,18,19,20]|39=>[0,1,2,3,4,18,20,24]|40=>[0,1,2,3,4,18,20,24]|41=>[0,1,3,4,18,20,24]|42=>[0,1,3,4,18,20,24]|43=>[0,3,4,18,24]|44=>[0,3,4,18,24]|1000000=>[0,0,1,10]|1000002=>[0]|1000004=>[0,0,2,14]|1000006=>[0]|1000008=>[0,0,1,2,3,4,18,19,20]|2000028=>[0,0,1,2,3,4,18,19,20,21]|2000040=>[0,0,1,3,4,18,20,24]|2000042=>[0,0,3,4,18,24]|_=>[]
def Bn6:Nat->List Nat|0=>[0,1]|1=>[0,1]|2=>[1,7,8]|3=>[1,7,8]|4=>[1,5,7,8]|5=>[1,6,7,8]|6=>[6]|7=>[1,7,8]|1000000=>[0]|_=>[]
def Bn7:Nat->List Nat|0=>[0,1,2]|1=>[0,1,2]|_=>[]
def Bn8:Nat->List Nat|0=>[0,1,2]|1=>[0,1,2]|_=>[]
def Bn9:Nat->List Nat|0=>[0]|1=>[0]|2=>[0]|3=>[0]|_=>[]
def BnA:Nat->List Nat|0=>[0,1]|1=>[0,1]|2=>[0]|_=>[]
def BnB:Nat->List Nat|0=>[0,1]|1=>[2,3]|_=>[]
def BnC:Nat->List Nat|0=>[0,1]|1=>[0,3]|2=>[0,3]|3=>[0,3]|2000002=>[0,0,3]|_=>[]
def BnD:Nat->List Nat|0=>[0,1]|1=>[1,2]|2=>[2]|5=>[1,2]|_=>[]
def BnE:Nat->List Nat|0=>[0,1]|1=>[0,1]|2=>[0]|3=>[0,1]|4=>[0]|1000000=>[0]|_=>[]
def BnF:Nat->List Nat|0=>[0,1,2,3,4]|1=>[0,2,3,4,10]|2=>[0,2,4,10,11]|3=>[0,2,4,10,11]|4=>[0,2,4,10,11]|5=>[0,2,4,10,11]|6=>[0,2,4,10,11]|7=>[0,2,4,10,11]|8=>[0,2,4,10]|1000000=>[0,0,2,4,10]|_=>[]
def BnG:Nat->List Nat|0=>[0,1,2,3]|1=>[0,1,2,3,10]|2=>[0,1,2,3,10]|3=>[0,1,2,3,10]|1000000=>[0]|_=>[]
def Bf2:Nat->List Nat|0=>[0,1,2,3]|1=>[2,3,4,5,8]|2=>[8,14000000]|3=>[2,3,4,5,8]|4=>[5,8,11]|5=>[8,11,12,13]|6=>[8,12,13,14]|7=>[8,13,14,14000000]|8=>[8,12,14,14000000]|_=>[]
def Bf3:Nat->List Nat|0=>[0]|1=>[1,2,14000000]|2=>[10003001,1,2,3]|3=>[2,3,11,12,13,16003001]|4=>[2,3,11,12,13]|5=>[2,3,5,11,12,13]|6=>[2,3,11,12,13]|7=>[2,3]|1000000=>[0,2,3,16003001]|_=>[]
def H:Nat->Nat->List Nat
 |5=>h5
 |6=>h6
 |7=>h7
 |8=>h8
 |9=>h9
 |11=>h11
 |13=>h13
 |14=>h14
 |15=>h15
 |17=>h17
 |19=>h19
 |20=>h20
 |21=>h21
 |28=>h28
 |29=>h29
 |30=>h30
 |31=>h31
 |32=>h32
 |36=>h36
 |37=>h37
 |38=>h38
 |39=>h39
 |40=>h40
 |44=>h44
 |45=>h45
 |46=>h46
 |47=>h47
 |52=>h52
 |53=>h53
 |54=>h54
 |55=>h55
 |56=>h56
 |57=>h57
 |58=>h58
 |59=>h59
 |60=>h60
 |69=>h69
 |70=>h70
 |71=>h71
 |72=>h72
 |73=>h73
 |74=>h74
 |75=>h75
 |76=>h76
 |77=>h77
 |78=>h78
 |79=>h79
 |80=>h80
 |81=>h81
 |82=>h82
 |83=>h83
 |95=>h95
 |96=>h96
 |98=>h98
 |99=>h99
 |100=>Bl1
 |101=>Bl2
 |102=>Bl3
 |103=>Bl4
 |104=>Bl5
 |105=>Bl6
 |106=>Bl7
 |107=>Bl8
 |108=>Bl9
 |109=>BlA
 |120=>BlB
 |121=>BlC
 |122=>BlD
 |123=>BlE
 |124=>BlF
 |125=>BlG
 |126=>BlH
 |127=>BlI
 |128=>BlJ
 |129=>BlK
 |130=>BlL
 |131=>BlM
 |132=>BlN
 |144=>BlO
 |145=>BlP
 |146=>BlQ
 |147=>BlR
 |148=>BlS
 |149=>BlT
 |150=>BlU
 |151=>BlV
 |152=>BlW
 |153=>BlX
 |154=>BlY
 |155=>BlZ
 |164=>Bm0
 |165=>Bm1
 |166=>Bm2
 |167=>Bm3
 |168=>Bm4
 |169=>Bm5
 |170=>Bm6
 |171=>Bm7
 |172=>Bm8
 |173=>Bm9
 |175=>BmA
 |185=>BmB
 |186=>BmC
 |187=>BmD
 |188=>BmE
 |189=>BmF
 |190=>BmG
 |191=>BmH
 |192=>BmI
 |194=>BmJ
 |195=>BmK
 |196=>BmL
 |197=>BmM
 |209=>BmN
 |210=>BmO
 |211=>BmP
 |212=>BmQ
 |213=>BmR
 |214=>BmS
 |215=>BmT
 |217=>BmU
 |218=>BmV
 |219=>BmW
 |220=>BmX
 |221=>BmY
 |222=>BmZ
 |224=>Bn0
 |225=>Bn1
 |226=>Bn2
 |227=>Bn3
 |229=>Bn4
 |230=>Bn5
 |231=>Bn6
 |232=>Bn7
 |233=>Bn8
 |236=>Bn9
 |237=>BnA
 |238=>BnB
 |239=>BnC
 |240=>BnD
 |241=>BnE
 |242=>BnF
 |244=>BnG
 |1000011=>Bf2
 |1000032=>Bf3
 |_=>λ_=>[]
def g10:Nat->List Nat|2=>[1]|3=>[1,2,3,4]|4=>[1,2,3,4,7]|5=>[2,3,4,7,10]|_=>[]
def g22:Nat->List Nat|0=>[0,1]|1=>[2,3,4]|_=>[]
def g23:Nat->List Nat|0=>[0,1]|1=>[0,3,4]|_=>[]
def g24:Nat->List Nat|0=>[0]|1=>[0,2]|_=>[]
def g25:Nat->List Nat|0=>[0]|1=>[1,2]|_=>[]
def g26:Nat->List Nat|0=>[0]|1=>[0,2]|2=>[0,2,3]|3=>[0,2,3,4]|4=>[0,2,3,4]|5=>[0,2,3,4]|6=>[2,3]|1000000=>[0,2,3]|_=>[]
def g27:Nat->List Nat|0=>[0]|1=>[0,2]|_=>[]
def H0:Nat->Nat->List Nat
 |10=>g10
 |22=>g22
 |23=>g23
 |24=>g24
 |25=>g25
 |26=>g26
 |27=>g27
 |n=>H n
noncomputable abbrev P:=Go.Proofs.Tryz.prog
def AgW:Option Bool:=some true
def AmW:Call:=λ_ args lh=>match args,lh with
 | [],[]=>some (.ret (.d (.bool true)) [])
 |_,_=>none
def E0:Nat->Option Call:=λf=>if f=97 then some AhY else if f=193 then some AeM else if f=156 then some Ad8 else if f=174 then some Run.heldCall else none
def E:Nat->Option Call:=λf=>if f=10 then some AmW else E0 f
noncomputable abbrev X:Ctx:=⟨P,E,H⟩
theorem AxG {r:Bool} (h:AgW=some r):bF X 10 [] [] (.ret (.d (.bool r)) []):=
 aval_ext (g:=AmW) (args':=[]) rfl rfl (by cases h; rfl)
instance:Ok AgW λr=>bF X 10 [] [] (.ret (.d (.bool r)) []):=⟨AxG⟩
def sV (l:List Int):Option (Nat×List Int):=if l.length<=4294967296 then some (l.length,l) else none
theorem AxF {l:List Int} {r:Nat×List Int} (h:sV l=some r):bF X 97 [.d (.list 1 (l.map (D.int .i64)))] [] (.ret (.c (.arr 0 r.1 1)) [[.seq 1 (r.2.map (D.int .i64))]]):=
 aval_ext (g:=AhY) (args':=[.d (.list 1 (l.map (D.int .i64)))]) rfl rfl (by
  unfold sV at h
  split at h
  ·rename_i hl
   cases h
   show Option.bind _ _=_
   rw[AeX]
   show ite _ _ _=_
   rw[if_pos hl]; rfl
  cases h)
def AdW (n:Nat) (i j:Int) (l:List Int):Option (List Int×List Int):=if l.length=n/\0<n/\n<=4294967296/\0<=i/\i<=j/\j<=n then some (l.take i.toNat++l.drop j.toNat,[]) else none
theorem AuR {n:Nat} {i j:Int} {l:List Int} {r:List Int×List Int} (h:AdW n i j l=some r) :
  bF X 193 [.arr 0 n 1,.d (.int .i64 i),.d (.int .i64 j)] [[.seq 1 (l.map (D.int .i64))]] (.ret (.d (.list 1 (r.1.map (D.int .i64)))) [[.seq 1 (r.2.map (D.int .i64))]]):=
 aval_ext (g:=AeM) (args':=[.arr 0 n 1,.d (.int .i64 i),.d (.int .i64 j)]) rfl rfl (by
  unfold AdW at h
  split at h
  ·rename_i hl
   cases h
   show Option.bind _ _=_
   rw[AeX]
   show ite _ _ _=_
   rw[if_pos hl]; rfl
  cases h)
def AbQ (n:Nat) (l:List Int):Option (List Int):=if l.length=n/\n<=4294967296 then some l.reverse else none
theorem ArM {n:Nat} {l r:List Int} (h:AbQ n l=some r):bF X 156 [.arr 0 n 1] [[.seq 1 (l.map (D.int .i64))]] (.ret (.tuple []) [[.seq 1 (r.map (D.int .i64))]]):=
 aval_ext (g:=Ad8) (args':=[.arr 0 n 1]) rfl rfl (by
  unfold AbQ at h
  split at h
  ·rename_i hl
   cases h
   show Option.bind _ _=_
   rw[AeX]
   show ite _ _ _=_
   rw[if_pos hl]; rfl
  cases h)
def sO (op a b:Int):Option Int:=Run.heldI op a b
theorem AzU {op a b r:Int} (h:sO op a b=some r):bF X 174 [.d (.int .i64 op),.d (.int .i64 a),.d (.int .i64 b)] [] (.ret (.d (.int .i64 r)) []):=
 aval_ext (g:=Run.heldCall) (args':=[.d (.int .i64 op),.d (.int .i64 a),.d (.int .i64 b)]) rfl rfl (by show Option.map _ (Run.heldI op a b)=_; rw[show Run.heldI op a b=some r from h]; rfl)
instance {op a b:Int}:Ok (sO op a b) λr=>bF X 174 [.d (.int .i64 op),.d (.int .i64 a),.d (.int .i64 b)] [] (.ret (.d (.int .i64 r)) []):=⟨AzU⟩
instance {l:List Int}:Ok (sV l) λr=>bF X 97 [.d (.list 1 (l.map (D.int .i64)))] [] (.ret (.c (.arr 0 r.1 1)) [[.seq 1 (r.2.map (D.int .i64))]]):=⟨AxF⟩
instance {n:Nat} {l:List Int}:Ok (AbQ n l) λr=>bF X 156 [.arr 0 n 1] [[.seq 1 (l.map (D.int .i64))]] (.ret (.tuple []) [[.seq 1 (r.map (D.int .i64))]]):=⟨ArM⟩
instance {n:Nat} {i j:Int} {l:List Int}:Ok (AdW n i j l) λr=>bF X 193 [.arr 0 n 1,.d (.int .i64 i),.d (.int .i64 j)] [[.seq 1 (l.map (D.int .i64))]] (.ret (.d (.list 1 (r.1.map (D.int .i64)))) [[.seq 1 (r.2.map (D.int .i64))]]):=⟨AuR⟩
abbrev LI:=List Int
theorem I {α:Sort _} {a:α}:a=a:=rfl
abbrev iZ (n:Int):D:=.int .i64 n
abbrev lI (l:List Int):D:=.list 1 (List.map (D.int .i64) l)
abbrev oI (l:List Int):C:=.own 1 (List.map (D.int .i64) l)
abbrev lS (l:List Str):D:=.list 1 (List.map D.str l)
abbrev oS (l:List Str):C:=.own 1 (List.map D.str l)
abbrev lC (l:List aA):D:=.list 3 (List.map aC l)
abbrev oC (l:List aA):C:=.own 3 (List.map aC l)
abbrev lN (l:List Node):D:=.list 7 (List.map rQ l)
abbrev oN (l:List Node):C:=.own 7 (List.map rQ l)
abbrev B:=@Ag7
abbrev E_:=@AlC
abbrev S_:=@Au5
abbrev N_:=@kW.normal
abbrev P_:=@fW.pan
abbrev C_:=@fW.ret
abbrev R_:=@BaU
abbrev K_:=@AwF
abbrev W_:=@yK
abbrev Q_:=@kW.ret
abbrev U_:=@kW.pan
abbrev O_:=@AkH
abbrev X_:=@AwE
end Go.AM.Seat
namespace Go.Proofs
open Go.Shelf
def Tryz.laysSlE35_f156_ren:Go.Shelf.Ren:=⟨fun|35=>156|n=>n,fun|22=>26|23=>3|3=>3|4=>4|0=>0|n=>n,fun|n=>n⟩
theorem Tryz.laysSlE35_f156:Go.Proofs.SlLaysE.n35 Tryz.prog Tryz.laysSlE35_f156_ren:={
 mixed:=by kernel_rfl
 f35:=⟨Tryz.f156.name,by decide,Tryz.func156.trans (congrArg some (by kernel_rfl))⟩
 t0:=Tryz.underlying0
 a0:=Tryz.isAgg0
 z0:=Tryz.sizeOf0
 v0:=Tryz.zeroValue0
 t3:=Tryz.underlying3
 a3:=Tryz.isAgg3
 z3:=Tryz.sizeOf3
 v3:=Tryz.zeroValue3
 t4:=Tryz.underlying4
 a4:=Tryz.isAgg4
 z4:=Tryz.sizeOf4
 v4:=Tryz.zeroValue4
 t22:=Tryz.underlying26
 a22:=Tryz.isAgg26
 z22:=Tryz.sizeOf26
 v22:=Tryz.zeroValue26
 a23:=Tryz.isAgg3
 z23:=Tryz.sizeOf3 }
def Tryz.laysSlE45_f193_ren:Go.Shelf.Ren:=⟨fun|45=>193|n=>n,fun|22=>26|23=>3|3=>3|4=>4|0=>0|n=>n,fun|n=>n⟩
theorem Tryz.laysSlE45_f193:Go.Proofs.SlLaysE.n45 Tryz.prog Tryz.laysSlE45_f193_ren:={
 mixed:=by kernel_rfl
 f45:=⟨Tryz.f193.name,by decide,Tryz.func193.trans (congrArg some (by kernel_rfl))⟩
 t0:=Tryz.underlying0
 a0:=Tryz.isAgg0
 z0:=Tryz.sizeOf0
 v0:=Tryz.zeroValue0
 t3:=Tryz.underlying3
 a3:=Tryz.isAgg3
 z3:=Tryz.sizeOf3
 v3:=Tryz.zeroValue3
 t4:=Tryz.underlying4
 a4:=Tryz.isAgg4
 z4:=Tryz.sizeOf4
 v4:=Tryz.zeroValue4
 t22:=Tryz.underlying26
 a22:=Tryz.isAgg26
 z22:=Tryz.sizeOf26
 v22:=Tryz.zeroValue26
 a23:=Tryz.isAgg3
 z23:=Tryz.sizeOf3 }
def Tryz.laysSlE041_f97_ren:Go.Shelf.Ren:=⟨fun|41=>97|n=>n,fun|22=>26|23=>3|4=>4|n=>n,fun|n=>n⟩
theorem Tryz.laysSlE041_f97:Go.Proofs.SlLaysE0.n41 Tryz.prog Tryz.laysSlE041_f97_ren:={
 mixed:=by kernel_rfl
 f41:=⟨Tryz.f97.name,by decide,Tryz.func97.trans (congrArg some (by kernel_rfl))⟩
 t4:=Tryz.underlying4
 a4:=Tryz.isAgg4
 z4:=Tryz.sizeOf4
 v4:=Tryz.zeroValue4
 t22:=Tryz.underlying26
 a22:=Tryz.isAgg26
 z22:=Tryz.sizeOf26
 v22:=Tryz.zeroValue26 }
end Go.Proofs
namespace Go.AM.Seat
open Go Go.AM Go.Proofs
set_option maxRecDepth 100000
set_option maxHeartbeats 0
theorem BfJ:oW P where
 func f fn h:=by
  have hall:(P.funcs.toList.all AjT)=true:=by kernel_rfl
  exact List.all_eq_true.1 hall fn (by rw[←Array.getElem?_toList] at h; exact List.mem_of_getElem? h)
 mixed:=Tryz.laysSlE35_f156.mixed
theorem Au8:Callee P 97:=⟨_,Tryz.func97,by kernel_rfl⟩
theorem ArB:Callee P 193:=⟨_,Tryz.func193,by kernel_rfl⟩
theorem Ap5:Callee P 156:=⟨_,Tryz.func156,by kernel_rfl⟩
theorem AwM:Callee P 174:=⟨_,Tryz.func174,by kernel_rfl⟩
theorem Bf6:(P.info? 3).isSome=true:=by kernel_rfl
noncomputable def i3:TypeInfo:=(P.info? 3).get Bf6
theorem BiX:i3.zero.isSome=true:=by kernel_rfl
noncomputable def z3:Value:=i3.zero.get BiX
instance:cU:=⟨[]⟩
theorem ApU:∀f g,E0 f=some g->∀args lh r,g f args lh=some r->Callee P f/\pO P f args lh r:=by
 intro f g hf args lh r h
 unfold E0 at hf
 split at hf
 ·rename_i e
  subst e
  simp only[sJ] at hf
  subst hf
  exact⟨Au8,BeI (ρ:=Tryz.laysSlE041_f97_ren) Tryz.laysSlE041_f97 i3 z3 (Option.some_get Bf6).symm (Option.some_get BiX).symm (by kernel_rfl) (by kernel_rfl) (by kernel_rfl) h⟩
 split at hf
 ·rename_i e
  subst e
  simp only[sJ] at hf
  subst hf
  exact⟨ArB,BcF (ρ:=Tryz.laysSlE45_f193_ren) Tryz.laysSlE45_f193 Tryz.zeroValue3 i3 (Option.some_get Bf6).symm (by kernel_rfl) h⟩
 split at hf
 ·rename_i e
  subst e
  simp only[sJ] at hf
  subst hf
  exact⟨Ap5,Ba8 (ρ:=Tryz.laysSlE35_f156_ren) Tryz.laysSlE35_f156 h⟩
 split at hf
 ·rename_i e
  subst e
  simp only[sJ] at hf
  subst hf
  exact⟨AwM,Run.held_ok h⟩
 cases hf
theorem BdL:Aa7 P E0 H0 200 10 [] []=some (.ret (.d (.bool true)) []):=by kernel_rfl
theorem BcQ:∀f g,E f=some g->∀args lh r,g f args lh=some r->Callee P f/\pO P f args lh r:=by
 intro f g hf args lh r h
 unfold E at hf
 split at hf
 ·rename_i e
  subst e
  simp only[sJ] at hf
  subst hf
  unfold AmW at h
  split at h
  ·simp only[sJ] at h
   subst h
   exact (Ac9 BfJ ApU H0 200).o 10 [] [] _ BdL
  cases h
 exact ApU f g hf args lh r h
theorem call_ok {f:Nat} {args:List C} {lh:List (List C)} {r:aF} (h:bF X f args lh r):pO P f args lh r:=by
 obtain⟨k,hk⟩:=h
 refine ((Ac9 BfJ BcQ H k).o f args lh r ?_).2
 exact hk k (Nat.le_refl k)
theorem no_glob (w:World):AvS w:=λx hx=>by simp[cU.tab] at hx
end Go.AM.Seat
