/- Part of a proof about the given program: the abstract machine, the printed functions, the plain laws. -/
import Derived.Test.YtbillkiljpkdfaaGreatRunAgainA5
set_option linter.all false
set_option maxRecDepth 100000
set_option maxHeartbeats 4000000
namespace Go.AM.Seat
open Go Go.AM Go.Proofs
abbrev AbX (a:Arr×Arr×Int×LI×LI×Int×LI) (res:LI):Prop:=match a with|(m,x,axis,l,l1,x1,c0)=>cL X 101 (aP [1,1,1,1,1,1,1,1,0,1,0,0] (aQ Tryz.f101)) (aJ (X.H 101 11) 17) (aL 0 (X.H 101 1000000) 17 (iL (λ(c01:LI)=>(⟨[(4,.c (.ptr 1 0)),(6,.c (.ptr 2 0)),(8,.d (iZ axis)),(9,.d (lI l)),(11,.c (.ptr 16 0))],[(16,[.arr 15 (List.length l1) 1,oC []]),(15,[.seq 1 (List.map (D.int .i64) c01)]),(2,[oI [],oC []]),(1,[.d (lI x.shape),.d (lC x.cells)]),(0,[.d (lI m.shape),.d (lC m.cells)])],17,[],none⟩:St)) res)) ⟨[(4,.c (.ptr 1 0)),(6,.c (.ptr 2 0)),(8,.d (iZ axis)),(9,.d (lI l)),(11,.c (.ptr 16 0)),(52,.d (lI l)),(53,.d (iZ (List.length l:Int))),(54,.d (iZ x1))],[(16,[.arr 15 (List.length l1) 1,oC []]),(15,[.seq 1 (List.map (D.int .i64) c0)]),(2,[oI [],oC []]),(1,[.d (lI x.shape),.d (lC x.cells)]),(0,[.d (lI m.shape),.d (lC m.cells)])],17,[],none⟩
instance {a:Arr×Arr×Int×LI×LI×Int×LI}:Ok (iS a) (AbX a):=⟨λh=>iS.partial_correctness AbX (by
 rintro P_ IH ⟨m,x,axis,l,l1,x1,c0⟩ res h
 have IH:=Ok.mk' IH
 refine lg I (ra I (S_ ?_))
 rcases E_ h with ⟨hc,h⟩|⟨hc,h⟩
 ·refine ct I hc (K_ (cn I (N_ (S_ (W_ (S_ (rn 0 I ?_)))))))
  obtain⟨k,hk,h⟩:=B h
  refine po (nQ (D.int .i64) (λ_=>I) hk I I I I I) I I (on 2 I (rz (rn 3 I ?_)))
  obtain⟨j1,hk,h⟩:=B h
  refine po (Aa1 hk I I I I I) I I ?_
  obtain⟨y1,hk,h⟩:=B h
  refine po (ApK (D.int .i64) hk I I (λ_=>⟨I,I,I⟩) I I) I I (on 2 I ?_)
  obtain⟨j2,hk,h⟩:=B h
  refine po (Aa1 hk I I I I I) I I ?_
  obtain⟨c,hk,h⟩:=B h
  refine po (est (D.int .i64) (v:=(w64 (y1+k))) hk I I (λ_=>⟨I,I,I⟩) I I I I) I I (O_ (en I (N_ (rn 2 I (O_ (cD.normal ?_))))))
  have hv:=Ok.ok h
  exact bW I I hv
 ·refine cf I hc (X_ (fW.exit (kW.exit (cD.exit (eh I ?_)))))
  cases h
  exact .ok I
 ) _ _ h⟩
abbrev AbY (a:Arr×Arr×LI×LI×LI×Int×Int) (res:Int):Prop:=match a with|(m,x,l,l3,l4,size,x3)=>cL X 101 (aP [1,1,1,1,1,1,1,1,1,1,1,0,1,0,0] (aQ Tryz.f101)) (aJ (X.H 101 20) 17) (aL 2 (X.H 101 1000002) 17 (iL (λ(size1:Int)=>(⟨[(4,.c (.ptr 1 0)),(6,.c (.ptr 2 0)),(9,.d (lI l)),(11,.c (.ptr 16 0)),(16,.d (iZ size1))],[(16,[.d (lI l3),oC []]),(2,[oI [],oC []]),(1,[.d (lI x.shape),.d (lC x.cells)]),(0,[.d (lI m.shape),.d (lC m.cells)])],17,[],none⟩:St)) res)) ⟨[(4,.c (.ptr 1 0)),(6,.c (.ptr 2 0)),(9,.d (lI l)),(11,.c (.ptr 16 0)),(16,.d (iZ size)),(81,.d (lI l4)),(82,.d (iZ (List.length l4:Int))),(83,.d (iZ x3))],[(16,[.d (lI l3),oC []]),(2,[oI [],oC []]),(1,[.d (lI x.shape),.d (lC x.cells)]),(0,[.d (lI m.shape),.d (lC m.cells)])],17,[],none⟩
instance {a:Arr×Arr×LI×LI×LI×Int×Int}:Ok (iT a) (AbY a):=⟨λh=>iT.partial_correctness AbY (by
 rintro P_ IH ⟨m,x,l,l3,l4,size,x3⟩ res h
 have IH:=Ok.mk' IH
 refine lg I (ra I (S_ ?_))
 rcases E_ h with ⟨hc,h⟩|⟨hc,h⟩
 ·refine ct I hc (K_ (cn I (N_ (S_ (W_ (S_ (rn 0 I ?_)))))))
  obtain⟨d,hk,h⟩:=B h
  refine po (nQ (D.int .i64) (λ_=>I) hk I I I I I) I I (on 2 I (rz (rn 4 I (O_ (en I (N_ (rn 2 I (O_ (cD.normal ?_)))))))))
  have hv:=Ok.ok h
  exact bW I I hv
 ·refine cf I hc (X_ (fW.exit (kW.exit (cD.exit (eh I ?_)))))
  cases h
  exact .ok I
 ) _ _ h⟩
abbrev Ac1 (a:Arr×Arr×LI×LI×Int×Int×Int×Int×Int×(List aA)) (res:(List aA)):Prop:=match a with|(m,x,l,l3,size1,at_,x4,k1,x5,out12)=>cL X 101 (aP [1,1,1,1,1,1,1,1,1,1,1,1,0,1,0,0,1,0,0,1,0,0,1,1,0,0,1,1,0,0] (aQ Tryz.f101)) (aJ (X.H 101 31) 17) (aL 8 (X.H 101 1000008) 17 (iL (λ(out13:(List aA))=>(⟨[(4,.c (.ptr 1 0)),(6,.c (.ptr 2 0)),(9,.d (lI l)),(11,.c (.ptr 16 0)),(16,.d (iZ size1)),(19,.d (iZ at_)),(102,.d (lI l)),(103,.d (iZ (List.length l:Int))),(104,.d (iZ x4))],[(16,[.d (lI l3),oC out13]),(2,[oI [],oC []]),(1,[.d (lI x.shape),.d (lC x.cells)]),(0,[.d (lI m.shape),.d (lC m.cells)])],17,[],none⟩:St)) res)) ⟨[(4,.c (.ptr 1 0)),(6,.c (.ptr 2 0)),(9,.d (lI l)),(11,.c (.ptr 16 0)),(16,.d (iZ size1)),(19,.d (iZ at_)),(20,.d (iZ x4)),(102,.d (lI l)),(103,.d (iZ (List.length l:Int))),(104,.d (iZ x4)),(109,.d (iZ k1)),(110,.d (iZ x5))],[(16,[.d (lI l3),oC out12]),(2,[oI [],oC []]),(1,[.d (lI x.shape),.d (lC x.cells)]),(0,[.d (lI m.shape),.d (lC m.cells)])],17,[],none⟩
instance {a:Arr×Arr×LI×LI×Int×Int×Int×Int×Int×(List aA)}:Ok (iV a) (Ac1 a):=⟨λh=>iV.partial_correctness Ac1 (by
 rintro P_ IH ⟨m,x,l,l3,size1,at_,x4,k1,x5,out12⟩ res h
 have IH:=Ok.mk' IH
 refine lg I (ra I (S_ ?_))
 rcases E_ h with ⟨hc,h⟩|⟨hc,h⟩
 ·refine ct I hc (K_ (cn I (N_ (S_ (W_ (drn (m:=36) 15 I I ?_))))))
  obtain⟨l5,hk,h⟩:=B h
  refine pd (AsP hk I I I I I I I) I I I I I ?_
  obtain⟨l6,hk,h⟩:=B h
  refine pd (AgO hk I I I I I I I I I I I I I I ) I I I I I (don 2 I (dz' (by kernel_rfl) (en I (N_ (rn 2 I (O_ (cD.normal ?_)))))))
  have hv:=Ok.ok h
  exact bW I I hv
 ·refine cf I hc (X_ (fW.exit (kW.exit (cD.exit (eh I ?_)))))
  cases h
  exact .ok I
 ) _ _ h⟩
abbrev Ac0 (a:Arr×Arr×LI×LI×Int×Int×Int×(List aA)) (res:(List aA)):Prop:=match a with|(m,x,l,l3,size1,at_,x4,out11)=>cL X 101 (aP [1,1,1,1,1,1,1,1,1,1,1,1,0,1,0,0,1,0,0,1,0,0] (aQ Tryz.f101)) (aJ (X.H 101 28) 17) (aL 6 (X.H 101 1000006) 17 (iL (λ(out14:(List aA))=>(⟨[(4,.c (.ptr 1 0)),(6,.c (.ptr 2 0)),(9,.d (lI l)),(11,.c (.ptr 16 0)),(16,.d (iZ size1)),(19,.d (iZ at_))],[(16,[.d (lI l3),oC out14]),(2,[oI [],oC []]),(1,[.d (lI x.shape),.d (lC x.cells)]),(0,[.d (lI m.shape),.d (lC m.cells)])],17,[],none⟩:St)) res)) ⟨[(4,.c (.ptr 1 0)),(6,.c (.ptr 2 0)),(9,.d (lI l)),(11,.c (.ptr 16 0)),(16,.d (iZ size1)),(19,.d (iZ at_)),(102,.d (lI l)),(103,.d (iZ (List.length l:Int))),(104,.d (iZ x4))],[(16,[.d (lI l3),oC out11]),(2,[oI [],oC []]),(1,[.d (lI x.shape),.d (lC x.cells)]),(0,[.d (lI m.shape),.d (lC m.cells)])],17,[],none⟩
instance {a:Arr×Arr×LI×LI×Int×Int×Int×(List aA)}:Ok (iU a) (Ac0 a):=⟨λh=>iU.partial_correctness Ac0 (by
 rintro P_ IH ⟨m,x,l,l3,size1,at_,x4,out11⟩ res h
 have IH:=Ok.mk' IH
 refine lg I (ra I (S_ ?_))
 rcases E_ h with ⟨hc,h⟩|⟨hc,h⟩
 ·refine ct I hc (K_ (cn I (N_ (S_ (W_ (S_ (rn 1 I ?_)))))))
  obtain⟨k1,hk,h⟩:=B h
  refine po (nQ (D.int .i64) (λ_=>I) hk I I I I I) I I (on 3 I (rz (ra I ?_)))
  obtain⟨out13,hs,h⟩:=B h
  refine gI (λ(out13:(List aA))=>(⟨[(4,.c (.ptr 1 0)),(6,.c (.ptr 2 0)),(9,.d (lI l)),(11,.c (.ptr 16 0)),(16,.d (iZ size1)),(19,.d (iZ at_)),(102,.d (lI l)),(103,.d (iZ (List.length l:Int))),(104,.d (iZ x4))],[(16,[.d (lI l3),oC out13]),(2,[oI [],oC []]),(1,[.d (lI x.shape),.d (lC x.cells)]),(0,[.d (lI m.shape),.d (lC m.cells)])],17,[],none⟩:St)) (y:=out13) ?_ ?_
  ·replace h:=hs
   refine W_ (dS ?_)
   have hv:=Ok.ok h
   exact bW I I hv
  refine en I (N_ (rn 2 I (O_ (cD.normal ?_))))
  have hv:=Ok.ok h
  exact bW I I hv
 ·refine cf I hc (X_ (fW.exit (kW.exit (cD.exit (eh I ?_)))))
  cases h
  exact .ok I
 ) _ _ h⟩
abbrev AbZ (a:Arr×Arr×LI×LI×Int×Int×(List aA)) (res:(List aA)):Prop:=match a with|(m,x,l,l3,size1,at_,out1)=>cL X 101 (aP [1,1,1,1,1,1,1,1,1,1,1,1,0,1,0,0] (aQ Tryz.f101)) (aJ (X.H 101 25) 17) (aL 4 (X.H 101 1000004) 17 (iL (λ(out15:(List aA))=>(⟨[(6,.c (.ptr 2 0)),(11,.c (.ptr 16 0))],[(16,[.d (lI l3),oC out15]),(2,[oI [],oC []]),(1,[.d (lI x.shape),.d (lC x.cells)]),(0,[.d (lI m.shape),.d (lC m.cells)])],17,[],none⟩:St)) res)) ⟨[(4,.c (.ptr 1 0)),(6,.c (.ptr 2 0)),(9,.d (lI l)),(11,.c (.ptr 16 0)),(16,.d (iZ size1)),(19,.d (iZ at_))],[(16,[.d (lI l3),oC out1]),(2,[oI [],oC []]),(1,[.d (lI x.shape),.d (lC x.cells)]),(0,[.d (lI m.shape),.d (lC m.cells)])],17,[],none⟩
instance {a:Arr×Arr×LI×LI×Int×Int×(List aA)}:Ok (gG a) (AbZ a):=⟨λh=>gG.partial_correctness AbZ (by
 rintro P_ IH ⟨m,x,l,l3,size1,at_,out1⟩ res h
 have IH:=Ok.mk' IH
 refine lg I (S_ (S_ (rn 3 I (po (nR I I I I I I I) I I (on 1 I (rz ?_))))))
 rcases E_ h with ⟨hc,h⟩|⟨hc,h⟩
 ·refine ct I hc (K_ (cn I (N_ (S_ (W_ (S_ (rn 1 I (po (nR I I I I I I I) I I (on 1 I (rz ?_))))))))))
  obtain⟨out14,hs,h⟩:=B h
  refine gI (λ(out14:(List aA))=>(⟨[(4,.c (.ptr 1 0)),(6,.c (.ptr 2 0)),(9,.d (lI l)),(11,.c (.ptr 16 0)),(16,.d (iZ size1)),(19,.d (iZ at_))],[(16,[.d (lI l3),oC out14]),(2,[oI [],oC []]),(1,[.d (lI x.shape),.d (lC x.cells)]),(0,[.d (lI m.shape),.d (lC m.cells)])],17,[],none⟩:St)) (y:=out14) ?_ ?_
  ·replace h:=hs
   refine W_ (dS ?_)
   have hv:=Ok.ok h
   exact bW I I hv
  refine en I (N_ (rn 2 I (po (nR I I I I I I I) I I (on 4 I (O_ (cD.normal ?_))))))
  have hv:=Ok.ok h
  exact bW I I hv
 ·refine cf I hc (X_ (fW.exit (kW.exit (cD.exit (eh I ?_)))))
  cases h
  exact .ok I
 ) _ _ h⟩
instance {m:Arr} {a_:Arr} {last:Bool}:Ok (rV m a_ last) λr=>bF X 101 [.d (aI m),.d (aI a_),.d (.bool last)] [] (aF.ret (.tuple [.d (aI r.1),.d (iZ r.2)]) []):=⟨λ{r} h=>by
 unfold rV at h
 refine kM (tm:=[(0,.d (aI m)),(1,.d (aI a_)),(2,.d (.bool last))]) (hp:=[]) (n:=0) I Tryz.func101 I I I I I I (ra (nid':=3) I (S_ (rn 1 I ?_)))
 obtain⟨x,hk,h⟩:=B h
 have hv:=Ok.ok hk
 refine po (kJ (hv) I I I I I I I I I) I I (on 1 I (rz (ra I (S_ (ra I ?_)))))
 obtain⟨axis,hs,h⟩:=B h
 refine gI (λ(axis:Int)=>(⟨[(3,.c (.ptr 0 0)),(4,.c (.ptr 1 0)),(6,.c (.ptr 2 0)),(8,.d (iZ axis))],[(2,[oI [],oC []]),(1,[.d (lI x.shape),.d (lC x.cells)]),(0,[.d (lI m.shape),.d (lC m.cells)])],3,[],none⟩:St)) (y:=axis) ?_ ?_
 ·replace h:=hs
  rcases E_ h with ⟨hc,h⟩|⟨hc,h⟩
  ·refine ct I hc (rn 2 I (po (nR I I I I I I I) I I (on 2 I (O_ (cn I ?_)))))
   cases h
   exact .ok I
  refine cf I hc (K_ (cn I ?_))
  cases h
  exact .ok I
 ·refine N_ (S_ (drn (m:=15) 4 I I ?_))
  obtain⟨y,hk,h⟩:=B h
  refine pd (nQ (D.int .i64) (λ_=>I) hk I I I I I) I I I I I (don 1 I ?_)
  obtain⟨⟨l,e⟩,hk,h⟩:=B h
  have hv:=Ok.ok hk
  refine pd (kJ (hv) I I I I I I I I I) I I I I I (don 5 I (dz (by kernel_rfl) (S_ (ra I ?_))))
  rcases E_ h with ⟨hc,h⟩|⟨hc,h⟩
  ·refine ct I hc (ra I (R_ (C_ (Q_ ?_))))
   cases h
   exact .ret I I
  ·refine cf I hc (K_ (cn I (N_ (S_ (rnM (tm0:=[(40,.d (.bool (e != 0))),(39,.d (iZ e)),(4,.c (.ptr 1 0)),(6,.c (.ptr 2 0)),(8,.d (iZ axis)),(9,.d (lI l)),(10,.d (iZ e))]) (hp0:=[(2,[oI [],oC []]),(1,[.d (lI x.shape),.d (lC x.cells)]),(0,[.d (lI m.shape),.d (lC m.cells)])]) (nid0:=15) I I I (mo (.of λ_=>I) I (λ_=>I) (s2:=⟨[(43,.c (.full 1 (List.map (D.int .i64) ([]:LI)))),(4,.c (.ptr 1 0)),(6,.c (.ptr 2 0)),(8,.d (iZ axis)),(9,.d (lI l))],[(2,[oI [],oC []]),(1,[.d (lI x.shape),.d (lC x.cells)]),(0,[.d (lI m.shape),.d (lC m.cells)])],15,[],none⟩) I (mo (.of λ_=>I) I (λ_=>I) (s2:=⟨[(44,.c (.ptr 1 0)),(43,.c (.full 1 (List.map (D.int .i64) ([]:LI)))),(4,.c (.ptr 1 0)),(6,.c (.ptr 2 0)),(8,.d (iZ axis)),(9,.d (lI l))],[(2,[oI [],oC []]),(1,[.d (lI x.shape),.d (lC x.cells)]),(0,[.d (lI m.shape),.d (lC m.cells)])],15,[],none⟩) I (mo (.of λ_=>I) I (λ_=>I) (s2:=⟨[(45,.d (lI x.shape)),(44,.c (.ptr 1 0)),(43,.c (.full 1 (List.map (D.int .i64) ([]:LI)))),(4,.c (.ptr 1 0)),(6,.c (.ptr 2 0)),(8,.d (iZ axis)),(9,.d (lI l))],[(2,[oI [],oC []]),(1,[.d (lI x.shape),.d (lC x.cells)]),(0,[.d (lI m.shape),.d (lC m.cells)])],15,[],none⟩) I ?_))))))))
   obtain⟨l1,hk,h⟩:=B h
   refine ms (BfQ (D.int .i64) hk I I I I I I (Ap1 (D.int .i64)) I I I I I I I I I ) I (s2:=⟨[(46,.c (.arr 15 (List.length l1) 1)),(45,.d (lI x.shape)),(44,.c (.ptr 1 0)),(43,.c (.full 1 (List.map (D.int .i64) ([]:LI)))),(4,.c (.ptr 1 0)),(6,.c (.ptr 2 0)),(8,.d (iZ axis)),(9,.d (lI l))],[(15,[.seq 1 (List.map (D.int .i64) l1)]),(2,[oI [],oC []]),(1,[.d (lI x.shape),.d (lC x.cells)]),(0,[.d (lI m.shape),.d (lC m.cells)])],16,[],none⟩) I (mo (.of λ_=>I) I (λ_=>I) (s2:=⟨[(47,.vagg [.arr 15 (List.length l1) 1,.nilsl 3]),(46,.c (.arr 15 (List.length l1) 1)),(45,.d (lI x.shape)),(44,.c (.ptr 1 0)),(43,.c (.full 1 (List.map (D.int .i64) ([]:LI)))),(4,.c (.ptr 1 0)),(6,.c (.ptr 2 0)),(8,.d (iZ axis)),(9,.d (lI l))],[(15,[.seq 1 (List.map (D.int .i64) l1)]),(2,[oI [],oC []]),(1,[.d (lI x.shape),.d (lC x.cells)]),(0,[.d (lI m.shape),.d (lC m.cells)])],16,[],none⟩) I (mo (.of λ_=>I) I (λ_=>I) (s2:=⟨[(11,.c (.ptr 16 0)),(47,.vagg [.arr 15 (List.length l1) 1,.nilsl 3]),(46,.c (.arr 15 (List.length l1) 1)),(45,.d (lI x.shape)),(44,.c (.ptr 1 0)),(43,.c (.full 1 (List.map (D.int .i64) ([]:LI)))),(4,.c (.ptr 1 0)),(6,.c (.ptr 2 0)),(8,.d (iZ axis)),(9,.d (lI l))],[(16,[oI [],oC []]),(15,[.seq 1 (List.map (D.int .i64) l1)]),(2,[oI [],oC []]),(1,[.d (lI x.shape),.d (lC x.cells)]),(0,[.d (lI m.shape),.d (lC m.cells)])],17,[],none⟩) I (ms I I (s2:=⟨[(11,.c (.ptr 16 0)),(47,.vagg [.arr 15 (List.length l1) 1,.nilsl 3]),(46,.c (.arr 15 (List.length l1) 1)),(45,.d (lI x.shape)),(44,.c (.ptr 1 0)),(43,.c (.full 1 (List.map (D.int .i64) ([]:LI)))),(4,.c (.ptr 1 0)),(6,.c (.ptr 2 0)),(8,.d (iZ axis)),(9,.d (lI l))],[(16,[.arr 15 (List.length l1) 1,.nilsl 3]),(15,[.seq 1 (List.map (D.int .i64) l1)]),(2,[oI [],oC []]),(1,[.d (lI x.shape),.d (lC x.cells)]),(0,[.d (lI m.shape),.d (lC m.cells)])],17,[],none⟩) I (mz (N_ (S_ (rnF 3 (tm0:=[(11,.c (.ptr 16 0)),(47,.vagg [.arr 15 (List.length l1) 1,.nilsl 3]),(46,.c (.arr 15 (List.length l1) 1)),(45,.d (lI x.shape)),(44,.c (.ptr 1 0)),(43,.c (.full 1 (List.map (D.int .i64) ([]:LI)))),(4,.c (.ptr 1 0)),(6,.c (.ptr 2 0)),(8,.d (iZ axis)),(9,.d (lI l))]) (hp0:=[(16,[.arr 15 (List.length l1) 1,oC []]),(15,[.seq 1 (List.map (D.int .i64) l1)]),(2,[oI [],oC []]),(1,[.d (lI x.shape),.d (lC x.cells)]),(0,[.d (lI m.shape),.d (lC m.cells)])]) (nid0:=17) (Aj1 I (I) I) I ?_)))))))
   obtain⟨j,hk,h⟩:=B h
   refine po (Aa1 hk I I I I I) I I ?_
   obtain⟨l2,hk,h⟩:=B h
   refine po (est (D.int .i64) (v:=0) hk I I (λ_=>⟨I,I,I⟩) I I I I) I I (rz (S_ (S_ (rn 1 I (po (nR I I I I I I I) I I (on 1 I (rz ?_)))))))
   obtain⟨c01,hs,h⟩:=B h
   refine gI (λ(c01:LI)=>(⟨[(4,.c (.ptr 1 0)),(6,.c (.ptr 2 0)),(8,.d (iZ axis)),(9,.d (lI l)),(11,.c (.ptr 16 0))],[(16,[.arr 15 (List.length l1) 1,oC []]),(15,[.seq 1 (List.map (D.int .i64) c01)]),(2,[oI [],oC []]),(1,[.d (lI x.shape),.d (lC x.cells)]),(0,[.d (lI m.shape),.d (lC m.cells)])],17,[],none⟩:St)) (y:=c01) ?_ ?_
   ·replace h:=hs
    refine W_ (dS ?_)
    have hv:=Ok.ok h
    exact bW I I hv
   ·refine N_ (S_ ?_)
    obtain⟨l3,hkFl3,h⟩:=B h
    refine S_ (rnF 2 (tm0:=[(4,.c (.ptr 1 0)),(6,.c (.ptr 2 0)),(8,.d (iZ axis)),(9,.d (lI l)),(11,.c (.ptr 16 0))]) (hp0:=[(16,[.d (lI l3),oC []]),(2,[oI [],oC []]),(1,[.d (lI x.shape),.d (lC x.cells)]),(0,[.d (lI m.shape),.d (lC m.cells)])]) (nid0:=17) (Aj1 I (gC (b0:=16) (off:=0) I (jA (D.int .i64) I hkFl3 I I I)) I) I ?_)
    obtain⟨⟨x2,e1⟩,hk,h⟩:=B h
    have hv:=Ok.ok hk
    refine po (kJ (hv) I I I I I I I I I) I I (on 5 I (rz (ra I ?_)))
    rcases E_ h with ⟨hc,h⟩|⟨hc,h⟩
    ·refine ct I hc (ra I (R_ (C_ (Q_ ?_))))
     cases h
     exact .ret I I
    ·refine cf I hc (K_ (cn I (N_ (ra I (S_ (S_ (rn 4 I ?_)))))))
     obtain⟨l4,hk,h⟩:=B h
     refine po (Am6 hk I I I I I I) I I (po (nR I I I I I I I) I I (on 1 I (rz ?_)))
     obtain⟨size1,hs,h⟩:=B h
     refine gI (λ(size1:Int)=>(⟨[(4,.c (.ptr 1 0)),(6,.c (.ptr 2 0)),(9,.d (lI l)),(11,.c (.ptr 16 0)),(16,.d (iZ size1))],[(16,[.d (lI l3),oC []]),(2,[oI [],oC []]),(1,[.d (lI x.shape),.d (lC x.cells)]),(0,[.d (lI m.shape),.d (lC m.cells)])],17,[],none⟩:St)) (y:=size1) ?_ ?_
     ·replace h:=hs
      refine W_ (dS ?_)
      have hv:=Ok.ok h
      exact bW I I hv
     ·refine N_ (S_ (ra I ?_))
      obtain⟨out15,hs,h⟩:=B h
      refine gI (λ(out15:(List aA))=>(⟨[(6,.c (.ptr 2 0)),(11,.c (.ptr 16 0))],[(16,[.d (lI l3),oC out15]),(2,[oI [],oC []]),(1,[.d (lI x.shape),.d (lC x.cells)]),(0,[.d (lI m.shape),.d (lC m.cells)])],17,[],none⟩:St)) (y:=out15) ?_ ?_
      ·replace h:=hs
       refine W_ (dS ?_)
       have hv:=Ok.ok h
       exact bW I I hv
      ·refine N_ (ra I (R_ ?_))
       cases h
       exact .ret I I
 ⟩
abbrev xA (r:Arr):aF:=(aF.ret (.d (aI r)) [])
instance BcZ:Jn 105 1 49 (Int):=⟨λy=>[(11,.d (iZ y))],λy=>[]⟩
abbrev AcZ (a:Int×Arr×Int×LI×Int×Int) (res:Int):Prop:=match a with|(n,a_,axis,l,size,x)=>cL X 105 (aP [1,1,1,0,1,0,0] (aQ Tryz.f105)) (aJ (X.H 105 5) 2) (aL 0 (X.H 105 1000000) 2 (iL (λ(size1:Int)=>(⟨[(0,.d (iZ n)),(2,.d (iZ axis)),(4,.c (.ptr 0 0)),(6,.c (.ptr 1 0)),(7,.d (iZ size1))],[(1,[oI [],oC []]),(0,[.d (lI a_.shape),.d (lC a_.cells)])],2,[],none⟩:St)) res)) ⟨[(0,.d (iZ n)),(2,.d (iZ axis)),(4,.c (.ptr 0 0)),(6,.c (.ptr 1 0)),(7,.d (iZ size)),(30,.d (lI l)),(31,.d (iZ (List.length l:Int))),(32,.d (iZ x))],[(1,[oI [],oC []]),(0,[.d (lI a_.shape),.d (lC a_.cells)])],2,[],none⟩
instance {a:Int×Arr×Int×LI×Int×Int}:Ok (jX a) (AcZ a):=⟨λh=>jX.partial_correctness AcZ (by
 rintro P_ IH ⟨n,a_,axis,l,size,x⟩ res h
 have IH:=Ok.mk' IH
 have iE:fF Tryz.f105 0 _ xA:=⟨trivial⟩
 refine lg I ?_
 exact Wk) _ _ h⟩
abbrev Ad0 (a:Arr×Int×Int×Int×Int×(List aA)) (res:(List aA)):Prop:=match a with|(a_,size1,d1,k1,at_,out1)=>cL X 105 (aP [1,1,1,1,1,1,1,1,0,1,0,0] (aQ Tryz.f105)) (aJ (X.H 105 15) 3) (aL 2 (X.H 105 1000002) 3 (iL (λ(out11:(List aA))=>(⟨[(6,.c (.ptr 1 0)),(12,.c (.ptr 2 0))],[(2,[.d (lI a_.shape),oC out11]),(1,[oI [],oC []]),(0,[.d (lI a_.shape),.d (lC a_.cells)])],3,[],none⟩:St)) res)) ⟨[(4,.c (.ptr 0 0)),(6,.c (.ptr 1 0)),(7,.d (iZ size1)),(10,.d (iZ d1)),(11,.d (iZ k1)),(12,.c (.ptr 2 0)),(13,.d (iZ at_))],[(2,[.d (lI a_.shape),oC out1]),(1,[oI [],oC []]),(0,[.d (lI a_.shape),.d (lC a_.cells)])],3,[],none⟩
instance {a:Arr×Int×Int×Int×Int×(List aA)}:Ok (jY a) (Ad0 a):=⟨λh=>jY.partial_correctness Ad0 (by
 rintro P_ IH ⟨a_,size1,d1,k1,at_,out1⟩ res h
 have IH:=Ok.mk' IH
 have iE:fF Tryz.f105 0 _ xA:=⟨trivial⟩
 refine lg I ?_
 exact Wk) _ _ h⟩
instance {n:Int} {a_:Arr} {axis:Int}:Ok (lQ n a_ axis) λr=>bF X 105 [.d (iZ n),.d (aI a_),.d (iZ axis)] [] (xA r):=⟨λh=>by
 unfold lQ at h
 exact aB xA I Tryz.func105 I I I I I I λiE=>Wk⟩
abbrev AiT (r:aA×Int):aF:=(aF.ret (.tuple [.d (aC r.1),.d (iZ r.2)]) [])
instance {a_:Arr}:Ok (uX a_) λr=>bF X 172 [.d (aI a_)] [] (AiT r):=⟨λh=>by
 unfold uX at h
 exact aB AiT I Tryz.func172 I I I I I I λiE=>Wk⟩
abbrev AhG (a:Int×Arr×Int×LI×aA×Int×Int×(List aA)) (res:(List aA)):Prop:=match a with|(n,x,have_,shape,x4,x5,x6,more1)=>cL X 103 (aP [1,1,1,1,1,1,1,1,1,1,0,1,0,0] (aQ Tryz.f103)) (aJ (X.H 103 18) 14) (aL 0 (X.H 103 1000000) 14 (iL (λ(more3:(List aA))=>(⟨[(0,.d (iZ n)),(3,.c (.ptr 0 0)),(4,.c (.ptr 1 0)),(8,.c (.own 1 (List.map (D.int .i64) shape))),(13,.c (.arr 13 (Int.toNat (w64 ((w64 ((if n<(w64 (0-n)) then (w64 (0-n)) else n)-have_))*x5))) 3))],[(13,[.seq 3 (List.map aC more3)]),(12,[.d (iZ x4.kind),.d (iZ x4.n),.d (.list 2 (List.map aH x4.box))]),(1,[oI [],oC []]),(0,[.d (lI x.shape),.d (lC x.cells)])],14,[],none⟩:St)) res)) ⟨[(0,.d (iZ n)),(3,.c (.ptr 0 0)),(4,.c (.ptr 1 0)),(8,.c (.own 1 (List.map (D.int .i64) shape))),(11,.c (.ptr 12 0)),(13,.c (.arr 13 (Int.toNat (w64 ((w64 ((if n<(w64 (0-n)) then (w64 (0-n)) else n)-have_))*x5))) 3)),(78,.d (iZ ((Int.toNat (w64 ((w64 ((if n<(w64 (0-n)) then (w64 (0-n)) else n)-have_))*x5))):Int))),(79,.d (iZ x6))],[(13,[.seq 3 (List.map aC more1)]),(12,[.d (iZ x4.kind),.d (iZ x4.n),.d (.list 2 (List.map aH x4.box))]),(1,[oI [],oC []]),(0,[.d (lI x.shape),.d (lC x.cells)])],14,[],none⟩
instance {a:Int×Arr×Int×LI×aA×Int×Int×(List aA)}:Ok (oG a) (AhG a):=⟨λh=>oG.partial_correctness AhG (by
 rintro P_ IH ⟨n,x,have_,shape,x4,x5,x6,more1⟩ res h
 have IH:=Ok.mk' IH
 refine lg I (ra I (S_ ?_))
 rcases E_ h with ⟨hc,h⟩|⟨hc,h⟩
 ·refine ct I hc (K_ (cn I (N_ (S_ (W_ (ra I (rn 3 I ?_)))))))
  obtain⟨j,hk,h⟩:=B h
  refine po (Aa1 hk I I I I I) I I ?_
  obtain⟨more2,hk,h⟩:=B h
  refine po (est aC (v:=x4) hk I I (λ_=>⟨I,I,I⟩) I I I I) I I (O_ (en I (N_ (rn 2 I (O_ (cD.normal ?_))))))
  have hv:=Ok.ok h
  exact bW I I hv
 ·refine cf I hc (X_ (fW.exit (kW.exit (cD.exit (eh I ?_)))))
  cases h
  exact .ok I
 ) _ _ h⟩
instance {n:Int} {a_:Arr}:Ok (zW n a_) λr=>bF X 103 [.d (iZ n),.d (aI a_)] [] (aF.ret (.tuple [.d (aI r.1),.d (iZ r.2)]) []):=⟨λ{r} h=>by
 unfold zW at h
 refine kM (tm:=[(0,.d (iZ n)),(1,.d (aI a_))]) (hp:=[]) (n:=0) I Tryz.func103 I I I I I I (ra (nid':=2) I (S_ (rn 1 I ?_)))
 obtain⟨x,hk,h⟩:=B h
 have hv:=Ok.ok hk
 refine po (kJ (hv) I I I I I I I I I) I I (on 1 I (rz (S_ (S_ (rn 3 I ?_)))))
 rcases E_ h with ⟨hc,h⟩|⟨hc,h⟩
 ·refine gt I I I I hc I (on 3 I (rz (ct I I (ra I (R_ (C_ (Q_ ?_)))))))
  cases h
  exact .ret I I
 ·refine gf I I I I hc I (on 3 I (rz ?_))
  rcases E_ h with ⟨hc,h⟩|⟨hc,h⟩
  ·refine ct I hc (ra I (R_ (C_ (Q_ ?_))))
   cases h
   exact .ret I I
  ·refine cf I hc (K_ (cn I (N_ (S_ (drn (m:=12) 6 I I ?_)))))
   obtain⟨have_,hk,h⟩:=B h
   refine pd (nQ (D.int .i64) (λ_=>I) hk I I I I I) I I I I I (don 3 I (dz (by kernel_rfl) (S_ (rn 4 I ?_))))
   obtain⟨l,hk,h⟩:=B h
   refine po (Am6 hk I I I I I I) I I ?_
   obtain⟨shape,hk,h⟩:=B h
   refine po (AwV hk I I I I I I I I I I I I ) I I (on 1 I (rz (S_ (S_ (rn 1 I ?_)))))
   obtain⟨⟨x1,e⟩,hk,h⟩:=B h
   have hv:=Ok.ok hk
   refine po (kJ (hv) I I I I I I I I I) I I (on 5 I (rz (ra I ?_)))
   rcases E_ h with ⟨hc,h⟩|⟨hc,h⟩
   ·refine ct I hc (ra I (R_ (C_ (Q_ ?_))))
    cases h
    exact .ret I I
   ·refine cf I hc (K_ (cn I (N_ (S_ (ra I ?_)))))
    rcases E_ h with ⟨hc,h⟩|⟨hc,h⟩
    ·refine ct I hc (S_ (ra I ?_))
     rcases E_ h with ⟨hc,h⟩|⟨hc,h⟩
     ·refine ct I hc (S_ (rn 5 I ?_))
      obtain⟨x2,hk,h⟩:=B h
      have hv:=Ok.ok hk
      refine po (kJ (hv) I I I I I I I I I) I I (on 2 I (rz (R_ (C_ (Q_ (C_ (Q_ ?_)))))))
      cases h
      exact .ret I I
     refine cf I hc (K_ (cn I (N_ (S_ (rn 2 I ?_)))))
     obtain⟨x3,hk,h⟩:=B h
     have hv:=Ok.ok hk
     refine po (kJ (hv) I I I I I I I I I) I I (on 2 I (rz (R_ (C_ (Q_ ?_)))))
     cases h
     exact .ret I I
    ·refine cf I hc (K_ (cn I (N_ (S_ (rn 1 I ?_)))))
     obtain⟨⟨x4,e1⟩,hk,h⟩:=B h
     have hv:=Ok.ok hk
     refine po (kJ (hv) I I I I I I I I I) I I (on (nid':=13) 6 I (rz (S_ (ra I ?_))))
     rcases E_ h with ⟨hc,h⟩|⟨hc,h⟩
     ·refine ct I hc (ra I (R_ (C_ (Q_ ?_))))
      cases h
      exact .ret I I
     ·refine cf I hc (K_ (cn I (N_ (S_ (rn 4 I ?_)))))
      obtain⟨x5,hk,h⟩:=B h
      have hv:=Ok.ok hk
      refine po (kJ (hv) I I I I I I I I I) I I (on 1 I ?_)
      obtain⟨more,hk,h⟩:=B h
      refine po (Am7 (nid':=14) aC (aA.mk 0 0 []) hk I I I I I I I I I I I I ) I I (on (nid':=14) 1 I (rz (S_ (ra I ?_))))
      obtain⟨more3,hs,h⟩:=B h
      refine gI (λ(more3:(List aA))=>(⟨[(0,.d (iZ n)),(3,.c (.ptr 0 0)),(4,.c (.ptr 1 0)),(8,.c (.own 1 (List.map (D.int .i64) shape))),(13,.c (.arr 13 (Int.toNat (w64 ((w64 ((if n<(w64 (0-n)) then (w64 (0-n)) else n)-have_))*x5))) 3))],[(13,[.seq 3 (List.map aC more3)]),(12,[.d (iZ x4.kind),.d (iZ x4.n),.d (.list 2 (List.map aH x4.box))]),(1,[oI [],oC []]),(0,[.d (lI x.shape),.d (lC x.cells)])],14,[],none⟩:St)) (y:=more3) ?_ ?_
      ·replace h:=hs
       refine W_ (dS ?_)
       have hv:=Ok.ok h
       exact bW I I hv
      ·refine N_ (S_ (ra I ?_))
       rcases E_ h with ⟨hc,h⟩|⟨hc,h⟩
       ·refine ct I hc (S_ (rnM (tm0:=[(88,.d (.bool (decide (n<0)))),(87,.d (iZ n)),(0,.d (iZ n)),(3,.c (.ptr 0 0)),(4,.c (.ptr 1 0)),(8,.c (.own 1 (List.map (D.int .i64) shape))),(13,.c (.arr 13 (Int.toNat (w64 ((w64 ((if n<(w64 (0-n)) then (w64 (0-n)) else n)-have_))*x5))) 3))]) (hp0:=[(13,[.seq 3 (List.map aC more3)]),(12,[.d (iZ x4.kind),.d (iZ x4.n),.d (.list 2 (List.map aH x4.box))]),(1,[oI [],oC []]),(0,[.d (lI x.shape),.d (lC x.cells)])]) (nid0:=14) I I I (mo (.of λ_=>I) I (λ_=>I) (s2:=⟨[(89,.view (.tmp 8) 1 (List.map (D.int .i64) shape)),(3,.c (.ptr 0 0)),(4,.c (.ptr 1 0)),(8,.c (.own 1 (List.map (D.int .i64) shape))),(13,.c (.arr 13 (Int.toNat (w64 ((w64 ((if n<(w64 (0-n)) then (w64 (0-n)) else n)-have_))*x5))) 3))],[(13,[.seq 3 (List.map aC more3)]),(12,[.d (iZ x4.kind),.d (iZ x4.n),.d (.list 2 (List.map aH x4.box))]),(1,[oI [],oC []]),(0,[.d (lI x.shape),.d (lC x.cells)])],14,[],none⟩) I (mo (.of λ_=>I) I (λ_=>I) (s2:=⟨[(90,.c (.arr 13 (Int.toNat (w64 ((w64 ((if n<(w64 (0-n)) then (w64 (0-n)) else n)-have_))*x5))) 3)),(89,.view (.tmp 8) 1 (List.map (D.int .i64) shape)),(3,.c (.ptr 0 0)),(4,.c (.ptr 1 0)),(8,.c (.own 1 (List.map (D.int .i64) shape))),(13,.c (.arr 13 (Int.toNat (w64 ((w64 ((if n<(w64 (0-n)) then (w64 (0-n)) else n)-have_))*x5))) 3))],[(13,[.seq 3 (List.map aC more3)]),(12,[.d (iZ x4.kind),.d (iZ x4.n),.d (.list 2 (List.map aH x4.box))]),(1,[oI [],oC []]),(0,[.d (lI x.shape),.d (lC x.cells)])],14,[],none⟩) I (mo (.of λ_=>I) I (λ_=>I) (s2:=⟨[(91,.c (.ptr 0 1)),(90,.c (.arr 13 (Int.toNat (w64 ((w64 ((if n<(w64 (0-n)) then (w64 (0-n)) else n)-have_))*x5))) 3)),(89,.view (.tmp 8) 1 (List.map (D.int .i64) shape)),(3,.c (.ptr 0 0)),(4,.c (.ptr 1 0)),(8,.c (.own 1 (List.map (D.int .i64) shape))),(13,.c (.arr 13 (Int.toNat (w64 ((w64 ((if n<(w64 (0-n)) then (w64 (0-n)) else n)-have_))*x5))) 3))],[(13,[.seq 3 (List.map aC more3)]),(12,[.d (iZ x4.kind),.d (iZ x4.n),.d (.list 2 (List.map aH x4.box))]),(1,[oI [],oC []]),(0,[.d (lI x.shape),.d (lC x.cells)])],14,[],none⟩) I (mo (.of λ_=>I) I (λ_=>I) (s2:=⟨[(92,.d (lC x.cells)),(91,.c (.ptr 0 1)),(90,.c (.arr 13 (Int.toNat (w64 ((w64 ((if n<(w64 (0-n)) then (w64 (0-n)) else n)-have_))*x5))) 3)),(89,.view (.tmp 8) 1 (List.map (D.int .i64) shape)),(3,.c (.ptr 0 0)),(4,.c (.ptr 1 0)),(8,.c (.own 1 (List.map (D.int .i64) shape))),(13,.c (.arr 13 (Int.toNat (w64 ((w64 ((if n<(w64 (0-n)) then (w64 (0-n)) else n)-have_))*x5))) 3))],[(13,[.seq 3 (List.map aC more3)]),(12,[.d (iZ x4.kind),.d (iZ x4.n),.d (.list 2 (List.map aH x4.box))]),(1,[oI [],oC []]),(0,[.d (lI x.shape),.d (lC x.cells)])],14,[],none⟩) I ?_))))))
        obtain⟨l1,hkFl1,h⟩:=B h
        obtain⟨l2,hk,h⟩:=B h
        refine ms (BfQ aC hk I I I I I I (Au2 aC hkFl1 I) I I I I I I I I I ) I (s2:=⟨[(93,.c (.arr 14 (List.length l2) 3)),(92,.d (lC x.cells)),(91,.c (.ptr 0 1)),(90,.c (.arr 13 (Int.toNat (w64 ((w64 ((if n<(w64 (0-n)) then (w64 (0-n)) else n)-have_))*x5))) 3)),(89,.view (.tmp 8) 1 (List.map (D.int .i64) shape)),(3,.c (.ptr 0 0)),(4,.c (.ptr 1 0)),(8,.c (.own 1 (List.map (D.int .i64) shape))),(13,.c (.arr 13 (Int.toNat (w64 ((w64 ((if n<(w64 (0-n)) then (w64 (0-n)) else n)-have_))*x5))) 3))],[(14,[.seq 3 (List.map aC l2)]),(12,[.d (iZ x4.kind),.d (iZ x4.n),.d (.list 2 (List.map aH x4.box))]),(1,[oI [],oC []]),(0,[.d (lI x.shape),.d (lC x.cells)])],15,[],none⟩) I (mo (.of λ_=>I) I (λ_=>I) (s2:=⟨[(94,.vagg [.d (lI shape),.arr 14 (List.length l2) 3]),(93,.c (.arr 14 (List.length l2) 3)),(92,.d (lC x.cells)),(91,.c (.ptr 0 1)),(90,.c (.arr 13 (Int.toNat (w64 ((w64 ((if n<(w64 (0-n)) then (w64 (0-n)) else n)-have_))*x5))) 3)),(89,.view (.tmp 8) 1 (List.map (D.int .i64) shape)),(3,.c (.ptr 0 0)),(4,.c (.ptr 1 0)),(8,.c (.own 1 (List.map (D.int .i64) shape))),(13,.c (.arr 13 (Int.toNat (w64 ((w64 ((if n<(w64 (0-n)) then (w64 (0-n)) else n)-have_))*x5))) 3))],[(14,[.seq 3 (List.map aC l2)]),(12,[.d (iZ x4.kind),.d (iZ x4.n),.d (.list 2 (List.map aH x4.box))]),(1,[oI [],oC []]),(0,[.d (lI x.shape),.d (lC x.cells)])],15,[],none⟩) I (mo (.of λ_=>I) I (λ_=>I) (s2:=⟨[(94,.vagg [.d (lI shape),.arr 14 (List.length l2) 3]),(93,.c (.arr 14 (List.length l2) 3)),(92,.d (lC x.cells)),(91,.c (.ptr 0 1)),(90,.c (.arr 13 (Int.toNat (w64 ((w64 ((if n<(w64 (0-n)) then (w64 (0-n)) else n)-have_))*x5))) 3)),(89,.view (.tmp 8) 1 (List.map (D.int .i64) shape)),(3,.c (.ptr 0 0)),(4,.c (.ptr 1 0)),(8,.c (.own 1 (List.map (D.int .i64) shape))),(13,.c (.arr 13 (Int.toNat (w64 ((w64 ((if n<(w64 (0-n)) then (w64 (0-n)) else n)-have_))*x5))) 3))],[(14,[.seq 3 (List.map aC l2)]),(12,[.d (iZ x4.kind),.d (iZ x4.n),.d (.list 2 (List.map aH x4.box))]),(1,[.d (lI shape),.arr 14 (List.length l2) 3]),(0,[.d (lI x.shape),.d (lC x.cells)])],15,[],none⟩) I (mo (.of λ_=>I) I (λ_=>I) (s2:=⟨[(5,.d (iZ 0)),(94,.vagg [.d (lI shape),.arr 14 (List.length l2) 3]),(93,.c (.arr 14 (List.length l2) 3)),(92,.d (lC x.cells)),(91,.c (.ptr 0 1)),(90,.c (.arr 13 (Int.toNat (w64 ((w64 ((if n<(w64 (0-n)) then (w64 (0-n)) else n)-have_))*x5))) 3)),(89,.view (.tmp 8) 1 (List.map (D.int .i64) shape)),(3,.c (.ptr 0 0)),(4,.c (.ptr 1 0)),(8,.c (.own 1 (List.map (D.int .i64) shape))),(13,.c (.arr 13 (Int.toNat (w64 ((w64 ((if n<(w64 (0-n)) then (w64 (0-n)) else n)-have_))*x5))) 3))],[(14,[.seq 3 (List.map aC l2)]),(12,[.d (iZ x4.kind),.d (iZ x4.n),.d (.list 2 (List.map aH x4.box))]),(1,[.d (lI shape),.arr 14 (List.length l2) 3]),(0,[.d (lI x.shape),.d (lC x.cells)])],15,[],none⟩) I (mz (N_ (R_ (C_ (Q_ ?_))))))))
        cases h
        exact .retF I I (AcM I I I (mO (jA aC I (Aw0 _) I I I) (mO I AcO)) (ApJ AgP)) I
       ·refine cf I hc (K_ (cn I (N_ ?_)))
        obtain⟨more4,hkFmore4,h⟩:=B h
        refine S_ (rnF 4 (tm0:=[(13,.d (lC more4)),(88,.d (.bool (decide (n<0)))),(87,.d (iZ n)),(0,.d (iZ n)),(3,.c (.ptr 0 0)),(4,.c (.ptr 1 0)),(8,.c (.own 1 (List.map (D.int .i64) shape))),(13,.c (.arr 13 (Int.toNat (w64 ((w64 ((if n<(w64 (0-n)) then (w64 (0-n)) else n)-have_))*x5))) 3))]) (hp0:=[(12,[.d (iZ x4.kind),.d (iZ x4.n),.d (.list 2 (List.map aH x4.box))]),(1,[oI [],oC []]),(0,[.d (lI x.shape),.d (lC x.cells)])]) (nid0:=14) (Aj1 I (gT (t:=13) I I I (AuQ (AgT aC hkFmore4 I)) I I) I) I ?_)
        obtain⟨l3,hk,h⟩:=B h
        refine po (AwV hk I I I I I I I I I I I I ) I I (on 1 I ?_)
        obtain⟨l4,hk,h⟩:=B h
        refine po (AwW hk I I I I I I I I I I I I ) I I (on 3 I (rz (R_ ?_)))
        cases h
        exact .ret I I
 ⟩
abbrev AhZ (r:Arr×Int):aF:=(aF.ret (.tuple [.d (aI r.1),.d (iZ r.2)]) [])
instance BiH:Jn 46 1 34 (Bool):=⟨λy=>[(34,.d (.bool y))],λy=>[]⟩
instance BiI:Jn 46 1 58 (Bool):=⟨λy=>[(58,.d (.bool y))],λy=>[]⟩
instance BiJ:Jn 46 1 68 (Bool):=⟨λy=>[(68,.d (.bool y))],λy=>[]⟩
abbrev AlH (a:Int×Arr×Arr×Int) (res:Except (Arr×Int) (Unit)):Prop:=match a with|(op_,a_,b,x)=>cL X 46 (aP [1,0,1,0,0] (aQ Tryz.f46)) (aJ (X.H 46 2) 3) (aL 0 (X.H 46 1000000) 3 (lW X Tryz.f46 0 AhZ (λ(_:Unit)=>(⟨[(0,.d (iZ op_)),(4,.c (.ptr 0 0)),(5,.c (.ptr 1 0)),(6,.c (.ptr 2 0))],[(2,[oI [],oC []]),(1,[.d (lI b.shape),.d (lC b.cells)]),(0,[.d (lI a_.shape),.d (lC a_.cells)])],3,[],none⟩:St)) res)) ⟨[(0,.d (iZ op_)),(4,.c (.ptr 0 0)),(5,.c (.ptr 1 0)),(6,.c (.ptr 2 0)),(15,.c (.full 2 (List.map aH [a_,b]))),(16,.d (iZ (List.length [a_,b]:Int))),(17,.d (iZ x))],[(2,[oI [],oC []]),(1,[.d (lI b.shape),.d (lC b.cells)]),(0,[.d (lI a_.shape),.d (lC a_.cells)])],3,[],none⟩
instance {a:Int×Arr×Arr×Int}:Ok (rE a) (AlH a):=⟨λh=>rE.partial_correctness AlH (by
 rintro P_ IH ⟨op_,a_,b,x⟩ res h
 have IH:=Ok.mk' IH
 have iE:fF Tryz.f46 0 _ AhZ:=⟨trivial⟩
 refine lg I ?_
 exact Wk) _ _ h⟩
instance {op_:Int} {a_:Arr} {b:Arr}:Ok (AeB op_ a_ b) λr=>bF X 46 [.d (iZ op_),.d (aI a_),.d (aI b)] [] (AhZ r):=⟨λh=>by
 unfold AeB at h
 exact aB AhZ I Tryz.func46 I I I I I I λiE=>Wk⟩
abbrev AgN (a_1:aA) (r:Bool):aF:=(aF.ret (.d (.bool r)) [[.d (iZ a_1.kind),.d (iZ a_1.n),.d (.list 2 (List.map aH a_1.box))]])
instance {a_:aA} {a_1:aA}:Ok (xW a_ a_1) λr=>bF X 166 [.d (aC a_),.ptr 0 0] [[.d (iZ a_1.kind),.d (iZ a_1.n),.d (.list 2 (List.map aH a_1.box))]] ((AgN a_1) r):=⟨λh=>by
 unfold xW at h
 exact aB (AgN a_1) I Tryz.func166 I I I I I I λiE=>Wk⟩
abbrev eN (b:aA) (r:Int):aF:=(aF.ret (.d (iZ r)) [[.d (iZ b.kind),.d (iZ b.n),.d (.list 2 (List.map aH b.box))]])
abbrev kK (a:(List aA)×aA×Int) (res:Except (Int) (Unit)):Prop:=match a with|(s,b,x)=>cL X 165 (aP [1,0,1,0,0] (aQ Tryz.f165)) (aJ (X.H 165 2) 1) (aL 0 (X.H 165 1000000) 1 (lW X Tryz.f165 1 (eN b) (λ(_:Unit)=>(⟨[],[(0,[.d (iZ b.kind),.d (iZ b.n),.d (.list 2 (List.map aH b.box))])],1,[],none⟩:St)) res)) ⟨[(0,.d (lC s)),(1,.c (.fn 166 [0])),(7,.d (iZ (List.length s:Int))),(8,.d (iZ x))],[(0,[.d (iZ b.kind),.d (iZ b.n),.d (.list 2 (List.map aH b.box))])],1,[],none⟩
instance {a:(List aA)×aA×Int}:Ok (bU a) (kK a):=⟨λh=>bU.partial_correctness kK (by
 rintro P_ IH ⟨s,b,x⟩ res h
 have IH:=Ok.mk' IH
 have iE:fF Tryz.f165 1 _ (eN b):=⟨trivial⟩
 refine lg I ?_
 exact Wk) _ _ h⟩
instance {s:(List aA)} {b:aA}:Ok (eO s b) λr=>bF X 165 [.d (lC s),.fn 166 [0]] [[.d (iZ b.kind),.d (iZ b.n),.d (.list 2 (List.map aH b.box))]] ((eN b) r):=⟨λh=>by
 unfold eO at h
 exact aB (eN b) I Tryz.func165 I I I I I I λiE=>Wk⟩
abbrev AkX (r:Int):aF:=(aF.ret (.d (iZ r)) [])
instance {l:(List aA)} {c:aA}:Ok (uC l c) λr=>bF X 98 [.d (lC l),.d (aC c)] [] (AkX r):=⟨λh=>by
 unfold uC at h
 exact aB AkX I Tryz.func98 I I I I I I λiE=>Wk⟩
abbrev AlI (a:Arr×Arr×Nat×LI×Int×(List aA)) (res:(List aA)):Prop:=match a with|(a_,b,x,b1,x1,out1)=>cL X 45 (aP [1,1,1,0,1,0,1,0,1,1,0,1,0,0] (aQ Tryz.f45)) (aJ (X.H 45 11) 5) (aL 1 (X.H 45 1000001) 5 (iL (λ(out11:(List aA))=>(⟨[(6,.c (.ptr 2 0)),(9,.c (.ptr 3 0))],[(3,[.arr 4 x 1,oC out11]),(2,[oI [],oC []]),(1,[.d (lI b.shape),.d (lC b.cells)]),(0,[.d (lI a_.shape),.d (lC a_.cells)]),(4,[.seq 1 (List.map (D.int .i64) b1)])],5,[],none⟩:St)) res)) ⟨[(4,.c (.ptr 0 0)),(6,.c (.ptr 2 0)),(9,.c (.ptr 3 0)),(37,.d (lC b.cells)),(38,.d (iZ (List.length b.cells:Int))),(39,.d (iZ x1))],[(3,[.arr 4 x 1,oC out1]),(2,[oI [],oC []]),(1,[.d (lI b.shape),.d (lC b.cells)]),(0,[.d (lI a_.shape),.d (lC a_.cells)]),(4,[.seq 1 (List.map (D.int .i64) b1)])],5,[],none⟩
instance {a:Arr×Arr×Nat×LI×Int×(List aA)}:Ok (rG a) (AlI a):=⟨λh=>rG.partial_correctness AlI (by
 rintro P_ IH ⟨a_,b,x,b1,x1,out1⟩ res h
 have IH:=Ok.mk' IH
 refine lg I (ra I (S_ ?_))
 rcases E_ h with ⟨hc,h⟩|⟨hc,h⟩
 ·refine ct I hc (K_ (cn I (N_ (S_ (W_ (S_ (rn 0 I ?_)))))))
  obtain⟨y,hk,h⟩:=B h
  refine po (nQ aC (λ_=>I) hk I I I I I) I I (on (nid':=6) 3 I (rz (drn (m:=17) 5 I I ?_)))
  obtain⟨x2,hk,h⟩:=B h
  have hv:=Ok.ok hk
  refine pd (kJ (hv) I I I I I I I I I) I I I I I (don 2 I ?_)
  obtain⟨l,hk,h⟩:=B h
  refine pd (AgO hk I I I I I I I I I I I I I I ) I I I I I (don 2 I (dz' (by kernel_rfl) (en I (N_ (rn 2 I (O_ (cD.normal ?_)))))))
  have hv:=Ok.ok h
  exact bW I I hv
 ·refine cf I hc (X_ (fW.exit (kW.exit (cD.exit (eh I ?_)))))
  cases h
  exact .ok I
 ) _ _ h⟩
abbrev AlJ (a:Arr×Arr×Nat×LI×Int×(List aA)) (res:(List aA)):Prop:=match a with|(a_,b,x3,b2,x4,out12)=>cL X 45 (aP [1,1,1,0,1,0,1,1,1,0,1,0,1,0,0] (aQ Tryz.f45)) (aJ (X.H 45 19) 5) (aL 3 (X.H 45 1000003) 5 (iL (λ(out13:(List aA))=>(⟨[(6,.c (.ptr 2 0)),(9,.c (.ptr 3 0))],[(3,[.arr 4 x3 1,oC out13]),(2,[oI [],oC []]),(1,[.d (lI b.shape),.d (lC b.cells)]),(0,[.d (lI a_.shape),.d (lC a_.cells)]),(4,[.seq 1 (List.map (D.int .i64) b2)])],5,[],none⟩:St)) res)) ⟨[(5,.c (.ptr 1 0)),(6,.c (.ptr 2 0)),(9,.c (.ptr 3 0)),(62,.d (lC a_.cells)),(63,.d (iZ (List.length a_.cells:Int))),(64,.d (iZ x4))],[(3,[.arr 4 x3 1,oC out12]),(2,[oI [],oC []]),(1,[.d (lI b.shape),.d (lC b.cells)]),(0,[.d (lI a_.shape),.d (lC a_.cells)]),(4,[.seq 1 (List.map (D.int .i64) b2)])],5,[],none⟩
instance {a:Arr×Arr×Nat×LI×Int×(List aA)}:Ok (rH a) (AlJ a):=⟨λh=>rH.partial_correctness AlJ (by
 rintro P_ IH ⟨a_,b,x3,b2,x4,out12⟩ res h
 have IH:=Ok.mk' IH
 refine lg I (ra I (S_ ?_))
 rcases E_ h with ⟨hc,h⟩|⟨hc,h⟩
 ·refine ct I hc (K_ (cn I (N_ (S_ (W_ (S_ (rn 0 I ?_)))))))
  obtain⟨y1,hk,h⟩:=B h
  refine po (nQ aC (λ_=>I) hk I I I I I) I I (on (nid':=6) 3 I (rz (ra I (S_ (S_ (drn (m:=14) 3 I I ?_))))))
  obtain⟨x5,hk,h⟩:=B h
  have hv:=Ok.ok hk
  refine pd (kJ (hv) I I I I I I I I I) I I I I I (don 2 I (pd (nR I I I I I I I) I I I I I (don 1 I (dz (by kernel_rfl) ?_))))
  obtain⟨n,hs,h⟩:=B h
  refine gI (λ(n:Int)=>(⟨[(5,.c (.ptr 1 0)),(6,.c (.ptr 2 0)),(9,.c (.ptr 3 0)),(14,.d (iZ n)),(62,.d (lC a_.cells)),(63,.d (iZ (List.length a_.cells:Int))),(64,.d (iZ x4))],[(5,[.d (iZ y1.kind),.d (iZ y1.n),.d (.list 2 (List.map aH y1.box))]),(3,[.arr 4 x3 1,oC out12]),(2,[oI [],oC []]),(1,[.d (lI b.shape),.d (lC b.cells)]),(0,[.d (lI a_.shape),.d (lC a_.cells)]),(4,[.seq 1 (List.map (D.int .i64) b2)])],14,[],none⟩:St)) (y:=n) ?_ ?_
  ·replace h:=hs
   rcases E_ h with ⟨hc,h⟩|⟨hc,h⟩
   ·refine ct I hc (rn 1 I (O_ (cn I ?_)))
    cases h
    exact .ok I
   refine cf I hc (K_ (cn I ?_))
   cases h
   exact .ok I
  refine N_ (rn 5 I ?_)
  obtain⟨l1,hk,h⟩:=B h
  refine po (AgO hk I I I I I I I I I I I I I I ) I I (on 2 I (O_ (en I (N_ (rn 2 I (O_ (cD.normal ?_)))))))
  have hv:=Ok.ok h
  exact bW I I hv
 ·refine cf I hc (X_ (fW.exit (kW.exit (cD.exit (eh I ?_)))))
  cases h
  exact .ok I
 ) _ _ h⟩
instance {op_:Int} {a_:Arr} {b:Arr}:Ok (Ab4 op_ a_ b) λr=>bF X 45 [.d (iZ op_),.d (aI a_),.d (aI b)] [] (aF.ret (.tuple [.d (aI r.1),.d (iZ r.2)]) []):=⟨λ{r} h=>by
 unfold Ab4 at h
 refine kM (tm:=[(0,.d (iZ op_)),(1,.d (aI a_)),(2,.d (aI b))]) (hp:=[]) (n:=0) I Tryz.func45 I I I I I I (ra (nid':=3) I (S_ (S_ (rn 2 I (po (Bj8 (show V.c (.full 2 [aI a_,aI b])=V.c (.full 2 (List.map aH [a_,b])) from by simp only[List.map_cons,List.map_nil,qU]) (Aa3 I)) I I ?_)))))
 obtain⟨e,hk,h⟩:=B h
 have hv:=Ok.ok hk
 refine po (kJ (hv) I I I I I I I I I) I I (on 1 I (rz (ra I ?_)))
 rcases E_ h with ⟨hc,h⟩|⟨hc,h⟩
 ·refine ct I hc (ra I (R_ (C_ (Q_ ?_))))
  cases h
  exact .ret I I
 ·refine cf I hc (K_ (cn I (N_ (ra (nid':=4) I (S_ (ra I (W_ (ra I ?_))))))))
  rcases E_ h with ⟨hc,h⟩|⟨hc,h⟩
  ·refine ct I hc (S_ (S_ (rn 2 I (po (nR I I I I I I I) I I (on 1 I (rz ?_))))))
   rcases E_ h with ⟨hc,h⟩|⟨hc,h⟩
   ·refine ct I hc (ra I (R_ (C_ (Q_ (C_ (aL.ret (Q_ ?_)))))))
    cases h
    exact .ret I I
   refine cf I hc (K_ (cn I (N_ (S_ (rn 2 I ?_)))))
   obtain⟨⟨x,b1⟩,hk,h⟩:=B h
   have hv:=Ok.ok hk
   refine po (AbN (nid':=5) (hv) I I I I I I I I I I I I) I I (on (nid':=5) 2 I (rz (S_ (S_ (rn 2 I (po (nR I I I I I I I) I I (on 1 I (rz ?_))))))))
   obtain⟨out11,hs,h⟩:=B h
   refine gI (λ(out11:(List aA))=>(⟨[(6,.c (.ptr 2 0)),(9,.c (.ptr 3 0))],[(3,[.arr 4 x 1,oC out11]),(2,[oI [],oC []]),(1,[.d (lI b.shape),.d (lC b.cells)]),(0,[.d (lI a_.shape),.d (lC a_.cells)]),(4,[.seq 1 (List.map (D.int .i64) b1)])],5,[],none⟩:St)) (y:=out11) ?_ ?_
   ·replace h:=hs
    refine W_ (dS ?_)
    have hv:=Ok.ok h
    exact bW I I hv
   refine N_ (ra I (R_ (C_ (aL.ret (Q_ ?_)))))
   obtain⟨shape,hkFshape,h⟩:=B h
   cases h
   exact .retF I I (AcM I I I (mO I (mO (jA (D.int .i64) I hkFshape I I I) AcO)) (ApJ AgP)) I
  ·refine cf I hc (ra I ?_)
   rcases E_ h with ⟨hc,h⟩|⟨hc,h⟩
   ·refine ct I hc (S_ (rn 2 I ?_))
    obtain⟨⟨x3,b2⟩,hk,h⟩:=B h
    have hv:=Ok.ok hk
    refine po (AbN (nid':=5) (hv) I I I I I I I I I I I I) I I (on (nid':=5) 2 I (rz (S_ (S_ (rn 2 I (po (nR I I I I I I I) I I (on 1 I (rz ?_))))))))
    obtain⟨out13,hs,h⟩:=B h
    refine gI (λ(out13:(List aA))=>(⟨[(6,.c (.ptr 2 0)),(9,.c (.ptr 3 0))],[(3,[.arr 4 x3 1,oC out13]),(2,[oI [],oC []]),(1,[.d (lI b.shape),.d (lC b.cells)]),(0,[.d (lI a_.shape),.d (lC a_.cells)]),(4,[.seq 1 (List.map (D.int .i64) b2)])],5,[],none⟩:St)) (y:=out13) ?_ ?_
    ·replace h:=hs
     refine W_ (dS ?_)
     have hv:=Ok.ok h
     exact bW I I hv
    refine N_ (ra I (R_ (C_ (C_ (aL.ret (Q_ ?_))))))
    obtain⟨shape1,hkFshape1,h⟩:=B h
    cases h
    exact .retF I I (AcM I I I (mO I (mO (jA (D.int .i64) I hkFshape1 I I I) AcO)) (ApJ AgP)) I
   ·refine cf I hc (K_ (cn I (cn I (en I (N_ (ra I (R_ ?_)))))))
    cases h
    exact .ret I I
 ⟩
abbrev AsL (r:Arr×Int):aF:=(aF.ret (.tuple [.d (aI r.1),.d (iZ r.2)]) [])
instance BiL:Jn 17 0 0 (Unit):=⟨λy=>[],λy=>[]⟩
instance {op_:Int} {a_:Arr} {y:Arr}:Ok (Ab3 op_ a_ y) λr=>bF X 17 [.d (iZ op_),.d (aI a_),.d (aI y)] [] (AsL r):=⟨λh=>by
 unfold Ab3 at h
 exact aB AsL I Tryz.func17 I I I I I I λiE=>Wk⟩
abbrev AiW (r:cC):aF:=(aF.ret (.d (rZ r)) [])
instance {n:Node}:Ok (iJ n) λr=>bF X 130 [.d (encNode n)] [] (AiW r):=⟨λh=>by
 unfold iJ at h
 exact aB AiW I Tryz.func130 I I I I I I λiE=>Wk⟩
abbrev zC (r:Int):aF:=(aF.ret (.d (iZ r)) [])
abbrev yR (a:Arr×Int×aA×Int×Int) (res:Int):Prop:=match a with|(a_,x,y,n1,x1)=>cL X 190 (aP [1,1,0,1,0,0,1,1,0,0,1,1,0,0] (aQ Tryz.f190)) (aJ (X.H 190 6) 2) (aL 2 (X.H 190 1000002) 2 (iL (λ(n2:Int)=>(⟨[(3,.d (iZ n2)),(12,.d (lC a_.cells)),(13,.d (iZ (List.length a_.cells:Int))),(14,.d (iZ x))],[(1,[.d (iZ y.kind),.d (iZ y.n),.d (.list 2 (List.map aH y.box))]),(0,[.d (lI a_.shape),.d (lC a_.cells)])],2,[],none⟩:St)) res)) ⟨[(3,.d (iZ n1)),(12,.d (lC a_.cells)),(13,.d (iZ (List.length a_.cells:Int))),(14,.d (iZ x)),(19,.d (.list 2 (List.map aH y.box))),(20,.d (iZ (List.length y.box:Int))),(21,.d (iZ x1))],[(1,[.d (iZ y.kind),.d (iZ y.n),.d (.list 2 (List.map aH y.box))]),(0,[.d (lI a_.shape),.d (lC a_.cells)])],2,[],none⟩
abbrev yQ (a:Arr×Int×Int) (res:Int):Prop:=match a with|(a_,n,x)=>cL X 190 (aP [1,1,0,1,0,0] (aQ Tryz.f190)) (aJ (X.H 190 3) 1) (aL 0 (X.H 190 1000000) 1 (iL (λ(n3:Int)=>(⟨[(3,.d (iZ n3))],[(0,[.d (lI a_.shape),.d (lC a_.cells)])],1,[],none⟩:St)) res)) ⟨[(3,.d (iZ n)),(12,.d (lC a_.cells)),(13,.d (iZ (List.length a_.cells:Int))),(14,.d (iZ x))],[(0,[.d (lI a_.shape),.d (lC a_.cells)])],1,[],none⟩
abbrev AdM (a:Arr) (res:Int):Prop:=match a with|a_=>bF X 190 [.d (aI a_)] [] (zC res)
theorem tK:(∀a res,jE a=some res->yR a res)/\(∀a res,lD a=some res->AdM a res)/\(∀a res,kR a=some res->yQ a res):=by
 refine jE.mutual_partial_correctness (motive_1:=yR) (motive_2:=AdM) (motive_3:=yQ) ?_ ?_ ?_
 ·rintro P0 P1 I0 I1 ⟨a_,x,y,n1,x1⟩ res h
  have I0:=Ok.mk' I0
  have I1:=Ok.mk' I1
  refine lg I ?_
  have iE:fF Tryz.f190 0 _ zC:=⟨trivial⟩
  exact Wk
 ·rintro P0 I0 a_ res h
  have I0:=Ok.mk' I0
  exact aB zC I Tryz.func190 I I I I I I λiE=>Wk
 rintro P0 P1 I0 I1 ⟨a_,n,x⟩ res h
 have I0:=Ok.mk' I0
 have I1:=Ok.mk' I1
 refine lg I ?_
 have iE:fF Tryz.f190 0 _ zC:=⟨trivial⟩
 exact Wk
instance {a:Arr×Int×aA×Int×Int}:Ok (jE a) (yR a):=⟨λh=>tK.1 a _ h⟩
instance {a:Arr}:Ok (lD a) (AdM a):=⟨λh=>tK.2.1 a _ h⟩
instance {a:Arr×Int×Int}:Ok (kR a) (yQ a):=⟨λh=>tK.2.2 a _ h⟩
abbrev AbI (m:aG) (r:Int):aF:=(aF.ret (.d (iZ r)) [[.d (iZ m.fuel.left),.d (iZ m.fuel.used),.d (iZ m.cells)]])
instance {a_:Arr} {m:aG}:Ok (rB a_ m) λr=>bF X 128 [.ptr 0 0,.d (aI a_)] [[.d (iZ m.fuel.left),.d (iZ m.fuel.used),.d (iZ m.cells)]] ((AbI m) r):=⟨λh=>by
 unfold rB at h
 exact aB (AbI m) I Tryz.func128 I I I I I I λiE=>Wk⟩
abbrev AbM (names:(List Str)) (vals:(List Arr)) (b:aG) (r:Arr×Int):aF:=(aF.ret (.tuple [.d (aI r.1),.d (iZ r.2)]) [[.ptr 1 0,.d (lS names),.d (.list 2 (List.map aH vals))],[.d (iZ b.fuel.left),.d (iZ b.fuel.used),.d (iZ b.cells)]])
instance AxN:Jn 56 1 9 (Int):=⟨λy=>[(2,.d (iZ y))],λy=>[]⟩
instance {a_:Arr} {e:Int} {names:(List Str)} {vals:(List Arr)} {b:aG}:Ok (aV a_ e names vals b) λr=>bF X 56 [.ptr 0 0,.d (aI a_),.d (iZ e)] [[.ptr 1 0,.d (lS names),.d (.list 2 (List.map aH vals))],[.d (iZ b.fuel.left),.d (iZ b.fuel.used),.d (iZ b.cells)]] ((AbM names vals b) r):=⟨λh=>by
 unfold aV at h
 exact aB (AbM names vals b) I Tryz.func56 I I I I I I λiE=>Wk⟩
abbrev qT (names:(List Str)) (vals:(List Arr)) (b:aG) (r:Arr×Int):aF:=(aF.ret (.tuple [.d (aI r.1),.d (iZ r.2)]) [[.ptr 1 0,.d (lS names),.d (.list 2 (List.map aH vals))],[.d (iZ b.fuel.left),.d (iZ b.fuel.used),.d (iZ b.cells)]])
instance AxO:Jn 57 0 1 (Unit):=⟨λy=>[],λy=>[]⟩
abbrev yH (a:Str×(List Str)×(List Arr)×aG×Int) (res:Except (Arr×Int) (Unit)):Prop:=match a with|(s,names,vals,b,x)=>cL X 57 (aP [1,0,1,0,0] (aQ Tryz.f57)) (aJ (X.H 57 2) 3) (aL 0 (X.H 57 1000000) 3 (lW X Tryz.f57 2 (qT names vals b) (λ(_:Unit)=>(⟨[(4,.c (.ptr 2 0))],[(2,[oI [],oC []]),(0,[.ptr 1 0,.d (lS names),.d (.list 2 (List.map aH vals))]),(1,[.d (iZ b.fuel.left),.d (iZ b.fuel.used),.d (iZ b.cells)])],3,[],none⟩:St)) res)) ⟨[(0,.c (.ptr 0 0)),(1,.d (.str s)),(4,.c (.ptr 2 0)),(12,.d (lS names)),(13,.d (iZ (List.length names:Int))),(14,.d (iZ x))],[(2,[oI [],oC []]),(0,[.ptr 1 0,.d (lS names),.d (.list 2 (List.map aH vals))]),(1,[.d (iZ b.fuel.left),.d (iZ b.fuel.used),.d (iZ b.cells)])],3,[],none⟩
instance {a:Str×(List Str)×(List Arr)×aG×Int}:Ok (bT a) (yH a):=⟨λh=>bT.partial_correctness yH (by
 rintro P_ IH ⟨s,names,vals,b,x⟩ res h
 have IH:=Ok.mk' IH
 have iE:fF Tryz.f57 2 _ (qT names vals b):=⟨trivial⟩
 refine lg I ?_
 exact Wk) _ _ h⟩
instance {s:Str} {names:(List Str)} {vals:(List Arr)} {b:aG}:Ok (cZ s names vals b) λr=>bF X 57 [.ptr 0 0,.d (.str s)] [[.ptr 1 0,.d (lS names),.d (.list 2 (List.map aH vals))],[.d (iZ b.fuel.left),.d (iZ b.fuel.used),.d (iZ b.cells)]] ((qT names vals b) r):=⟨λh=>by
 unfold cZ at h
 exact aB (qT names vals b) I Tryz.func57 I I I I I I λiE=>Wk⟩
abbrev AbL (names:(List Str)) (vals:(List Arr)) (b:aG) (r:Arr×Int×Int×Int):aF:=(aF.ret (.tuple [.d (aI r.1),.d (iZ r.2.1)]) [[.ptr 1 0,.d (lS names),.d (.list 2 (List.map aH vals))],[.d (iZ r.2.2.1),.d (iZ r.2.2.2),.d (iZ b.cells)]])
abbrev sN (names:(List Str)) (vals:(List Arr)) (b:aG) (r:Arr×Int×Int×Int):aF:=(aF.ret (.tuple [.d (aI r.1),.d (iZ r.2.1)]) [[.ptr 1 0,.d (lS names),.d (.list 2 (List.map aH vals))],[.d (iZ r.2.2.1),.d (iZ r.2.2.2),.d (iZ b.cells)]])
instance Az5:Jn 58 1 58 (Bool):=⟨λy=>[(58,.d (.bool y))],λy=>[]⟩
instance Az6:Jn 58 1 77 (Bool):=⟨λy=>[(77,.d (.bool y))],λy=>[]⟩
abbrev AcL (names:(List Str)) (vals:(List Arr)) (b:aG) (r:Arr×Int×Int×Int):aF:=(aF.ret (.tuple [.d (aI r.1),.d (iZ r.2.1)]) [[.ptr 1 0,.d (lS names),.d (.list 2 (List.map aH vals))],[.d (iZ r.2.2.1),.d (iZ r.2.2.2),.d (iZ b.cells)]])
abbrev vV (a:Node×pE×(List Str)×(List Arr)×aG) (res:Arr×Int×Int×Int):Prop:=match a with|(n,a_,names,vals,b)=>bF X 30 [.ptr 0 0,.d (encNode n),.d (Ax0 a_)] [[.ptr 1 0,.d (lS names),.d (.list 2 (List.map aH vals))],[.d (iZ b.fuel.left),.d (iZ b.fuel.used),.d (iZ b.cells)]] ((AbL names vals b) res)
abbrev sX (a:Node×(List Str)×(List Arr)×aG×Int×LI×(List aA)×Int×Int) (res:Except (Arr×Int×Int×Int) (LI×(List aA)×Int×Int)):Prop:=match a with|(f,names,vals,b,x20,x0,x110,c0,c1)=>cL X 58 (aP [1,1,1,0,1,0,0] (aQ Tryz.f58)) (aJ (X.H 58 18) 5) (aL 1 (X.H 58 1000001) 5 (lW X Tryz.f58 2 (sN names vals b) (λ((x01,x111,c01,c11):LI×(List aA)×Int×Int)=>(⟨[(5,.c (.ptr 3 0)),(6,.c (.ptr 4 0))],[(4,[oI [],oC []]),(3,[.d (lI x01),.d (lC x111)]),(2,[.d (iZ f.kind),.d (iZ f.op_),.d (.str f.name),.d (lI f.lit.shape),.d (lC f.lit.cells),.d (lN f.kids),.d (iZ f.at_)]),(0,[.ptr 1 0,.d (lS names),.d (.list 2 (List.map aH vals))]),(1,[.d (iZ c01),.d (iZ c11),.d (iZ b.cells)])],5,[],none⟩:St)) res)) ⟨[(0,.c (.ptr 0 0)),(4,.c (.ptr 2 0)),(5,.c (.ptr 3 0)),(6,.c (.ptr 4 0)),(97,.d (iZ f.op_)),(98,.d (iZ x20))],[(4,[oI [],oC []]),(3,[.d (lI x0),.d (lC x110)]),(2,[.d (iZ f.kind),.d (iZ f.op_),.d (.str f.name),.d (lI f.lit.shape),.d (lC f.lit.cells),.d (lN f.kids),.d (iZ f.at_)]),(0,[.ptr 1 0,.d (lS names),.d (.list 2 (List.map aH vals))]),(1,[.d (iZ c0),.d (iZ c1),.d (iZ b.cells)])],5,[],none⟩
abbrev xM (a:Node×Arr×(List Str)×(List Arr)×aG) (res:Arr×Int×Int×Int):Prop:=match a with|(f,a_,names,vals,b)=>bF X 58 [.ptr 0 0,.d (encNode f),.d (aI a_)] [[.ptr 1 0,.d (lS names),.d (.list 2 (List.map aH vals))],[.d (iZ b.fuel.left),.d (iZ b.fuel.used),.d (iZ b.cells)]] ((sN names vals b) res)
abbrev xN (a:Node×Arr×Arr×(List Str)×(List Arr)×aG) (res:Arr×Int×Int×Int):Prop:=match a with|(f,a_,y,names,vals,b)=>bF X 59 [.ptr 0 0,.d (encNode f),.d (aI a_),.d (aI y)] [[.ptr 1 0,.d (lS names),.d (.list 2 (List.map aH vals))],[.d (iZ b.fuel.left),.d (iZ b.fuel.used),.d (iZ b.cells)]] ((AcL names vals b) res)
theorem nB:(∀a res,aK a=some res->vV a res)/\(∀a res,bE a=some res->xN a res)/\(∀a res,bA a=some res->xM a res)/\(∀a res,bR a=some res->sX a res):=by
 refine aK.mutual_partial_correctness (motive_1:=vV) (motive_2:=xN) (motive_3:=xM) (motive_4:=sX) ?_ ?_ ?_ ?_
 ·rintro P0 P1 P2 I0 I1 I2 ⟨n,a_,names,vals,b⟩ res h
  have I0:=Ok.mk' I0
  have I1:=Ok.mk' I1
  have I2:=Ok.mk' I2
  exact aB (AbL names vals b) I Tryz.func30 I I I I I I λiE=>Wk
 ·rintro P0 P1 I0 I1 ⟨f,a_,y,names,vals,b⟩ res h
  have I0:=Ok.mk' I0
  have I1:=Ok.mk' I1
  exact aB (AcL names vals b) I Tryz.func59 I I I I I I λiE=>Wk
 ·rintro P0 P1 P2 I0 I1 I2 ⟨f,a_,names,vals,b⟩ res h
  have I0:=Ok.mk' I0
  have I1:=Ok.mk' I1
  have I2:=Ok.mk' I2
  exact aB (sN names vals b) I Tryz.func58 I I I I I I λiE=>Wk
 rintro P0 P1 I0 I1 ⟨f,names,vals,b,x20,x0,x110,c0,c1⟩ res h
 have I0:=Ok.mk' I0
 have I1:=Ok.mk' I1
 refine lg I ?_
 have iE:fF Tryz.f58 2 _ (sN names vals b):=⟨trivial⟩
 exact Wk
instance {a:Node×pE×(List Str)×(List Arr)×aG}:Ok (aK a) (vV a):=⟨λh=>nB.1 a _ h⟩
instance {a:Node×Arr×Arr×(List Str)×(List Arr)×aG}:Ok (bE a) (xN a):=⟨λh=>nB.2.1 a _ h⟩
instance {a:Node×Arr×(List Str)×(List Arr)×aG}:Ok (bA a) (xM a):=⟨λh=>nB.2.2.1 a _ h⟩
instance {a:Node×(List Str)×(List Arr)×aG×Int×LI×(List aA)×Int×Int}:Ok (bR a) (sX a):=⟨λh=>nB.2.2.2 a _ h⟩
abbrev ApI (r:Arr×Int×Int):aF:=(aF.ret (.tuple [.d (aI r.1),.d (iZ r.2.1),.d (iZ r.2.2)]) [])
instance {env:Env} {n:Node} {fuel:Int} {cells:Int}:Ok (vY env n fuel cells) λr=>bF X 11 [.d (encEnv env),.d (encNode n),.d (iZ fuel),.d (iZ cells)] [] (ApI r):=⟨λh=>by
 unfold vY at h
 exact aB ApI I Tryz.func11 I I I I I I λiE=>Wk⟩
instance {env:Env} {n:Node} {fuel:Int} {cells:Int}:Ok (xU env n fuel cells) λr=>Aw8 X 11 [.d (encEnv env),.d (encNode n),.d (iZ fuel),.d (iZ cells)] [] (aF.ret (.vtup 2 [.arr 0 r.1 1,.arr 1 r.2.1 3,.d (iZ r.2.2.1),.d (iZ r.2.2.2.1)]) [[.seq 1 (List.map (D.int .i64) r.2.2.2.2.1)],[.seq 3 (List.map aC r.2.2.2.2.2)]]):=⟨λ{r} h=>by
 unfold xU at h
 refine An1 (g:=1000011) (tm:=[(0,.d (encEnv env)),(1,.d (encNode n)),(2,.d (iZ fuel)),(3,.d (iZ cells))]) (hp:=[]) (n:=0) I Tryz.func11 I I I I I I (ra (nid':=3) I (S_ (S_ (rn 1 I ?_))))
 obtain⟨x,hk,h⟩:=B h
 have hv:=Ok.ok hk
 refine po (kJ (hv) I I I I I I I I I) I I (on 1 I (rz ?_))
 rcases E_ h with ⟨hc,h⟩|⟨hc,h⟩
 ·refine ct I hc (S_ (rnM (tm0:=[(18,.d (.bool (x != 0))),(17,.d (iZ x)),(16,.d (encNode n)),(2,.d (iZ fuel)),(3,.d (iZ cells)),(4,.c (.ptr 0 0)),(5,.c (.ptr 1 0)),(8,.c (.ptr 2 0))]) (hp0:=[(2,[oI [],oC []]),(1,[.d (iZ n.kind),.d (iZ n.op_),.d (.str n.name),.d (lI n.lit.shape),.d (lC n.lit.cells),.d (lN n.kids),.d (iZ n.at_)]),(0,[.d (lS env.names),.d (.list 2 (List.map aH env.vals))])]) (nid0:=3) I I I (mo (.of λ_=>I) I (λ_=>I) (s2:=⟨[(19,.vagg [.nilsl 1,.nilsl 3]),(8,.c (.ptr 2 0))],[(2,[oI [],oC []]),(1,[.d (iZ n.kind),.d (iZ n.op_),.d (.str n.name),.d (lI n.lit.shape),.d (lC n.lit.cells),.d (lN n.kids),.d (iZ n.at_)]),(0,[.d (lS env.names),.d (.list 2 (List.map aH env.vals))])],3,[],none⟩) I (ms I I (s2:=⟨[(19,.vagg [.nilsl 1,.nilsl 3]),(8,.c (.ptr 2 0))],[(2,[.nilsl 1,.nilsl 3]),(1,[.d (iZ n.kind),.d (iZ n.op_),.d (.str n.name),.d (lI n.lit.shape),.d (lC n.lit.cells),.d (lN n.kids),.d (iZ n.at_)]),(0,[.d (lS env.names),.d (.list 2 (List.map aH env.vals))])],3,[],none⟩) I (mo (.of λ_=>I) I (λ_=>I) (s2:=⟨[(9,.d (iZ 0)),(19,.vagg [.nilsl 1,.nilsl 3]),(8,.c (.ptr 2 0))],[(2,[.nilsl 1,.nilsl 3]),(1,[.d (iZ n.kind),.d (iZ n.op_),.d (.str n.name),.d (lI n.lit.shape),.d (lC n.lit.cells),.d (lN n.kids),.d (iZ n.at_)]),(0,[.d (lS env.names),.d (.list 2 (List.map aH env.vals))])],3,[],none⟩) I (mo (.of λ_=>I) I (λ_=>I) (s2:=⟨[(10,.d (iZ 1)),(9,.d (iZ 0)),(19,.vagg [.nilsl 1,.nilsl 3]),(8,.c (.ptr 2 0))],[(2,[.nilsl 1,.nilsl 3]),(1,[.d (iZ n.kind),.d (iZ n.op_),.d (.str n.name),.d (lI n.lit.shape),.d (lC n.lit.cells),.d (lN n.kids),.d (iZ n.at_)]),(0,[.d (lS env.names),.d (.list 2 (List.map aH env.vals))])],3,[],none⟩) I (mz (N_ (R_ (C_ (Q_ ?_)))))))))))
  cases h
  exact BgX I I
 ·refine cf I hc (K_ (cn I (N_ (S_ (drn (m:=10) 2 I I ?_)))))
  obtain⟨b,hk,h⟩:=B h
  have hv:=Ok.ok hk
  refine pd (AbN (nid':=11) (hv) I I I I I I I I I I I I) I I I I I (don 4 I (dz (by kernel_rfl) (S_ (rn 3 I ?_))))
  obtain⟨⟨x1,e,left,used⟩,hk,h⟩:=B h
  have hv:=Ok.ok hk
  refine po (AbN (nid':=11) (hv) I I I I I I I I I I I I) I I (on (nid':=12) 6 I (rz (S_ (rn 4 I ?_))))
  obtain⟨⟨used1,x2⟩,hk,h⟩:=B h
  have hv:=Ok.ok hk
  refine po (AbN (nid':=12) (hv) I I I I I I I I I I I I) I I (on 5 I (rz (S_ (ra I ?_))))
  rcases E_ h with ⟨hc,h⟩|⟨hc,h⟩
  ·refine ct I hc (S_ (rnM (tm0:=[(42,.d (.bool (e != 0))),(41,.d (iZ e)),(8,.c (.ptr 2 0)),(12,.c (.ptr 11 0)),(13,.d (iZ e)),(14,.d (iZ used1))]) (hp0:=[(11,[.d (lI x1.shape),.d (lC x1.cells)]),(8,[.ptr 10 0,.d (lS env.names),.d (.list 2 (List.map aH env.vals))]),(2,[oI [],oC []]),(1,[.d (iZ n.kind),.d (iZ n.op_),.d (.str n.name),.d (lI n.lit.shape),.d (lC n.lit.cells),.d (lN n.kids),.d (iZ n.at_)]),(0,[.d (lS env.names),.d (.list 2 (List.map aH env.vals))]),(10,[.d (iZ left),.d (iZ used),.d (iZ b.cells)])]) (nid0:=12) I I I (mo (.of λ_=>I) I (λ_=>I) (s2:=⟨[(43,.vagg [.nilsl 1,.nilsl 3]),(8,.c (.ptr 2 0)),(13,.d (iZ e)),(14,.d (iZ used1))],[(11,[.d (lI x1.shape),.d (lC x1.cells)]),(8,[.ptr 10 0,.d (lS env.names),.d (.list 2 (List.map aH env.vals))]),(2,[oI [],oC []]),(1,[.d (iZ n.kind),.d (iZ n.op_),.d (.str n.name),.d (lI n.lit.shape),.d (lC n.lit.cells),.d (lN n.kids),.d (iZ n.at_)]),(0,[.d (lS env.names),.d (.list 2 (List.map aH env.vals))]),(10,[.d (iZ left),.d (iZ used),.d (iZ b.cells)])],12,[],none⟩) I (mo (.of λ_=>I) I (λ_=>I) (s2:=⟨[(44,.d (iZ used1)),(43,.vagg [.nilsl 1,.nilsl 3]),(8,.c (.ptr 2 0)),(13,.d (iZ e)),(14,.d (iZ used1))],[(11,[.d (lI x1.shape),.d (lC x1.cells)]),(8,[.ptr 10 0,.d (lS env.names),.d (.list 2 (List.map aH env.vals))]),(2,[oI [],oC []]),(1,[.d (iZ n.kind),.d (iZ n.op_),.d (.str n.name),.d (lI n.lit.shape),.d (lC n.lit.cells),.d (lN n.kids),.d (iZ n.at_)]),(0,[.d (lS env.names),.d (.list 2 (List.map aH env.vals))]),(10,[.d (iZ left),.d (iZ used),.d (iZ b.cells)])],12,[],none⟩) I (mo (.of λ_=>I) I (λ_=>I) (s2:=⟨[(45,.d (iZ e)),(44,.d (iZ used1)),(43,.vagg [.nilsl 1,.nilsl 3]),(8,.c (.ptr 2 0)),(13,.d (iZ e)),(14,.d (iZ used1))],[(11,[.d (lI x1.shape),.d (lC x1.cells)]),(8,[.ptr 10 0,.d (lS env.names),.d (.list 2 (List.map aH env.vals))]),(2,[oI [],oC []]),(1,[.d (iZ n.kind),.d (iZ n.op_),.d (.str n.name),.d (lI n.lit.shape),.d (lC n.lit.cells),.d (lN n.kids),.d (iZ n.at_)]),(0,[.d (lS env.names),.d (.list 2 (List.map aH env.vals))]),(10,[.d (iZ left),.d (iZ used),.d (iZ b.cells)])],12,[],none⟩) I (ms I I (s2:=⟨[(45,.d (iZ e)),(44,.d (iZ used1)),(43,.vagg [.nilsl 1,.nilsl 3]),(8,.c (.ptr 2 0)),(13,.d (iZ e)),(14,.d (iZ used1))],[(11,[.d (lI x1.shape),.d (lC x1.cells)]),(8,[.ptr 10 0,.d (lS env.names),.d (.list 2 (List.map aH env.vals))]),(2,[.nilsl 1,.nilsl 3]),(1,[.d (iZ n.kind),.d (iZ n.op_),.d (.str n.name),.d (lI n.lit.shape),.d (lC n.lit.cells),.d (lN n.kids),.d (iZ n.at_)]),(0,[.d (lS env.names),.d (.list 2 (List.map aH env.vals))]),(10,[.d (iZ left),.d (iZ used),.d (iZ b.cells)])],12,[],none⟩) I (mo (.of λ_=>I) I (λ_=>I) (s2:=⟨[(9,.d (iZ used1)),(45,.d (iZ e)),(44,.d (iZ used1)),(43,.vagg [.nilsl 1,.nilsl 3]),(8,.c (.ptr 2 0)),(13,.d (iZ e)),(14,.d (iZ used1))],[(11,[.d (lI x1.shape),.d (lC x1.cells)]),(8,[.ptr 10 0,.d (lS env.names),.d (.list 2 (List.map aH env.vals))]),(2,[.nilsl 1,.nilsl 3]),(1,[.d (iZ n.kind),.d (iZ n.op_),.d (.str n.name),.d (lI n.lit.shape),.d (lC n.lit.cells),.d (lN n.kids),.d (iZ n.at_)]),(0,[.d (lS env.names),.d (.list 2 (List.map aH env.vals))]),(10,[.d (iZ left),.d (iZ used),.d (iZ b.cells)])],12,[],none⟩) I (mo (.of λ_=>I) I (λ_=>I) (s2:=⟨[(10,.d (iZ e)),(9,.d (iZ used1)),(45,.d (iZ e)),(44,.d (iZ used1)),(43,.vagg [.nilsl 1,.nilsl 3]),(8,.c (.ptr 2 0)),(13,.d (iZ e)),(14,.d (iZ used1))],[(11,[.d (lI x1.shape),.d (lC x1.cells)]),(8,[.ptr 10 0,.d (lS env.names),.d (.list 2 (List.map aH env.vals))]),(2,[.nilsl 1,.nilsl 3]),(1,[.d (iZ n.kind),.d (iZ n.op_),.d (.str n.name),.d (lI n.lit.shape),.d (lC n.lit.cells),.d (lN n.kids),.d (iZ n.at_)]),(0,[.d (lS env.names),.d (.list 2 (List.map aH env.vals))]),(10,[.d (iZ left),.d (iZ used),.d (iZ b.cells)])],12,[],none⟩) I (mz (N_ (R_ (C_ (Q_ ?_)))))))))))))
   cases h
   exact BgX I I
  ·refine cf I hc (K_ (cn I (N_ (S_ (rnM (tm0:=[(42,.d (.bool (e != 0))),(41,.d (iZ e)),(8,.c (.ptr 2 0)),(12,.c (.ptr 11 0)),(13,.d (iZ e)),(14,.d (iZ used1))]) (hp0:=[(11,[.d (lI x1.shape),.d (lC x1.cells)]),(8,[.ptr 10 0,.d (lS env.names),.d (.list 2 (List.map aH env.vals))]),(2,[oI [],oC []]),(1,[.d (iZ n.kind),.d (iZ n.op_),.d (.str n.name),.d (lI n.lit.shape),.d (lC n.lit.cells),.d (lN n.kids),.d (iZ n.at_)]),(0,[.d (lS env.names),.d (.list 2 (List.map aH env.vals))]),(10,[.d (iZ left),.d (iZ used),.d (iZ b.cells)])]) (nid0:=12) I I I (mo (.of λ_=>I) I (λ_=>I) (s2:=⟨[(46,.d (aI x1)),(8,.c (.ptr 2 0)),(12,.c (.ptr 11 0)),(14,.d (iZ used1))],[(11,[.d (lI x1.shape),.d (lC x1.cells)]),(8,[.ptr 10 0,.d (lS env.names),.d (.list 2 (List.map aH env.vals))]),(2,[oI [],oC []]),(1,[.d (iZ n.kind),.d (iZ n.op_),.d (.str n.name),.d (lI n.lit.shape),.d (lC n.lit.cells),.d (lN n.kids),.d (iZ n.at_)]),(0,[.d (lS env.names),.d (.list 2 (List.map aH env.vals))]),(10,[.d (iZ left),.d (iZ used),.d (iZ b.cells)])],12,[],none⟩) I ?_))))))
   obtain⟨⟨n1,n2,b1,b2⟩,hk,h⟩:=B h
   have hv:=Ok.ok hk
   refine mv (nid':=14) (hv) I I I I I I I I I I I  (s2:=⟨[(47,.vagg [.arr 12 n1 1,.arr 13 n2 3]),(46,.d (aI x1)),(8,.c (.ptr 2 0)),(12,.c (.ptr 11 0)),(14,.d (iZ used1))],[(11,[.d (lI x1.shape),.d (lC x1.cells)]),(8,[.ptr 10 0,.d (lS env.names),.d (.list 2 (List.map aH env.vals))]),(2,[oI [],oC []]),(1,[.d (iZ n.kind),.d (iZ n.op_),.d (.str n.name),.d (lI n.lit.shape),.d (lC n.lit.cells),.d (lN n.kids),.d (iZ n.at_)]),(0,[.d (lS env.names),.d (.list 2 (List.map aH env.vals))]),(10,[.d (iZ left),.d (iZ used),.d (iZ b.cells)]),(12,[.seq 1 (List.map (D.int .i64) b1)]),(13,[.seq 3 (List.map aC b2)])],14,[],none⟩) I (mo (.of λ_=>I) I (λ_=>I) (s2:=⟨[(48,.d (iZ used1)),(47,.vagg [.arr 12 n1 1,.arr 13 n2 3]),(46,.d (aI x1)),(8,.c (.ptr 2 0)),(12,.c (.ptr 11 0)),(14,.d (iZ used1))],[(11,[.d (lI x1.shape),.d (lC x1.cells)]),(8,[.ptr 10 0,.d (lS env.names),.d (.list 2 (List.map aH env.vals))]),(2,[oI [],oC []]),(1,[.d (iZ n.kind),.d (iZ n.op_),.d (.str n.name),.d (lI n.lit.shape),.d (lC n.lit.cells),.d (lN n.kids),.d (iZ n.at_)]),(0,[.d (lS env.names),.d (.list 2 (List.map aH env.vals))]),(10,[.d (iZ left),.d (iZ used),.d (iZ b.cells)]),(12,[.seq 1 (List.map (D.int .i64) b1)]),(13,[.seq 3 (List.map aC b2)])],14,[],none⟩) I (mo (.of λ_=>I) I (λ_=>I) (s2:=⟨[(48,.d (iZ used1)),(47,.vagg [.arr 12 n1 1,.arr 13 n2 3]),(46,.d (aI x1)),(8,.c (.ptr 2 0)),(12,.c (.ptr 11 0)),(14,.d (iZ used1))],[(11,[.d (lI x1.shape),.d (lC x1.cells)]),(8,[.ptr 10 0,.d (lS env.names),.d (.list 2 (List.map aH env.vals))]),(2,[.arr 12 n1 1,.arr 13 n2 3]),(1,[.d (iZ n.kind),.d (iZ n.op_),.d (.str n.name),.d (lI n.lit.shape),.d (lC n.lit.cells),.d (lN n.kids),.d (iZ n.at_)]),(0,[.d (lS env.names),.d (.list 2 (List.map aH env.vals))]),(10,[.d (iZ left),.d (iZ used),.d (iZ b.cells)]),(12,[.seq 1 (List.map (D.int .i64) b1)]),(13,[.seq 3 (List.map aC b2)])],14,[],none⟩) I (mo (.of λ_=>I) I (λ_=>I) (s2:=⟨[(9,.d (iZ used1)),(48,.d (iZ used1)),(47,.vagg [.arr 12 n1 1,.arr 13 n2 3]),(46,.d (aI x1)),(8,.c (.ptr 2 0)),(12,.c (.ptr 11 0)),(14,.d (iZ used1))],[(11,[.d (lI x1.shape),.d (lC x1.cells)]),(8,[.ptr 10 0,.d (lS env.names),.d (.list 2 (List.map aH env.vals))]),(2,[.arr 12 n1 1,.arr 13 n2 3]),(1,[.d (iZ n.kind),.d (iZ n.op_),.d (.str n.name),.d (lI n.lit.shape),.d (lC n.lit.cells),.d (lN n.kids),.d (iZ n.at_)]),(0,[.d (lS env.names),.d (.list 2 (List.map aH env.vals))]),(10,[.d (iZ left),.d (iZ used),.d (iZ b.cells)]),(12,[.seq 1 (List.map (D.int .i64) b1)]),(13,[.seq 3 (List.map aC b2)])],14,[],none⟩) I (mo (.of λ_=>I) I (λ_=>I) (s2:=⟨[(10,.d (iZ 0)),(9,.d (iZ used1)),(48,.d (iZ used1)),(47,.vagg [.arr 12 n1 1,.arr 13 n2 3]),(46,.d (aI x1)),(8,.c (.ptr 2 0)),(12,.c (.ptr 11 0)),(14,.d (iZ used1))],[(11,[.d (lI x1.shape),.d (lC x1.cells)]),(8,[.ptr 10 0,.d (lS env.names),.d (.list 2 (List.map aH env.vals))]),(2,[.arr 12 n1 1,.arr 13 n2 3]),(1,[.d (iZ n.kind),.d (iZ n.op_),.d (.str n.name),.d (lI n.lit.shape),.d (lC n.lit.cells),.d (lN n.kids),.d (iZ n.at_)]),(0,[.d (lS env.names),.d (.list 2 (List.map aH env.vals))]),(10,[.d (iZ left),.d (iZ used),.d (iZ b.cells)]),(12,[.seq 1 (List.map (D.int .i64) b1)]),(13,[.seq 3 (List.map aC b2)])],14,[],none⟩) I (mz (N_ (R_ ?_)))))))
   cases h
   exact BgX I I
 ⟩
abbrev gK (r:Int):aF:=(aF.ret (.d (iZ r)) [])
abbrev pA (a:Arr×Int×Int×Int×Int×Int) (res:Except (Int) (Int)):Prop:=match a with|(a_,most,deep,i,n1,k)=>cL X 37 (aP [1,1,0,1,0,0,1,0,0,1,0,0] (aQ Tryz.f37)) (aJ (X.H 37 6) 1) (aL 2 (X.H 37 1000002) 1 (lW X Tryz.f37 0 gK (λ(n2:Int)=>(⟨[(1,.d (iZ most)),(2,.d (iZ deep)),(3,.c (.ptr 0 0)),(7,.d (iZ n2)),(8,.d (iZ i))],[(0,[.d (lI a_.shape),.d (lC a_.cells)])],1,[],none⟩:St)) res)) ⟨[(1,.d (iZ most)),(2,.d (iZ deep)),(3,.c (.ptr 0 0)),(7,.d (iZ n1)),(8,.d (iZ i)),(9,.d (iZ k))],[(0,[.d (lI a_.shape),.d (lC a_.cells)])],1,[],none⟩
abbrev oZ (a:Arr×Int×Int×Int×Int) (res:Except (Int) (Int)):Prop:=match a with|(a_,most,deep,n,i)=>cL X 37 (aP [1,1,0,1,0,0] (aQ Tryz.f37)) (aJ (X.H 37 3) 1) (aL 0 (X.H 37 1000000) 1 (lW X Tryz.f37 0 gK (λ(n3:Int)=>(⟨[(7,.d (iZ n3))],[(0,[.d (lI a_.shape),.d (lC a_.cells)])],1,[],none⟩:St)) res)) ⟨[(1,.d (iZ most)),(2,.d (iZ deep)),(3,.c (.ptr 0 0)),(7,.d (iZ n)),(8,.d (iZ i))],[(0,[.d (lI a_.shape),.d (lC a_.cells)])],1,[],none⟩
abbrev qY (a:Arr×Int×Int) (res:Int):Prop:=match a with|(a_,most,deep)=>bF X 37 [.d (aI a_),.d (iZ most),.d (iZ deep)] [] (gK res)
theorem lU:(∀a res,dF a=some res->pA a res)/\(∀a res,dK a=some res->qY a res)/\(∀a res,dW a=some res->oZ a res):=by
 refine dF.mutual_partial_correctness (motive_1:=pA) (motive_2:=qY) (motive_3:=oZ) ?_ ?_ ?_
 ·rintro P0 P1 I0 I1 ⟨a_,most,deep,i,n1,k⟩ res h
  have I0:=Ok.mk' I0
  have I1:=Ok.mk' I1
  refine lg I ?_
  have iE:fF Tryz.f37 0 _ gK:=⟨trivial⟩
  exact Wk
 ·rintro P0 I0 ⟨a_,most,deep⟩ res h
  have I0:=Ok.mk' I0
  exact aB gK I Tryz.func37 I I I I I I λiE=>Wk
 rintro P0 P1 I0 I1 ⟨a_,most,deep,n,i⟩ res h
 have I0:=Ok.mk' I0
 have I1:=Ok.mk' I1
 refine lg I ?_
 have iE:fF Tryz.f37 0 _ gK:=⟨trivial⟩
 exact Wk
instance {a:Arr×Int×Int×Int×Int×Int}:Ok (dF a) (pA a):=⟨λh=>lU.1 a _ h⟩
instance {a:Arr×Int×Int}:Ok (dK a) (qY a):=⟨λh=>lU.2.1 a _ h⟩
instance {a:Arr×Int×Int×Int×Int}:Ok (dW a) (oZ a):=⟨λh=>lU.2.2 a _ h⟩
abbrev xC (r:Int):aF:=(aF.ret (.d (iZ r)) [])
instance {a_:Arr} {most:Int}:Ok (gP a_ most) λr=>bF X 14 [.d (aI a_),.d (iZ most)] [] (xC r):=⟨λh=>by
 unfold gP at h
 exact aB xC I Tryz.func14 I I I I I I λiE=>Wk⟩
abbrev mX (r:Int):aF:=(aF.ret (.d (iZ r)) [])
abbrev pB (a:Node×Int×Int×Int×Int) (res:Except (Int) (Int)):Prop:=match a with|(n,most,deep,k,i)=>cL X 53 (aP [1,1,0,1,0,0] (aQ Tryz.f53)) (aJ (X.H 53 3) 1) (aL 0 (X.H 53 1000000) 1 (lW X Tryz.f53 0 mX (λ(k1:Int)=>(⟨[(7,.d (iZ k1))],[(0,[.d (iZ n.kind),.d (iZ n.op_),.d (.str n.name),.d (lI n.lit.shape),.d (lC n.lit.cells),.d (lN n.kids),.d (iZ n.at_)])],1,[],none⟩:St)) res)) ⟨[(1,.d (iZ most)),(2,.d (iZ deep)),(3,.c (.ptr 0 0)),(7,.d (iZ k)),(8,.d (iZ i))],[(0,[.d (iZ n.kind),.d (iZ n.op_),.d (.str n.name),.d (lI n.lit.shape),.d (lC n.lit.cells),.d (lN n.kids),.d (iZ n.at_)])],1,[],none⟩
abbrev qZ (a:Node×Int×Int) (res:Int):Prop:=match a with|(n,most,deep)=>bF X 53 [.d (encNode n),.d (iZ most),.d (iZ deep)] [] (mX res)
theorem qS:(∀a res,dG a=some res->pB a res)/\(∀a res,eI a=some res->qZ a res):=by
 refine dG.mutual_partial_correctness (motive_1:=pB) (motive_2:=qZ) ?_ ?_
 ·rintro P0 P1 I0 I1 ⟨n,most,deep,k,i⟩ res h
  have I0:=Ok.mk' I0
  have I1:=Ok.mk' I1
  refine lg I ?_
  have iE:fF Tryz.f53 0 _ mX:=⟨trivial⟩
  exact Wk
 rintro P0 I0 ⟨n,most,deep⟩ res h
 have I0:=Ok.mk' I0
 exact aB mX I Tryz.func53 I I I I I I λiE=>Wk
instance {a:Node×Int×Int×Int×Int}:Ok (dG a) (pB a):=⟨λh=>qS.1 a _ h⟩
instance {a:Node×Int×Int}:Ok (eI a) (qZ a):=⟨λh=>qS.2 a _ h⟩
abbrev xD (r:Int):aF:=(aF.ret (.d (iZ r)) [])
instance {n:Node} {most:Int}:Ok (nC n most) λr=>bF X 21 [.d (encNode n),.d (iZ most)] [] (xD r):=⟨λh=>by
 unfold nC at h
 exact aB xD I Tryz.func21 I I I I I I λiE=>Wk⟩
abbrev sC (r:Int):aF:=(aF.ret (.d (iZ r)) [])
abbrev uU (a:Env×Node×Int×Int) (res:Int):Prop:=match a with|(env,n,w,i)=>cL X 9 (aP [1,1,1,0,1,0,0] (aQ Tryz.f9)) (aJ (X.H 9 5) 2) (aL 0 (X.H 9 1000000) 2 (iL (λ(w1:Int)=>(⟨[(9,.d (iZ w1))],[(1,[.d (iZ n.kind),.d (iZ n.op_),.d (.str n.name),.d (lI n.lit.shape),.d (lC n.lit.cells),.d (lN n.kids),.d (iZ n.at_)]),(0,[.d (lS env.names),.d (.list 2 (List.map aH env.vals))])],2,[],none⟩:St)) res)) ⟨[(4,.c (.ptr 0 0)),(9,.d (iZ w)),(10,.d (iZ i))],[(1,[.d (iZ n.kind),.d (iZ n.op_),.d (.str n.name),.d (lI n.lit.shape),.d (lC n.lit.cells),.d (lN n.kids),.d (iZ n.at_)]),(0,[.d (lS env.names),.d (.list 2 (List.map aH env.vals))])],2,[],none⟩
instance {a:Env×Node×Int×Int}:Ok (eL a) (uU a):=⟨λh=>eL.partial_correctness uU (by
 rintro P_ IH ⟨env,n,w,i⟩ res h
 have IH:=Ok.mk' IH
 have iE:fF Tryz.f9 0 _ sC:=⟨trivial⟩
 refine lg I ?_
 exact Wk) _ _ h⟩
instance {env:Env} {n:Node} {fuel:Int} {cells:Int}:Ok (kL env n fuel cells) λr=>bF X 9 [.d (encEnv env),.d (encNode n),.d (iZ fuel),.d (iZ cells)] [] (sC r):=⟨λh=>by
 unfold kL at h
 exact aB sC I Tryz.func9 I I I I I I λiE=>Wk⟩
abbrev zL (r:Int):aF:=(aF.ret (.d (iZ r)) [])
instance {a_:Int} {b:Int}:Ok (cK a_ b) λr=>bF X 69 [.d (iZ a_),.d (iZ b)] [] (zL r):=⟨λh=>by
 unfold cK at h
 exact aB zL I Tryz.func69 I I I I I I λiE=>Wk⟩
abbrev pZ (r:Int):aF:=(aF.ret (.d (iZ r)) [])
instance AvN:Jn 36 1 67 (Int):=⟨λy=>[(5,.d (iZ y))],λy=>[]⟩
abbrev zJ (r:Int):aF:=(aF.ret (.d (iZ r)) [])
instance AuX:Jn 70 1 12 (Int):=⟨λy=>[(5,.d (iZ y))],λy=>[]⟩
instance AuY:Jn 70 1 42 (Int):=⟨λy=>[(5,.d (iZ y))],λy=>[]⟩
abbrev qW (a:Arr×Arr×Int×Int) (res:Int):Prop:=match a with|(a_,b,o1,i)=>cL X 36 (aP [1,1,0,1,0,0] (aQ Tryz.f36)) (aJ (X.H 36 3) 2) (aL 0 (X.H 36 1000000) 2 (iL (λ(o3:Int)=>(⟨[(2,.c (.ptr 0 0)),(3,.c (.ptr 1 0)),(5,.d (iZ o3))],[(1,[.d (lI b.shape),.d (lC b.cells)]),(0,[.d (lI a_.shape),.d (lC a_.cells)])],2,[],none⟩:St)) res)) ⟨[(2,.c (.ptr 0 0)),(3,.c (.ptr 1 0)),(5,.d (iZ o1)),(6,.d (iZ i))],[(1,[.d (lI b.shape),.d (lC b.cells)]),(0,[.d (lI a_.shape),.d (lC a_.cells)])],2,[],none⟩
theorem Ac5:∀a res,dI a=some res->qW a res:=by
 refine dI.partial_correctness qW ?_
 rintro P_ IH ⟨a_,b,o1,i⟩ res h
 have IH:=Ok.mk' IH
 refine lg I ?_
 have iE:fF Tryz.f36 0 _ pZ:=⟨trivial⟩
 exact Wk
instance {a:Arr×Arr×Int×Int}:Ok (dI a) (qW a):=⟨λh=>Ac5 a _ h⟩
abbrev qX (a:Arr×Arr×Int×Int) (res:Int):Prop:=match a with|(a_,b,o4,i1)=>cL X 36 (aP [1,1,1,0,1,0,0] (aQ Tryz.f36)) (aJ (X.H 36 7) 2) (aL 2 (X.H 36 1000002) 2 (iL (λ(o6:Int)=>(⟨[(2,.c (.ptr 0 0)),(3,.c (.ptr 1 0)),(5,.d (iZ o6))],[(1,[.d (lI b.shape),.d (lC b.cells)]),(0,[.d (lI a_.shape),.d (lC a_.cells)])],2,[],none⟩:St)) res)) ⟨[(2,.c (.ptr 0 0)),(3,.c (.ptr 1 0)),(5,.d (iZ o4)),(7,.d (iZ i1))],[(1,[.d (lI b.shape),.d (lC b.cells)]),(0,[.d (lI a_.shape),.d (lC a_.cells)])],2,[],none⟩
abbrev uL (a:Arr×Arr) (res:Int):Prop:=match a with|(a_,b)=>bF X 36 [.d (aI a_),.d (aI b)] [] (pZ res)
abbrev sY (a:aA×aA) (res:Int):Prop:=match a with|(a_,b)=>bF X 70 [.d (aC a_),.d (aC b)] [] (zJ res)
theorem oH:(∀a res,dJ a=some res->qX a res)/\(∀a res,jG a=some res->sY a res)/\(∀a res,fP a=some res->uL a res):=by
 refine dJ.mutual_partial_correctness (motive_1:=qX) (motive_2:=sY) (motive_3:=uL) ?_ ?_ ?_
 ·rintro P0 P1 I0 I1 ⟨a_,b,o4,i1⟩ res h
  have I0:=Ok.mk' I0
  have I1:=Ok.mk' I1
  refine lg I ?_
  have iE:fF Tryz.f36 0 _ pZ:=⟨trivial⟩
  exact Wk
 ·rintro P0 I0 ⟨a_,b⟩ res h
  have I0:=Ok.mk' I0
  exact aB zJ I Tryz.func70 I I I I I I λiE=>Wk
 rintro P0 I0 ⟨a_,b⟩ res h
 have I0:=Ok.mk' I0
 exact aB pZ I Tryz.func36 I I I I I I λiE=>Wk
instance {a:Arr×Arr×Int×Int}:Ok (dJ a) (qX a):=⟨λh=>oH.1 a _ h⟩
instance {a:aA×aA}:Ok (jG a) (sY a):=⟨λh=>oH.2.1 a _ h⟩
instance {a:Arr×Arr}:Ok (fP a) (uL a):=⟨λh=>oH.2.2 a _ h⟩
abbrev zK (r:Bool):aF:=(aF.ret (.d (.bool r)) [])
instance {a_:Arr} {b:Arr}:Ok (fE a_ b) λr=>bF X 13 [.d (aI a_),.d (aI b)] [] (zK r):=⟨λh=>by
 unfold fE at h
 exact aB zK I Tryz.func13 I I I I I I λiE=>Wk⟩
abbrev sP (a:Env×Node×Int×Int×Arr×Int×Int×Nat×Nat×LI×Int×(List aA)) (res:(List aA)):Prop:=match a with|(env,n,fuel,cells,x2,i,e,n1,n2,b,k,c0)=>cL X 8 (aP [1,1,1,1,0,1,0,0] (aQ Tryz.f8)) (aJ (X.H 8 6) 6) (aL 0 (X.H 8 1000000) 6 (iL (λ(c01:(List aA))=>(⟨[(2,.d (iZ fuel)),(3,.d (iZ cells)),(4,.c (.ptr 0 0)),(5,.c (.ptr 1 0)),(9,.c (.ptr 2 0)),(10,.d (iZ i)),(11,.d (iZ e)),(12,.c (.ptr 5 0))],[(5,[.arr 3 n1 1,.arr 4 n2 3]),(2,[.d (lI x2.shape),.d (lC x2.cells)]),(1,[.d (iZ n.kind),.d (iZ n.op_),.d (.str n.name),.d (lI n.lit.shape),.d (lC n.lit.cells),.d (lN n.kids),.d (iZ n.at_)]),(0,[.d (lS env.names),.d (.list 2 (List.map aH env.vals))]),(3,[.seq 1 (List.map (D.int .i64) b)]),(4,[.seq 3 (List.map aC c01)])],6,[],none⟩:St)) res)) ⟨[(2,.d (iZ fuel)),(3,.d (iZ cells)),(4,.c (.ptr 0 0)),(5,.c (.ptr 1 0)),(9,.c (.ptr 2 0)),(10,.d (iZ i)),(11,.d (iZ e)),(12,.c (.ptr 5 0)),(15,.d (iZ k))],[(5,[.arr 3 n1 1,.arr 4 n2 3]),(2,[.d (lI x2.shape),.d (lC x2.cells)]),(1,[.d (iZ n.kind),.d (iZ n.op_),.d (.str n.name),.d (lI n.lit.shape),.d (lC n.lit.cells),.d (lN n.kids),.d (iZ n.at_)]),(0,[.d (lS env.names),.d (.list 2 (List.map aH env.vals))]),(3,[.seq 1 (List.map (D.int .i64) b)]),(4,[.seq 3 (List.map aC c0)])],6,[],none⟩
instance {a:Env×Node×Int×Int×Arr×Int×Int×Nat×Nat×LI×Int×(List aA)}:Ok (cS a) (sP a):=⟨λh=>cS.partial_correctness sP (by
 rintro P_ IH ⟨env,n,fuel,cells,x2,i,e,n1,n2,b,k,c0⟩ res h
 have IH:=Ok.mk' IH
 refine lg I (S_ (ra I ?_))
 rcases E_ h with ⟨hc,h⟩|⟨hc,h⟩
 ·refine ct I hc (K_ (cn I (N_ (S_ (W_ (rn 3 I ?_))))))
  obtain⟨j,hk,h⟩:=B h
  refine po (Aa1 hk I I I I I) I I (on 1 I ?_)
  obtain⟨y,hk,h⟩:=B h
  refine po (BkZ (fo:=1) aC hk I I (λ_=>⟨I,I,I⟩) I I I) I I (on 1 I ?_)
  obtain⟨j1,hk,h⟩:=B h
  refine po (Aa1 hk I I I I I) I I (on 1 I ?_)
  obtain⟨y1,hk0,h⟩:=B h
  obtain⟨c,hk,h⟩:=B h
  refine po (Bl0 (fo:=1) aC hk0 hk I I (λ_=>⟨I,I,I⟩) I I I I I I) I I (O_ (en I (N_ (rn 3 I (O_ (cD.normal ?_))))))
  have hv:=Ok.ok h
  exact bW I I hv
 ·refine cf I hc (X_ (fW.exit (kW.exit (cD.exit (eh I ?_)))))
  cases h
  exact .ok I
 ) _ _ h⟩
abbrev sQ (a:Env×Node×Int×Int×Arr×Int×Int×Nat×Nat×(List aA)×Int×LI) (res:LI):Prop:=match a with|(env,n,fuel,cells,x2,i,e,n1,n2,c01,k1,c02)=>cL X 8 (aP [1,1,1,1,1,0,1,0,0] (aQ Tryz.f8)) (aJ (X.H 8 10) 6) (aL 2 (X.H 8 1000002) 6 (iL (λ(c03:LI)=>(⟨[(2,.d (iZ fuel)),(3,.d (iZ cells)),(4,.c (.ptr 0 0)),(5,.c (.ptr 1 0)),(9,.c (.ptr 2 0)),(10,.d (iZ i)),(11,.d (iZ e))],[(5,[.arr 3 n1 1,.arr 4 n2 3]),(2,[.d (lI x2.shape),.d (lC x2.cells)]),(1,[.d (iZ n.kind),.d (iZ n.op_),.d (.str n.name),.d (lI n.lit.shape),.d (lC n.lit.cells),.d (lN n.kids),.d (iZ n.at_)]),(0,[.d (lS env.names),.d (.list 2 (List.map aH env.vals))]),(3,[.seq 1 (List.map (D.int .i64) c03)]),(4,[.seq 3 (List.map aC c01)])],6,[],none⟩:St)) res)) ⟨[(2,.d (iZ fuel)),(3,.d (iZ cells)),(4,.c (.ptr 0 0)),(5,.c (.ptr 1 0)),(9,.c (.ptr 2 0)),(10,.d (iZ i)),(11,.d (iZ e)),(12,.c (.ptr 5 0)),(16,.d (iZ k1))],[(5,[.arr 3 n1 1,.arr 4 n2 3]),(2,[.d (lI x2.shape),.d (lC x2.cells)]),(1,[.d (iZ n.kind),.d (iZ n.op_),.d (.str n.name),.d (lI n.lit.shape),.d (lC n.lit.cells),.d (lN n.kids),.d (iZ n.at_)]),(0,[.d (lS env.names),.d (.list 2 (List.map aH env.vals))]),(3,[.seq 1 (List.map (D.int .i64) c02)]),(4,[.seq 3 (List.map aC c01)])],6,[],none⟩
instance {a:Env×Node×Int×Int×Arr×Int×Int×Nat×Nat×(List aA)×Int×LI}:Ok (cT a) (sQ a):=⟨λh=>cT.partial_correctness sQ (by
 rintro P_ IH ⟨env,n,fuel,cells,x2,i,e,n1,n2,c01,k1,c02⟩ res h
 have IH:=Ok.mk' IH
 refine lg I (S_ (ra I ?_))
 rcases E_ h with ⟨hc,h⟩|⟨hc,h⟩
 ·refine ct I hc (K_ (cn I (N_ (S_ (W_ (rn 3 I ?_))))))
  obtain⟨j2,hk,h⟩:=B h
  refine po (Aa1 hk I I I I I) I I ?_
  obtain⟨y2,hk,h⟩:=B h
  refine po (ApK (D.int .i64) hk I I (λ_=>⟨I,I,I⟩) I I) I I (on 1 I ?_)
  obtain⟨j3,hk,h⟩:=B h
  refine po (Aa1 hk I I I I I) I I ?_
  obtain⟨c1,hk,h⟩:=B h
  refine po (est (D.int .i64) (v:=(w64 (y2+1))) hk I I (λ_=>⟨I,I,I⟩) I I I I) I I (O_ (en I (N_ (rn 3 I (O_ (cD.normal ?_))))))
  have hv:=Ok.ok h
  exact bW I I hv
 ·refine cf I hc (X_ (fW.exit (kW.exit (cD.exit (eh I ?_)))))
  cases h
  exact .ok I
 ) _ _ h⟩
instance {env:Env} {n:Node} {fuel:Int} {cells:Int}:Ok (p_triglyphlaw11_RunAgain env n fuel cells) λr=>bF X 8 [.d (encEnv env),.d (encNode n),.d (iZ fuel),.d (iZ cells)] [] (aF.ret (.d (.bool r)) []):=⟨λ{r} h=>by
 unfold p_triglyphlaw11_RunAgain at h
 refine kM (tm:=[(0,.d (encEnv env)),(1,.d (encNode n)),(2,.d (iZ fuel)),(3,.d (iZ cells))]) (hp:=[]) (n:=0) I Tryz.func8 I I I I I I (ra (nid':=2) I (S_ (S_ (rn 4 I ?_))))
 obtain⟨x,hk,h⟩:=B h
 have hv:=Ok.ok hk
 refine po (kJ (hv) I I I I I I I I I) I I (on 1 I (rz ?_))
 rcases E_ h with ⟨hc,h⟩|⟨hc,h⟩
 ·refine ct I hc (S_ (rn 0 I ?_))
  obtain⟨x1,hk,h⟩:=B h
  have hv:=Ok.ok hk
  refine po (kJ (hv) I I I I I I I I I) I I (on 1 I (rz (R_ (C_ (Q_ ?_)))))
  cases h
  exact .ret I I
 ·refine cf I hc (K_ (cn I (N_ (S_ (rn 4 I ?_)))))
  obtain⟨⟨x2,i,e⟩,hk,h⟩:=B h
  have hv:=Ok.ok hk
  refine po (kJ (hv) I I I I I I I I I) I I (on (nid':=3) 8 I (rz (S_ (rnM (tm0:=[(11,.d (iZ e)),(10,.d (iZ i)),(9,.c (.ptr 2 0)),(35,.d (iZ e)),(34,.d (iZ i)),(33,.d (aI x2)),(27,.tuple [.d (aI x2),.d (iZ i),.d (iZ e)]),(32,.tuple [.d (aI x2),.d (iZ i),.d (iZ e)]),(31,.d (iZ cells)),(30,.d (iZ fuel)),(29,.d (encNode n)),(28,.d (encEnv env)),(2,.d (iZ fuel)),(3,.d (iZ cells)),(4,.c (.ptr 0 0)),(5,.c (.ptr 1 0))]) (hp0:=[(2,[.d (lI x2.shape),.d (lC x2.cells)]),(1,[.d (iZ n.kind),.d (iZ n.op_),.d (.str n.name),.d (lI n.lit.shape),.d (lC n.lit.cells),.d (lN n.kids),.d (iZ n.at_)]),(0,[.d (lS env.names),.d (.list 2 (List.map aH env.vals))])]) (nid0:=3) I I I (mo (.of λ_=>I) I (λ_=>I) (s2:=⟨[(37,.d (encEnv env)),(2,.d (iZ fuel)),(3,.d (iZ cells)),(4,.c (.ptr 0 0)),(5,.c (.ptr 1 0)),(9,.c (.ptr 2 0)),(10,.d (iZ i)),(11,.d (iZ e))],[(2,[.d (lI x2.shape),.d (lC x2.cells)]),(1,[.d (iZ n.kind),.d (iZ n.op_),.d (.str n.name),.d (lI n.lit.shape),.d (lC n.lit.cells),.d (lN n.kids),.d (iZ n.at_)]),(0,[.d (lS env.names),.d (.list 2 (List.map aH env.vals))])],3,[],none⟩) I (mo (.of λ_=>I) I (λ_=>I) (s2:=⟨[(38,.d (encNode n)),(37,.d (encEnv env)),(2,.d (iZ fuel)),(3,.d (iZ cells)),(4,.c (.ptr 0 0)),(5,.c (.ptr 1 0)),(9,.c (.ptr 2 0)),(10,.d (iZ i)),(11,.d (iZ e))],[(2,[.d (lI x2.shape),.d (lC x2.cells)]),(1,[.d (iZ n.kind),.d (iZ n.op_),.d (.str n.name),.d (lI n.lit.shape),.d (lC n.lit.cells),.d (lN n.kids),.d (iZ n.at_)]),(0,[.d (lS env.names),.d (.list 2 (List.map aH env.vals))])],3,[],none⟩) I (mo (.of λ_=>I) I (λ_=>I) (s2:=⟨[(39,.d (iZ fuel)),(38,.d (encNode n)),(37,.d (encEnv env)),(2,.d (iZ fuel)),(3,.d (iZ cells)),(4,.c (.ptr 0 0)),(5,.c (.ptr 1 0)),(9,.c (.ptr 2 0)),(10,.d (iZ i)),(11,.d (iZ e))],[(2,[.d (lI x2.shape),.d (lC x2.cells)]),(1,[.d (iZ n.kind),.d (iZ n.op_),.d (.str n.name),.d (lI n.lit.shape),.d (lC n.lit.cells),.d (lN n.kids),.d (iZ n.at_)]),(0,[.d (lS env.names),.d (.list 2 (List.map aH env.vals))])],3,[],none⟩) I (mo (.of λ_=>I) I (λ_=>I) (s2:=⟨[(40,.d (iZ cells)),(39,.d (iZ fuel)),(38,.d (encNode n)),(37,.d (encEnv env)),(2,.d (iZ fuel)),(3,.d (iZ cells)),(4,.c (.ptr 0 0)),(5,.c (.ptr 1 0)),(9,.c (.ptr 2 0)),(10,.d (iZ i)),(11,.d (iZ e))],[(2,[.d (lI x2.shape),.d (lC x2.cells)]),(1,[.d (iZ n.kind),.d (iZ n.op_),.d (.str n.name),.d (lI n.lit.shape),.d (lC n.lit.cells),.d (lN n.kids),.d (iZ n.at_)]),(0,[.d (lS env.names),.d (.list 2 (List.map aH env.vals))])],3,[],none⟩) I ?_))))))))
  obtain⟨⟨n1,n2,x3,x4,b,b1⟩,hk,h⟩:=B h
  have hv:=Ok.ok hk
  refine mv (nid':=5) (hv) I I I I I I I I I I I  (s2:=⟨[(41,.vtup 2 [.arr 3 n1 1,.arr 4 n2 3,.d (iZ x3),.d (iZ x4)]),(40,.d (iZ cells)),(39,.d (iZ fuel)),(38,.d (encNode n)),(37,.d (encEnv env)),(2,.d (iZ fuel)),(3,.d (iZ cells)),(4,.c (.ptr 0 0)),(5,.c (.ptr 1 0)),(9,.c (.ptr 2 0)),(10,.d (iZ i)),(11,.d (iZ e))],[(2,[.d (lI x2.shape),.d (lC x2.cells)]),(1,[.d (iZ n.kind),.d (iZ n.op_),.d (.str n.name),.d (lI n.lit.shape),.d (lC n.lit.cells),.d (lN n.kids),.d (iZ n.at_)]),(0,[.d (lS env.names),.d (.list 2 (List.map aH env.vals))]),(3,[.seq 1 (List.map (D.int .i64) b)]),(4,[.seq 3 (List.map aC b1)])],5,[],none⟩) I (mo (.of λ_=>I) I (λ_=>I) (s2:=⟨[(36,.vtup 2 [.arr 3 n1 1,.arr 4 n2 3,.d (iZ x3),.d (iZ x4)]),(41,.vtup 2 [.arr 3 n1 1,.arr 4 n2 3,.d (iZ x3),.d (iZ x4)]),(40,.d (iZ cells)),(39,.d (iZ fuel)),(38,.d (encNode n)),(37,.d (encEnv env)),(2,.d (iZ fuel)),(3,.d (iZ cells)),(4,.c (.ptr 0 0)),(5,.c (.ptr 1 0)),(9,.c (.ptr 2 0)),(10,.d (iZ i)),(11,.d (iZ e))],[(2,[.d (lI x2.shape),.d (lC x2.cells)]),(1,[.d (iZ n.kind),.d (iZ n.op_),.d (.str n.name),.d (lI n.lit.shape),.d (lC n.lit.cells),.d (lN n.kids),.d (iZ n.at_)]),(0,[.d (lS env.names),.d (.list 2 (List.map aH env.vals))]),(3,[.seq 1 (List.map (D.int .i64) b)]),(4,[.seq 3 (List.map aC b1)])],5,[],none⟩) I (mo (.of λ_=>I) I (λ_=>I) (s2:=⟨[(42,.vagg [.arr 3 n1 1,.arr 4 n2 3]),(36,.vtup 2 [.arr 3 n1 1,.arr 4 n2 3,.d (iZ x3),.d (iZ x4)]),(41,.vtup 2 [.arr 3 n1 1,.arr 4 n2 3,.d (iZ x3),.d (iZ x4)]),(40,.d (iZ cells)),(39,.d (iZ fuel)),(38,.d (encNode n)),(37,.d (encEnv env)),(2,.d (iZ fuel)),(3,.d (iZ cells)),(4,.c (.ptr 0 0)),(5,.c (.ptr 1 0)),(9,.c (.ptr 2 0)),(10,.d (iZ i)),(11,.d (iZ e))],[(2,[.d (lI x2.shape),.d (lC x2.cells)]),(1,[.d (iZ n.kind),.d (iZ n.op_),.d (.str n.name),.d (lI n.lit.shape),.d (lC n.lit.cells),.d (lN n.kids),.d (iZ n.at_)]),(0,[.d (lS env.names),.d (.list 2 (List.map aH env.vals))]),(3,[.seq 1 (List.map (D.int .i64) b)]),(4,[.seq 3 (List.map aC b1)])],5,[],none⟩) I (mo (.of λ_=>I) I (λ_=>I) (s2:=⟨[(43,.d (iZ x3)),(42,.vagg [.arr 3 n1 1,.arr 4 n2 3]),(36,.vtup 2 [.arr 3 n1 1,.arr 4 n2 3,.d (iZ x3),.d (iZ x4)]),(41,.vtup 2 [.arr 3 n1 1,.arr 4 n2 3,.d (iZ x3),.d (iZ x4)]),(40,.d (iZ cells)),(39,.d (iZ fuel)),(38,.d (encNode n)),(37,.d (encEnv env)),(2,.d (iZ fuel)),(3,.d (iZ cells)),(4,.c (.ptr 0 0)),(5,.c (.ptr 1 0)),(9,.c (.ptr 2 0)),(10,.d (iZ i)),(11,.d (iZ e))],[(2,[.d (lI x2.shape),.d (lC x2.cells)]),(1,[.d (iZ n.kind),.d (iZ n.op_),.d (.str n.name),.d (lI n.lit.shape),.d (lC n.lit.cells),.d (lN n.kids),.d (iZ n.at_)]),(0,[.d (lS env.names),.d (.list 2 (List.map aH env.vals))]),(3,[.seq 1 (List.map (D.int .i64) b)]),(4,[.seq 3 (List.map aC b1)])],5,[],none⟩) I (mo (.of λ_=>I) I (λ_=>I) (s2:=⟨[(44,.d (iZ x4)),(43,.d (iZ x3)),(42,.vagg [.arr 3 n1 1,.arr 4 n2 3]),(36,.vtup 2 [.arr 3 n1 1,.arr 4 n2 3,.d (iZ x3),.d (iZ x4)]),(41,.vtup 2 [.arr 3 n1 1,.arr 4 n2 3,.d (iZ x3),.d (iZ x4)]),(40,.d (iZ cells)),(39,.d (iZ fuel)),(38,.d (encNode n)),(37,.d (encEnv env)),(2,.d (iZ fuel)),(3,.d (iZ cells)),(4,.c (.ptr 0 0)),(5,.c (.ptr 1 0)),(9,.c (.ptr 2 0)),(10,.d (iZ i)),(11,.d (iZ e))],[(2,[.d (lI x2.shape),.d (lC x2.cells)]),(1,[.d (iZ n.kind),.d (iZ n.op_),.d (.str n.name),.d (lI n.lit.shape),.d (lC n.lit.cells),.d (lN n.kids),.d (iZ n.at_)]),(0,[.d (lS env.names),.d (.list 2 (List.map aH env.vals))]),(3,[.seq 1 (List.map (D.int .i64) b)]),(4,[.seq 3 (List.map aC b1)])],5,[],none⟩) I (mo (.of λ_=>I) I (λ_=>I) (s2:=⟨[(12,.c (.ptr 5 0)),(44,.d (iZ x4)),(43,.d (iZ x3)),(42,.vagg [.arr 3 n1 1,.arr 4 n2 3]),(36,.vtup 2 [.arr 3 n1 1,.arr 4 n2 3,.d (iZ x3),.d (iZ x4)]),(41,.vtup 2 [.arr 3 n1 1,.arr 4 n2 3,.d (iZ x3),.d (iZ x4)]),(40,.d (iZ cells)),(39,.d (iZ fuel)),(38,.d (encNode n)),(37,.d (encEnv env)),(2,.d (iZ fuel)),(3,.d (iZ cells)),(4,.c (.ptr 0 0)),(5,.c (.ptr 1 0)),(9,.c (.ptr 2 0)),(10,.d (iZ i)),(11,.d (iZ e))],[(5,[oI [],oC []]),(2,[.d (lI x2.shape),.d (lC x2.cells)]),(1,[.d (iZ n.kind),.d (iZ n.op_),.d (.str n.name),.d (lI n.lit.shape),.d (lC n.lit.cells),.d (lN n.kids),.d (iZ n.at_)]),(0,[.d (lS env.names),.d (.list 2 (List.map aH env.vals))]),(3,[.seq 1 (List.map (D.int .i64) b)]),(4,[.seq 3 (List.map aC b1)])],6,[],none⟩) I (mo (.of λ_=>I) I (λ_=>I) (s2:=⟨[(12,.c (.ptr 5 0)),(44,.d (iZ x4)),(43,.d (iZ x3)),(42,.vagg [.arr 3 n1 1,.arr 4 n2 3]),(36,.vtup 2 [.arr 3 n1 1,.arr 4 n2 3,.d (iZ x3),.d (iZ x4)]),(41,.vtup 2 [.arr 3 n1 1,.arr 4 n2 3,.d (iZ x3),.d (iZ x4)]),(40,.d (iZ cells)),(39,.d (iZ fuel)),(38,.d (encNode n)),(37,.d (encEnv env)),(2,.d (iZ fuel)),(3,.d (iZ cells)),(4,.c (.ptr 0 0)),(5,.c (.ptr 1 0)),(9,.c (.ptr 2 0)),(10,.d (iZ i)),(11,.d (iZ e))],[(5,[.arr 3 n1 1,.arr 4 n2 3]),(2,[.d (lI x2.shape),.d (lC x2.cells)]),(1,[.d (iZ n.kind),.d (iZ n.op_),.d (.str n.name),.d (lI n.lit.shape),.d (lC n.lit.cells),.d (lN n.kids),.d (iZ n.at_)]),(0,[.d (lS env.names),.d (.list 2 (List.map aH env.vals))]),(3,[.seq 1 (List.map (D.int .i64) b)]),(4,[.seq 3 (List.map aC b1)])],6,[],none⟩) I (mo (.of λ_=>I) I (λ_=>I) (s2:=⟨[(13,.d (iZ x3)),(12,.c (.ptr 5 0)),(44,.d (iZ x4)),(43,.d (iZ x3)),(42,.vagg [.arr 3 n1 1,.arr 4 n2 3]),(36,.vtup 2 [.arr 3 n1 1,.arr 4 n2 3,.d (iZ x3),.d (iZ x4)]),(41,.vtup 2 [.arr 3 n1 1,.arr 4 n2 3,.d (iZ x3),.d (iZ x4)]),(40,.d (iZ cells)),(39,.d (iZ fuel)),(38,.d (encNode n)),(37,.d (encEnv env)),(2,.d (iZ fuel)),(3,.d (iZ cells)),(4,.c (.ptr 0 0)),(5,.c (.ptr 1 0)),(9,.c (.ptr 2 0)),(10,.d (iZ i)),(11,.d (iZ e))],[(5,[.arr 3 n1 1,.arr 4 n2 3]),(2,[.d (lI x2.shape),.d (lC x2.cells)]),(1,[.d (iZ n.kind),.d (iZ n.op_),.d (.str n.name),.d (lI n.lit.shape),.d (lC n.lit.cells),.d (lN n.kids),.d (iZ n.at_)]),(0,[.d (lS env.names),.d (.list 2 (List.map aH env.vals))]),(3,[.seq 1 (List.map (D.int .i64) b)]),(4,[.seq 3 (List.map aC b1)])],6,[],none⟩) I (mo (.of λ_=>I) I (λ_=>I) (s2:=⟨[(14,.d (iZ x4)),(13,.d (iZ x3)),(12,.c (.ptr 5 0)),(44,.d (iZ x4)),(43,.d (iZ x3)),(42,.vagg [.arr 3 n1 1,.arr 4 n2 3]),(36,.vtup 2 [.arr 3 n1 1,.arr 4 n2 3,.d (iZ x3),.d (iZ x4)]),(41,.vtup 2 [.arr 3 n1 1,.arr 4 n2 3,.d (iZ x3),.d (iZ x4)]),(40,.d (iZ cells)),(39,.d (iZ fuel)),(38,.d (encNode n)),(37,.d (encEnv env)),(2,.d (iZ fuel)),(3,.d (iZ cells)),(4,.c (.ptr 0 0)),(5,.c (.ptr 1 0)),(9,.c (.ptr 2 0)),(10,.d (iZ i)),(11,.d (iZ e))],[(5,[.arr 3 n1 1,.arr 4 n2 3]),(2,[.d (lI x2.shape),.d (lC x2.cells)]),(1,[.d (iZ n.kind),.d (iZ n.op_),.d (.str n.name),.d (lI n.lit.shape),.d (lC n.lit.cells),.d (lN n.kids),.d (iZ n.at_)]),(0,[.d (lS env.names),.d (.list 2 (List.map aH env.vals))]),(3,[.seq 1 (List.map (D.int .i64) b)]),(4,[.seq 3 (List.map aC b1)])],6,[],none⟩) I (mz (N_ (S_ (ra I ?_))))))))))))
  obtain⟨c01,hs,h⟩:=B h
  refine gI (λ(c01:(List aA))=>(⟨[(2,.d (iZ fuel)),(3,.d (iZ cells)),(4,.c (.ptr 0 0)),(5,.c (.ptr 1 0)),(9,.c (.ptr 2 0)),(10,.d (iZ i)),(11,.d (iZ e)),(12,.c (.ptr 5 0))],[(5,[.arr 3 n1 1,.arr 4 n2 3]),(2,[.d (lI x2.shape),.d (lC x2.cells)]),(1,[.d (iZ n.kind),.d (iZ n.op_),.d (.str n.name),.d (lI n.lit.shape),.d (lC n.lit.cells),.d (lN n.kids),.d (iZ n.at_)]),(0,[.d (lS env.names),.d (.list 2 (List.map aH env.vals))]),(3,[.seq 1 (List.map (D.int .i64) b)]),(4,[.seq 3 (List.map aC c01)])],6,[],none⟩:St)) (y:=c01) ?_ ?_
  ·replace h:=hs
   refine W_ (dS ?_)
   have hv:=Ok.ok h
   exact bW I I hv
  ·refine N_ (S_ (ra I ?_))
   obtain⟨c03,hs,h⟩:=B h
   refine gI (λ(c03:LI)=>(⟨[(2,.d (iZ fuel)),(3,.d (iZ cells)),(4,.c (.ptr 0 0)),(5,.c (.ptr 1 0)),(9,.c (.ptr 2 0)),(10,.d (iZ i)),(11,.d (iZ e))],[(5,[.arr 3 n1 1,.arr 4 n2 3]),(2,[.d (lI x2.shape),.d (lC x2.cells)]),(1,[.d (iZ n.kind),.d (iZ n.op_),.d (.str n.name),.d (lI n.lit.shape),.d (lC n.lit.cells),.d (lN n.kids),.d (iZ n.at_)]),(0,[.d (lS env.names),.d (.list 2 (List.map aH env.vals))]),(3,[.seq 1 (List.map (D.int .i64) c03)]),(4,[.seq 3 (List.map aC c01)])],6,[],none⟩:St)) (y:=c03) ?_ ?_
   ·replace h:=hs
    refine W_ (dS ?_)
    have hv:=Ok.ok h
    exact bW I I hv
   ·refine N_ (S_ (rn 4 I ?_))
    obtain⟨⟨x5,k2,f⟩,hk,h⟩:=B h
    have hv:=Ok.ok hk
    refine po (kJ (hv) I I I I I I I I I) I I (on (nid':=7) 8 I (rz (S_ (rn 4 I ?_))))
    rcases E_ h with ⟨hc,h⟩|⟨hc,h⟩
    ·refine gt I I I I hc I (on 5 I ?_)
     rcases E_ h with ⟨hc,h⟩|⟨hc,h⟩
     ·refine gt I I I I hc I (on 2 I ?_)
      obtain⟨x6,hk,h⟩:=B h
      have hv:=Ok.ok hk
      refine po (kJ (hv) I I I I I I I I I) I I (on 2 I ?_)
      rcases E_ h with ⟨hc,h⟩|⟨hc,h⟩
      ·refine gt I I I I hc I ?_
       obtain⟨x7,hk,h⟩:=B h
       have hv:=Ok.ok hk
       refine po (kJ (hv) I I I I I I I I I) I I (on 2 I (rz (R_ ?_)))
       cases h
       exact .ret I I
      refine gf I I I I hc I (on 3 I (rz (R_ ?_)))
      cases h
      exact .ret I I
     refine gf I I I I hc I (on 8 I (rz (R_ ?_)))
     cases h
     exact .ret I I
    ·refine gf I I I I hc I (on 13 I (rz (R_ ?_)))
     cases h
     exact .ret I I
 ⟩
end Go.AM.Seat
