/- A by-value reading of the model, and its soundness, part 2. -/
import Derived.Test.YtfhgecdbldmekaaGreatW1
import Derived.LoopN
import Derived.ProofKit
import Derived.IntWalk
import Derived.Lib.Bytealg
set_option linter.unusedVariables false
set_option linter.unusedSimpArgs false
set_option maxHeartbeats 2000000
/- The head of a loop. -/
open Go.IntKind (i64)
namespace Go.Abs
open Go
section
variable {n0:Nat} {ab rb:Nat->Prop} {w0:World} {N:Fix} {t:Nat->AVal} {m:Mem} {a:Act} {w:World} {loc:Nat->Loc} {ow:Nat->Option Nat}
/-- A temp told otherwise. -/
theorem Rel.retemp(R:Rel n0 ab rb w0 N t m a w loc ow){d:Nat}{x:AVal}(h:VR m loc (Ok n0 ab m loc w) w x (a.tmps.getD d undef)):Rel n0 ab rb w0 N (n7 t (some d) x) m a w loc ow:=by
 refine⟨R.defers,R.size,R.hn0,R.keep,R.hab,λi=>?_,R.ents,R.owlt,R.mutrb,R.free,R.pin,R.opin,R.held,R.npin,R.pcap,R.szk⟩
 show VR m loc _ w (if i=d then x else t i) _
 split
 ·simp_all
 ·exact R.temps i
theorem DG(p:Nat->Bool)(f:Ent->Ent)(hf:f .none= .none)(i:Nat):∀ l:List (Nat×Ent),gC Ent.none i ((l.filter λq=>p q.1).map λq=>(q.1,f q.2))=if p i=true then f (gC Ent.none i l)else .none
 | []=>by
  show Ent.none=_
  split
  ·exact hf.symm
  ·rfl
 | (j,e)::r=>by
  have ih:=DG p f hf i r
  by_cases hp:p j=true
  ·rw[List.filter_cons_of_pos (by omega),List.map_cons]
   show(bif Nat.beq i j then f e else gC Ent.none i ((r.filter λq=>p q.1).map λq=>(q.1,f q.2)))=if p i=true then f (bif Nat.beq i j then e else gC Ent.none i r)else .none
   rw[ih]
   by_cases h:i=j
   ·simp_all
   ·rw[kJ h];simp
  ·rw[List.filter_cons_of_neg (by omega),ih]
   show _=if p i=true then f (bif Nat.beq i j then e else gC Ent.none i r)else .none
   by_cases h:i=j
   ·simp_all
   ·rw[kJ h];simp
theorem w3(f:Nat->AVal)(i:Nat):∀ ids:List Nat,gC AVal.anyv i (ids.map λj=>(j,f j))=if i∈ids then f i else .anyv
 | []=>rfl
 | j::r=>by
  rw[List.map_cons]
  show(bif Nat.beq i j then f j else gC AVal.anyv i (r.map λj=>(j,f j)))=_
  rw[w3 f i r]
  by_cases h:i=j
  ·simp_all
  simp_all
theorem HX(ids:Nat->Bool)(e:Ent):dU (xI ids e)=dU e:=by cases e<;>rfl
section clean
variable {ids:Nat->Bool} {M:Mem} {ok ok':Nat->Prop} (hM:∀ i,M i=if ids i=true then xI ids (m i)else .none) (hok:∀ b,ok b->ok' b)
include hM hok
theorem LR.clean:∀ (l:Leaf) (u:Value),LR m loc ok w l u->LR M loc ok' w (uO ids l) u
 | .v k x,u,⟨bs,h1,h2⟩=>⟨bs,h1,λb hb=>hok b (h2 b hb)⟩
 | .nil,u,h=>h
 | .own id,u,h=>by
  have hc:=LR.cell _ u h
  show LR M loc ok' w (bif ids id then .own id else .any) u
  cases hm:ids id with
  | false=>exact hc
  | true=>
   have hin:=hm
   simp only[cond_true,LR] at h ⊢
   rw[hM id,if_pos hin]
   cases he:m id<;>rw[he] at h<;>exact h
 | .ptr id o,u,h=>by
  have hc:=LR.cell _ u h
  show LR M loc ok' w (bif ids id then .ptr id o else .any) u
  cases hm:ids id with
  | false=>exact hc
  | true=>
   have hin:=hm
   simp only[cond_true,LR] at h ⊢
   rw[hM id,if_pos hin]
   cases he:m id<;>rw[he] at h<;>exact h
 | .eptr id j o,u,h=>by
  have hc:=LR.cell _ u h
  show LR M loc ok' w (bif ids id then .eptr id j o else .any) u
  cases hm:ids id with
  | false=>exact hc
  | true=>
   have hin:=hm
   simp only[cond_true,LR] at h ⊢
   rw[hM id,if_pos hin]
   cases he:m id<;>rw[he] at h<;>exact h
 | .psl id j o,u,h=>by
  have hc:=LR.cell _ u h
  show LR M loc ok' w (bif ids id then .psl id j o else .any) u
  cases hm:ids id with
  | false=>exact hc
  | true=>
   have hin:=hm
   simp only[cond_true,LR] at h ⊢
   rw[hM id,if_pos hin]
   cases he:m id<;>rw[he] at h<;>exact h
 | .vw id l hh,u,h=>by
  have hc:=LR.cell _ u h
  show LR M loc ok' w (bif ids id then .vw id l hh else .any) u
  cases hm:ids id with
  | false=>exact hc
  | true=>
   have hin:=hm
   simp only[cond_true,LR] at h ⊢
   rw[hM id,if_pos hin]
   cases he:m id<;>rw[he] at h<;>exact h
 | .pptr id q f d j o,u,h=>by
  have hc:=LR.cell _ u h
  show LR M loc ok' w (bif ids id then .pptr id q f d j o else .any) u
  cases hm:ids id with
  | false=>exact hc
  | true=>
   have hin:=hm
   simp only[cond_true,LR] at h ⊢
   rw[hM id,if_pos hin]
   cases he:m id<;>rw[he] at h<;>exact h
 | .rptr ks r o,u,⟨b,of,us,bs,h1,h2,h3,h4,h5⟩=>⟨b,of,us,bs,h1,h2,λx hx=>hok x (h3 x hx),hok b h4,h5⟩
 | .any,u,h=>h
 | .hdr n,u,h=>h
theorem LRs.clean:∀ (ls:List Leaf) (us:List Value),LRs m loc ok w ls us->LRs M loc ok' w (ls.map (uO ids)) us
 | [],us,h=>h
 | l::ls,us,⟨u,us',e,h1,h2⟩=>⟨u,us',e,LR.clean hM hok l u h1,LRs.clean ls us' h2⟩
theorem VR1.clean(v:AVal)(u:Value)(h:VR1 m loc ok w v u):VR1 M loc ok' w (FO ids v) u:=by
 cases v with
 | one l=>exact LR.clean hM hok l u h
 | agg ls=>
  obtain⟨us,e,h⟩:=h
  exact⟨us,e,LRs.clean hM hok ls us h⟩
 | tup vs=>trivial
 | undef=>exact h
 | anyv=>trivial
theorem VR.clean(v:AVal)(u:Value)(h:VR m loc ok w v u):VR M loc ok' w (FP ids v) u:=by
 cases v with
 | one l=>exact VR1.clean hM hok (.one l) u h
 | agg ls=>exact VR1.clean hM hok (.agg ls) u h
 | tup vs=>
  obtain⟨us,e,hl,h⟩:=h
  refine⟨us,e,by rw[List.length_map];omega,λi x y hx hy=>?_⟩
  rw[List.getElem?_map] at hx
  obtain⟨z,hz,rfl⟩:=Option.map_eq_some_iff.1 hx
  exact VR1.clean hM hok z y (h i z y hz hy)
 | undef=>exact h
 | anyv=>trivial
end clean
theorem DZ{p:Nat->Bool}{q:Nat->Prop}(hq:∀ i,q i->p i=true)(l:Leaf)(h:idL q l):uO p l=l:=by
 cases l with
 | own i=>show(bif p i then Leaf.own i else .any)=_;rw[hq i h];rfl
 | ptr i o=>show(bif p i then Leaf.ptr i o else .any)=_;rw[hq i h];rfl
 | eptr i j o=>show(bif p i then Leaf.eptr i j o else .any)=_;rw[hq i h];rfl
 | psl i j o=>show(bif p i then Leaf.psl i j o else .any)=_;rw[hq i h];rfl
 | pptr i q f d j o=>show(bif p i then Leaf.pptr i q f d j o else .any)=_;rw[hq i h];rfl
 | vw i l hh=>show(bif p i then Leaf.vw i l hh else .any)=_;rw[hq i h];rfl
 | _=>rfl
theorem J9{p:Nat->Bool}{q:Nat->Prop}(hq:∀ i,q i->p i=true)(ls:List Leaf)(h:∀ l∈ls,idL q l):ls.map (uO p)=ls:=by
 induction ls with
 | nil=>rfl
 | cons l ls ih=>rw[List.map_cons,DZ hq l (h l (List.mem_cons_self ..)),ih λl hl=>h l (List.mem_cons_of_mem _ hl)]
section keptv
variable {ids:Nat->Bool} {M:Mem} {ok ok':Nat->Prop} {q:Nat->Prop} (hM:∀ i,M i=if ids i=true then xI ids (m i)else .none) (hok:∀ b,ok b->ok' b) (hq:∀ i,q i->ids i=true)
include hM hok hq
theorem VR1.kept(v:AVal)(u:Value)(hi:TL q v)(h:VR1 m loc ok w v u):VR1 M loc ok' w v u:=by
 cases v with
 | one l=>have:=LR.clean (ids:=ids) hM hok l u h;rwa [DZ hq l hi] at this
 | agg ls=>
  obtain⟨us,e,h⟩:=h
  have:=LRs.clean (ids:=ids) hM hok ls us h
  rw[J9 hq ls hi] at this
  exact⟨us,e,this⟩
 | tup vs=>exact h
 | undef=>exact h
 | anyv=>trivial
theorem VR.kept(v:AVal)(u:Value)(hi:idV q v)(h:VR m loc ok w v u):VR M loc ok' w v u:=by
 cases v with
 | tup vs=>
  obtain⟨us,e,hl,h⟩:=h
  exact⟨us,e,hl,λi x y hx hy=>VR1.kept hM hok hq x y (hi x (List.mem_of_getElem? hx)) (h i x y hx hy)⟩
 | one l=>exact VR1.kept hM hok hq (.one l) u hi h
 | agg ls=>exact VR1.kept hM hok hq (.agg ls) u hi h
 | undef=>exact h
 | anyv=>trivial
end keptv
theorem yR{p:Nat->Bool}{temps:List Nat}(hp:∀ i,lV N.lo i->p i=true){s:St}(R:Rel n0 ab rb w0 N s.t s.m a w loc ow):Rel n0 ab rb w0 N (pA p temps s).t (pA p temps s).m a w loc ow:=by
 have hM:∀ i,(pA p temps s).m i=if p i=true then xI p (s.m i)else .none:=λi=>DG p (xI p) rfl i s.mem
 have ht:∀ i,(pA p temps s).t i=if i∈temps then FP p (s.t i)else .anyv:=λi=>w3 (λi=>FP p (s.t i)) i temps
 have hmut:∀ j,dU ((pA p temps s).m j)=true->dU (s.m j)=true:=by
  intro j h
  rw[hM] at h
  split at h
  ·rw[HX] at h;omega
  ·cases h
 have hpin:∀ j,fM ((pA p temps s).m j)=true->fM (s.m j)=true/\(pA p temps s).m j=s.m j:=by
  intro j h
  rw[hM] at h ⊢
  split at h
  ·rename_i hj
   rw[if_pos hj]
   cases he:s.m j with
   | pin ks xs=>exact⟨rfl,rfl⟩
   | none=>rw[he] at h;cases h
   | dead=>rw[he] at h;cases h
   | var ls=>rw[he] at h;cases h
   | arr ks xs d o=>rw[he] at h;cases h
  ·cases h
 have hok:∀ b,Ok n0 ab s.m loc w b->Ok n0 ab (pA p temps s).m loc w b:=λb hb=>⟨hb.1,fun⟨j,h1,h2⟩=>hb.2.1 ⟨j,hmut j h1,h2⟩,hb.2.2⟩
 refine⟨R.defers,R.size,R.hn0,R.keep,R.hab,λi=>?_,λid=>?_,R.owlt,λid b h1 h2=>R.mutrb id b (hmut id h1) h2,R.free,λq hq=>by
   obtain⟨p1,⟨ls,p2⟩,p3⟩:=R.pin q hq
   have hin:p q.1=true:=hp _ p1
   exact⟨p1,⟨_,by rw[hM,if_pos hin,p2];rfl⟩,p3⟩,λq hq=>by
   obtain⟨p1,⟨xs,p2⟩,p3⟩:=R.opin q hq
   have hin:p q.1=true:=hp _ p1.1
   exact⟨p1,⟨xs,by rw[hM,if_pos hin,p2];rfl⟩,p3⟩,λq hq i=>⟨(R.held q hq i).1,VR.kept hM hok hp _ _ (R.held q hq i).1 (R.held q hq i).2⟩,λid hid h b hb=>R.npin id hid (hpin id h).1 b hb,λid hid h=>by
   rw[(hpin id h).2];exact R.pcap id hid (hpin id h).1,R.szk⟩
 ·rw[ht]
  split
  ·exact VR.clean hM hok _ _ (R.temps i)
  ·trivial
 ·have hE:=R.ents id
  unfold EntR at hE ⊢
  rw[hM]
  by_cases hin:p id=true
  ·rw[if_pos hin]
   cases he:s.m id with
   | none=>trivial
   | dead=>trivial
   | var ls=>
    rw[he] at hE
    obtain⟨b,cs,T,fz,h1,h2,h3,h4,h5⟩:=hE
    exact⟨b,cs,T,fz,h1,h2,h3,LRs.clean hM hok ls _ h4,h5⟩
   | pin ks xs=>rw[he] at hE;exact hE
   | arr ks xs d o=>
    rw[he] at hE
    obtain⟨bss,h1,h2,h3,h4⟩:=hE
    exact⟨bss,h1,λbb hbb b hb=>hok b (h2 bb hbb b hb),λb hb=>⟨(h3 b hb).1,(h3 b hb).2.1,(h3 b hb).2.2.1,λho=>hok b ((h3 b hb).2.2.2 ho)⟩,h4⟩
  simp_all
theorem D2{lo i:Nat}(h:lV lo i):(Nat.blt i lo||Nat.ble (lo+100000) i)=true:=by
 rcases h with h | h
 ·rw[show Nat.blt i lo=true from Nat.blt_eq▸h];rfl
 simp_all
theorem JM{n:Norm}{s:St}(R:Rel n0 ab rb w0 N s.t s.m a w loc ow):Rel n0 ab rb w0 N (Abs.keep N.lo n s).t (Abs.keep N.lo n s).m a w loc ow:=
 by rw[VC,VB];exact yR (λi h=>by unfold inK;rw[D2 h];simp) R
theorem II{n:Norm}{s:St}(R:Rel n0 ab rb w0 N s.t s.m a w loc ow):Rel n0 ab rb w0 N (UR N.lo n s).t (UR N.lo n s).m a w loc ow:=
 yR (λi h=>by unfold UK;rw[D2 h];rfl) R
/-- A row that is no more told as deep. -/
theorem Rel.shallow(R:Rel n0 ab rb w0 N t m a w loc ow){id:Nat}{ks:List Kd}{xs:List (Row ks)}{d o:Bool}(hm:m id= .arr ks xs d o):
  Rel n0 ab rb w0 N t (cD m id (.arr ks xs false o)) a w loc ow:=by
 have hmut:∀ j,dU (cD m id (.arr ks xs false o) j)=dU (m j):=by
  intro j
  by_cases e:j=id
  ·subst e;rw[aX,hm];rfl
  ·rw[a9 _ _ e]
 have h1:∀ b,Ok n0 ab m loc w b->Ok n0 ab (cD m id (.arr ks xs false o)) loc w b/\w.heap[b]? =w.heap[b]? :=
  λb hb=>⟨⟨hb.1,fun⟨j,h1,h2⟩=>hb.2.1 ⟨j,by rw[<- hmut];omega,h2⟩,hb.2.2⟩,rfl⟩
 refine R.update R.keep (Nat.le_refl _) h1 (λj=>?_) (λj=>?_) R.owlt (λj b hj hb=>R.mutrb j b (by rw[<- hmut];omega) hb) (λb _ _=> .inl rfl) (λj _ h=> .inl ⟨AX rfl j h,rfl⟩) (λj h1 h2=>oQ (by rw[hm];rfl) j h1 h2) (λb _=>SizeLe.same rfl)
 ·by_cases e:j=id
  ·subst e;rw[aX,hm];exact .inr ⟨⟨xs,false,o,rfl,rfl⟩,rfl⟩
  ·rw[a9 _ _ e];exact Goes.refl _ _
 ·by_cases e:j=id
  ·subst e
   left
   have h:=R.ents j
   unfold EntR at h ⊢
   rw[hm] at h
   rw[aX]
   grind
  ·exact .inr ⟨a9 _ _ e,rfl,λ_ _ _=>rfl,λ_ _ h=>h⟩
/-- A pinned row under another name. -/
theorem Rel.repin(R:Rel n0 ab rb w0 N t m a w loc ow){id nid:Nat}{ks:List Kd}{xs:List (Row ks)}(hm:m id= .pin ks xs)(hn:m nid= .none)(hid:tQ id)(hf:tQ nid):
  ∃ loc' ow',Rel n0 ab rb w0 N t (cD (cD m id .dead) nid (.pin ks xs)) a w loc' ow'/\loc'=kO loc nid (loc id):=by
 have hE:=R.ents id
 unfold EntR at hE
 rw[hm] at hE
 obtain⟨hv,hd,bl,hl,hp,hw⟩:=hE
 have hne:id≠nid:=λe=>by rw[e,hn] at hm;grind
 generalize hM:cD (cD m id .dead) nid (.pin ks xs)=M
 have hMn:M nid= .pin ks xs:=by rw[<- hM,aX]
 have hMi:M id= .dead:=by rw[<- hM,a9 _ _ hne,aX]
 have hMo:∀ j,j≠id->j≠nid->M j=m j:=λj e1 e2=>by rw[<- hM,a9 _ _ e2,a9 _ _ e1]
 refine⟨kO loc nid (loc id),λb=>if ow b=some id then some nid else ow b,?_,rfl⟩
 have hmut:∀ j b,dU (M j)=true->(kO loc nid (loc id) j).has b->(j=nid/\(loc id).has b)\/(j≠nid/\j≠id/\dU (m j)=true/\(loc j).has b):=by
  intro j b k1 k2
  by_cases e:j=nid
  ·subst e;rw[bL] at k2;simp_all
  ·rw[cK _ _ e] at k2
   by_cases e2:j=id
   ·subst e2;rw[hMi] at k1;cases k1
   simp_all
 have g1:∀ b,Ok n0 ab m loc w b->Ok n0 ab M (kO loc nid (loc id)) w b/\w.heap[b]? =w.heap[b]? :=by
  intro b hb
  refine⟨⟨hb.1,fun⟨j,k1,k2⟩=>?_,hb.2.2⟩,rfl⟩
  rcases hmut j b k1 k2 with ⟨_,k3⟩ | ⟨_,_,k3,k4⟩
  ·exact hb.2.1 ⟨id,by rw[hm];rfl,k3⟩
  ·exact hb.2.1 ⟨j,k3,k4⟩
 have g2:∀ j,Goes (m j) (M j) (loc j) (kO loc nid (loc id) j):=by
  intro j
  by_cases e:j=nid
  ·subst e;rw[hn];trivial
  ·rw[cK _ _ e]
   by_cases e2:j=id
   ·subst e2;rw[hm,hMi];exact .inl rfl
   ·rw[hMo j e2 e];exact Goes.refl _ _
 refine R.update R.keep (Nat.le_refl _) g1 g2 (λj=>?_) (λb j hj=>?_) (λj b hj hb=>?_) (λb _ _=> .inl rfl) (λj hj h=>?_) (λj h3 h4=>?_) (λb _=>SizeLe.same rfl)
 ·by_cases e:j=nid
  ·subst e
   left
   unfold EntR
   rw[hMn,bL,hl]
   grind
  ·by_cases e2:j=id
   ·subst e2;left;unfold EntR;rw[hMi];simp
   ·refine .inr ⟨hMo j e2 e,cK _ _ e,λ_ _ _=>rfl,λ_ b hb=>?_⟩
    simp_all
 ·by_cases e:ow b=some id
  ·exact R.owlt b id e
  ·rw[if_neg e] at hj;exact R.owlt b j hj
 ·rcases hmut j b hj hb with ⟨_,k⟩ | ⟨_,_,k1,k2⟩
  ·exact R.mutrb id b (by rw[hm];rfl) k
  ·exact R.mutrb j b k1 k2
 ·by_cases e:j=nid
  ·subst e
   right
   rw[bL,hMn]
   have h1:=R.npin id hid (by rw[hm];rfl)
   have h2:=R.pcap id hid (by rw[hm];rfl)
   rw[hm] at h2
   simp_all
  ·by_cases e2:j=id
   ·subst e2;rw[hMi] at h;cases h
   ·rw[hMo j e2 e] at h;exact .inl ⟨h,cK _ _ e⟩
 grind
/-- A leaf moved to a name of its own. -/
theorem m5{ti:Ti}{l l':Leaf}{nid ty:Nat}{s:St}{wr:List (Nat×Ent)}(h:sM ti l nid ty s=some (l',wr))(R:Rel n0 ab rb w0 N s.t s.m a w loc ow){u:Value}(hu:LR s.m loc (Ok n0 ab s.m loc w) w l u):
  ∃ loc' ow',Rel n0 ab rb w0 N s.t (bQ s.m wr) a w loc' ow'/\LR (bQ s.m wr) loc' (Ok n0 ab (bQ s.m wr) loc' w) w l' u/\∀ j ls,s.m j= .var ls->bQ s.m wr j= .var ls/\loc' j=loc j:=by
 unfold sM at h
 cases hz:Nat.beq nid 0 with
 | true=>
  rw[hz] at h
  simp only[cond_true] at h
  split at h
  ·rename_i id
   split at h
   ·rename_i ks xs deep o hm
    cases h
    have hE:=R.ents id
    unfold EntR at hE
    rw[hm] at hE
    obtain⟨bss,h1,h2,h3,h4⟩:=hE
    simp only[LR] at hu
    rw[hm] at hu
    dsimp only at hu
    have hT:Took s.m [(id,.arr ks xs deep false)]:=λq hq=>by
     simp_all
    obtain⟨bs,hTR,hbs⟩:=n9 h1
    rw[<- hu] at hTR
    refine⟨loc,ow,R.close _ hT,⟨bs,hTR,λb hb=>?_⟩,λj ls hj=>⟨?_,rfl⟩⟩
    ·rcases hbs with ⟨rfl,_⟩ | ⟨b0,off,c,hl,rfl⟩
     ·grind
     ·rcases List.mem_cons.1 hb with rfl | hb
      ·exact Ok.took R hT (List.mem_singleton.2 rfl) (by rw[hl];rfl)
      ·obtain⟨bb,hbb,hb⟩:=List.mem_flatten.1 hb
       exact Ok.close hT (h2 bb hbb b hb)
    ·have h7:j≠id:=λe=>by rw[e,hm] at hj;grind
     show cD s.m id _ j=_
     rw[a9 _ _ h7];omega
   simp_all
  ·split at h
   ·rename_i i hi
    cases h
    have hu':u= .slice none 0 0:=hu
    subst hu'
    exact⟨loc,ow,R,⟨[],⟨none,0,rfl,Nat.le_refl _,.inl ⟨rfl,rfl⟩⟩,λb hb=>by grind⟩,λj ls hj=>⟨hj,rfl⟩⟩
   simp_all
  ·cases h
   exact⟨loc,ow,R,hu,λj ls hj=>⟨hj,rfl⟩⟩
  simp_all
 | false=>
  rw[hz] at h
  simp only[cond_false] at h
  cases h1:Nat.beq nid 1 with
  | true=>
   rw[h1] at h
   simp only[cond_true] at h
   split at h
   ·rename_i id
    split at h
    ·rename_i ks xs deep o hm
     cases h
     simp only[LR] at hu
     rw[hm] at hu
     dsimp only at hu
     refine⟨loc,ow,R.shallow hm,?_,λj ls hj=>⟨?_,rfl⟩⟩
     ·show LR (cD s.m id _) _ _ _ _ _
      simp only[LR,aX]
      omega
     ·have h7:j≠id:=λe=>by rw[e,hm] at hj;grind
      show cD s.m id _ j=_
      rw[a9 _ _ h7];omega
    simp_all
   ·cases h
    exact⟨loc,ow,R,hu,λj ls hj=>⟨hj,rfl⟩⟩
   ·cases h
    exact⟨loc,ow,R,hu,λj ls hj=>⟨hj,rfl⟩⟩
   simp_all
  | false=>
  rw[h1] at h
  simp only[cond_false] at h
  cases h2z:Nat.beq nid 2 with
  | true=>
   rw[h2z] at h
   simp only[cond_true] at h
   split at h
   ·rename_i id
    split at h
    ·rename_i ks xs deep o hm
     cases h
     have hE:=R.ents id
     unfold EntR at hE
     rw[hm] at hE
     obtain⟨bss,k1,_⟩:=hE
     simp only[LR] at hu
     rw[hm] at hu
     dsimp only at hu
     obtain⟨bs,hTR,_⟩:=n9 k1
     rw[<- hu] at hTR
     obtain⟨A,cap,e,_⟩:=hTR
     exact⟨loc,ow,R,⟨A,cap,e⟩,λj ls hj=>⟨hj,rfl⟩⟩
    simp_all
   ·cases h
    have hu':u= .slice none 0 0:=hu
    exact⟨loc,ow,R,⟨none,0,hu'⟩,λj ls hj=>⟨hj,rfl⟩⟩
   ·cases h
    exact⟨loc,ow,R,hu,λj ls hj=>⟨hj,rfl⟩⟩
   simp_all
  | false=>
  rw[h2z] at h
  simp only[cond_false] at h
  split at h
  ·rename_i id
   cases hb:Nat.beq id nid with
   | true=>
    rw[hb] at h;cases h
    have:=Nat.eq_of_beq_eq_true hb
    subst this
    exact⟨loc,ow,R,hu,λj ls hj=>⟨hj,rfl⟩⟩
   | false=>
    rw[hb] at h
    simp only[cond_false] at h
    split at h
    ·rename_i ks xs deep hm hn
     cases h
     have hE:=R.ents id
     unfold EntR at hE
     rw[hm] at hE
     obtain⟨bss,h1,h2,h3,h4⟩:=hE
     simp only[LR] at hu
     rw[hm] at hu
     dsimp only at hu
     obtain⟨loc',ow',R',e'⟩:=R.renew (some id) hn (λj hj=>by cases hj;exact⟨by rw[hm];rfl,ks,xs,deep,true,hm⟩) (w':=w) (λb _=>SizeLe.same rfl) R.keep (Nat.le_refl _) (λ_ _ _=>rfl)
      (l:=loc id) (λ_ _ _=>rfl) (λb hb=>⟨(h3 b hb).1,(h3 b hb).2.1,.inr ⟨id,rfl,hb⟩⟩) h1 h2 [] (λb hb=>by grind) (deep:=deep) (λhd=>by
       grind)
     rw[uY] at R'
     refine⟨loc',ow',R',?_,λj ls hj=>?_⟩
     ·show LR (cD (cD s.m id .dead) nid _) _ _ _ _ _
      simp only[LR,aX]
      rw[e',bL]
      omega
     ·have h6:j≠nid:=λe=>by rw[e,hn] at hj;grind
      have h7:j≠id:=λe=>by rw[e,hm] at hj;grind
      refine⟨?_,by rw[e',cK _ _ h6]⟩
      show cD (cD s.m id .dead) nid _ j=_
      rw[a9 _ _ h6,a9 _ _ h7];omega
    ·rename_i ks xs hm hn
     cases hfb:(wA id&&wA nid)with
     | false=>rw[hfb] at h;grind
     | true=>
     rw[hfb] at h
     cases h
     rw[Bool.and_eq_true] at hfb
     obtain⟨loc',ow',R',e'⟩:=R.repin hm hn (qS hfb.1) (qS hfb.2)
     simp only[LR] at hu
     rw[hm] at hu
     dsimp only at hu
     refine⟨loc',ow',R',?_,λj ls hj=>?_⟩
     ·show LR (cD (cD s.m id .dead) nid _) _ _ _ _ _
      simp only[LR,aX]
      rw[e',bL]
      omega
     ·have h6:j≠nid:=λe=>by rw[e,hn] at hj;grind
      have h7:j≠id:=λe=>by rw[e,hm] at hj;grind
      refine⟨?_,by rw[e',cK _ _ h6]⟩
      show cD (cD s.m id .dead) nid _ j=_
      rw[a9 _ _ h6,a9 _ _ h7];omega
    simp_all
  ·split at h
   ·rename_i i hi hn
    cases h
    have hu':u= .slice none 0 0:=hu
    subst hu'
    obtain⟨loc',ow',R',e'⟩:=R.renew none hn (λj hj=>by grind) (w':=w) (λb _=>SizeLe.same rfl) R.keep (Nat.le_refl _) (λ_ _ _=>rfl)
     (l:= .nil) (λ_ _ _=>rfl) (λb hb=>by cases hb) (ks:=i.kinds) (xs:=[]) (bss:=[]) ⟨rfl,rfl⟩ (λbb hbb=>by grind) [] (λb hb=>by grind) (deep:=true) (λhd=>⟨List.nodup_nil,λbb hbb=>by grind⟩)
    have e0:(λj=>if none=some j then Ent.dead else s.m j)=s.m:=by simp
    rw[e0] at R'
    refine⟨loc',ow',R',?_,λj ls hj=>?_⟩
    ·show LR (cD s.m nid _) _ _ _ _ _
     simp only[LR,aX]
     rw[e',bL]
     rfl
    ·have h6:j≠nid:=λe=>by rw[e,hn] at hj;grind
     refine⟨?_,by rw[e',cK _ _ h6]⟩
     show cD s.m nid _ j=_
     rw[a9 _ _ h6];omega
   simp_all
  simp_all
theorem LRs.setL{ok:Nat->Prop}{l':Leaf}:∀ (ls:List Leaf) (us:List Value) (c:Nat) (u:Value),LRs m loc ok w ls us->us[c]? =some u->LR m loc ok w l' u->LRs m loc ok w (Abs.setL ls c l') us
 | [],us,c,u,h,_,_=>h
 | l::ls,us,0,u,⟨x,us',e,h1,h2⟩,hu,hl=>by
  subst e
  simp at hu;subst hu
  exact⟨x,us',rfl,hl,h2⟩
 | l::ls,us,c+1,u,⟨x,us',e,h1,h2⟩,hu,hl=>by
  subst e
  exact⟨x,us',rfl,h1,LRs.setL ls us' c u h2 (by simp_all) hl⟩
theorem LRs.at{ok:Nat->Prop}:∀ (ls:List Leaf) (us:List Value) (c:Nat) (l:Leaf),LRs m loc ok w ls us->ls[c]? =some l->∃ u,us[c]? =some u/\LR m loc ok w l u
 | [],us,c,l,h,hl=>by simp_all
 | x::ls,us,0,l,⟨u,us',e,h1,h2⟩,hl=>by
  simp_all
 | x::ls,us,c+1,l,⟨u,us',e,h1,h2⟩,hl=>by
  subst e
  obtain⟨u',k1,k2⟩:=LRs.at ls us' c l h2 (by simp_all)
  simp_all
theorem LR.below{ok:Nat->Prop}{lo:Nat}(hn:∀ i,lo<=i->m i= .none):∀ (l:Leaf) (u:Value),LR m loc ok w l u->idL (lV lo) l
 | .v _ _,_,_=>trivial
 | .nil,_,_=>trivial
 | .any,_,_=>trivial
 | .hdr _,_,_=>trivial
 | .rptr _ _ _,_,_=>trivial
 | .own i,u,h=>by
  refine .inl (Nat.lt_of_not_le λhi=>?_)
  simp only[LR,hn i hi] at h
 | .ptr i o,u,h=>by
  refine .inl (Nat.lt_of_not_le λhi=>?_)
  simp only[LR,hn i hi] at h
 | .eptr i j o,u,h=>by
  refine .inl (Nat.lt_of_not_le λhi=>?_)
  simp only[LR,hn i hi] at h
 | .psl i j o,u,h=>by
  refine .inl (Nat.lt_of_not_le λhi=>?_)
  simp only[LR,hn i hi] at h
 | .pptr i q f d j o,u,h=>by
  refine .inl (Nat.lt_of_not_le λhi=>?_)
  simp only[LR,hn i hi] at h
 | .vw i l hh,u,h=>by
  refine .inl (Nat.lt_of_not_le λhi=>?_)
  simp only[LR,hn i hi] at h
theorem LRs.below{ok:Nat->Prop}{lo:Nat}(hn:∀ i,lo<=i->m i= .none):∀ (ls:List Leaf) (us:List Value),LRs m loc ok w ls us->∀ l∈ls,idL (lV lo) l
 | [],_,_,l,hl=>by grind
 | x::ls,us,⟨u,us',e,h1,h2⟩,l,hl=>by
  rcases List.mem_cons.1 hl with rfl | hl
  ·exact LR.below hn _ u h1
  ·exact LRs.below hn ls us' h2 l hl
theorem VR1.below{ok:Nat->Prop}{lo:Nat}(hn:∀ i,lo<=i->m i= .none)(v:AVal)(u:Value)(h:VR1 m loc ok w v u):TL (lV lo) v:=by
 cases v with
 | one l=>exact LR.below hn l u h
 | agg ls=>obtain⟨us,_,h⟩:=h;exact LRs.below hn ls us h
 | tup _=>trivial
 | undef=>trivial
 | anyv=>trivial
theorem VR.below{ok:Nat->Prop}{lo:Nat}(hn:∀ i,lo<=i->m i= .none)(v:AVal)(u:Value)(h:VR m loc ok w v u):idV (lV lo) v:=by
 cases v with
 | tup vs=>
  obtain⟨us,_,hl,h⟩:=h
  intro x hx
  obtain⟨i,hi,rfl⟩:=List.mem_iff_getElem.1 hx
  exact VR1.below hn _ _ (h i vs[i] us[i] (List.getElem?_eq_getElem hi) (List.getElem?_eq_getElem (by omega)))
 | one l=>exact VR1.below hn (.one l) u h
 | agg ls=>exact VR1.below hn (.agg ls) u h
 | undef=>trivial
 | anyv=>trivial
def RS(n0:Nat)(ab rb:Nat->Prop)(w0:World)(N:Fix)(s:St)(a:Act)(w:World):Prop:=∃ loc ow,Rel n0 ab rb w0 N s.t s.m a w loc ow
end
end Go.Abs
/- Code. -/
namespace Go.Abs
open Go
section
variable {n0:Nat} {ab rb:Nat->Prop} {w0:World} {N:Fix} {t:Nat->AVal} {m:Mem} {a:Act} {w:World} {loc:Nat->Loc} {ow:Nat->Option Nat}
theorem Rel.setVar(R:Rel n0 ab rb w0 N t m a w loc ow){v b:Nat}{ls ls':List Leaf}(hm:m v= .var ls)(hb:loc v= .at_ b 0 0)(h:∀ us,Whole w b us->LRs m loc (Ok n0 ab m loc w) w ls us->LRs m loc (Ok n0 ab m loc w) w ls' us):
  Rel n0 ab rb w0 N t (cD m v (.var ls')) a w loc ow:=by
 have hmut:∀ j,dU (cD m v (.var ls') j)=true->dU (m j)=true:=by
  intro j hj
  by_cases e:j=v
  ·subst e;rw[hm];rfl
  ·rw[a9 _ _ e] at hj;omega
 have h1:∀ b,Ok n0 ab m loc w b->Ok n0 ab (cD m v (.var ls')) loc w b/\w.heap[b]? =w.heap[b]? :=λb hb=>⟨⟨hb.1,fun⟨j,h1,h2⟩=>hb.2.1 ⟨j,hmut j h1,h2⟩,hb.2.2⟩,rfl⟩
 have h2:∀ j,Goes (m j) (cD m v (.var ls') j) (loc j) (loc j):=by
  intro j
  by_cases e:j=v
  ·subst e;rw[hm,aX];exact⟨⟨_,rfl⟩,rfl⟩
  ·rw[a9 _ _ e];exact Goes.refl _ _
 refine R.update R.keep (Nat.le_refl _) h1 h2 (λj=>?_) R.owlt (λj b hj hb=>R.mutrb j b (hmut j hj) hb) (λb _ _=> .inl rfl) (λj _ h=> .inl ⟨AX rfl j h,rfl⟩) (λj h1 h2=>oQ (by rw[hm];rfl) j h1 h2) (λb _=>SizeLe.same rfl)
 by_cases e:j=v
 ·subst e
  left
  have hE:=R.ents j
  unfold EntR at hE ⊢
  rw[hm] at hE
  rw[aX]
  obtain⟨b',cs,T,fz,k1,k2,k3,k4,k5⟩:=hE
  rw[hb] at k1;cases k1
  exact⟨b,cs,T,fz,hb,k2,k3,LRs.mono h1 h2 _ _ (h cs.toList ⟨cs,T,fz,k2,k3,rfl⟩ k4),k5⟩
 ·exact .inr ⟨a9 _ _ e,rfl,λ_ _ _=>rfl,λ_ _ h=>h⟩
theorem lR{ti:Ti}:∀ (ms:List (Option Nat×Nat×Nat×Nat)) (s s':St),moves ti ms s=some s'->RS n0 ab rb w0 N s a w->RS n0 ab rb w0 N s' a w
 | [],s,s',h,R=>by cases h;omega
 | (none,tt,nid,e)::r,s,s',h,⟨loc,ow,R⟩=>by
  unfold moves at h
  cases hb:Nat.ble 1000000 tt with
  | true=>
   rw[hb] at h
   simp only[cond_true] at h
   split at h
   ·rename_i ls hls
    obtain⟨l,hl,h⟩:=Option.bind_eq_some_iff.1 h
    obtain⟨⟨l',wr⟩,h1,h2⟩:=Option.bind_eq_some_iff.1 h
    have hv:=R.temps (tt % 1000000)
    rw[hls] at hv
    obtain⟨us,hus,hL⟩:=hv
    obtain⟨u,hu,hL1⟩:=LRs.at ls us _ l hL hl
    obtain⟨loc',ow',R',hL',_⟩:=m5 h1 R hL1
    refine lR r _ s' h2 ⟨loc',ow',?_⟩
    rw[C8,vU,wQ,wR]
    have hv':=R'.temps (tt % 1000000)
    rw[hls] at hv'
    obtain⟨us',hus',hL2⟩:=hv'
    have e:us'=us:=by
     rw[hus] at hus'
     simp_all
    subst e
    exact R'.retemp ⟨us',hus',LRs.setL ls us' _ u hL2 hu hL'⟩
   simp_all
  | false=>
  rw[hb] at h
  simp only[cond_false] at h
  split at h
  ·rename_i l hl
   obtain⟨⟨l',wr⟩,h1,h2⟩:=Option.bind_eq_some_iff.1 h
   have hv:=R.temps tt
   rw[hl] at hv
   obtain⟨loc',ow',R',hL,_⟩:=m5 h1 R hv
   refine lR r _ s' h2 ⟨loc',ow',?_⟩
   rw[C8,vU,wQ,wR]
   exact R'.retemp hL
  simp_all
 | (some v,c,nid,e)::r,s,s',h,⟨loc,ow,R⟩=>by
  unfold moves at h
  split at h
  ·rename_i ls hls
   obtain⟨l,hl,h⟩:=Option.bind_eq_some_iff.1 h
   obtain⟨⟨l',wr⟩,h1,h2⟩:=Option.bind_eq_some_iff.1 h
   have hE:=R.ents v
   unfold EntR at hE
   rw[hls] at hE
   obtain⟨b,cs,T,fz,k1,k2,k3,k4,k5⟩:=hE
   obtain⟨u,hu,hL⟩:=LRs.at ls cs.toList c l k4 hl
   obtain⟨loc',ow',R',hL',hout⟩:=m5 h1 R hL
   obtain⟨o1,o2⟩:=hout v ls hls
   refine lR r _ s' h2 ⟨loc',ow',?_⟩
   rw[wQ,wQ,wR,wR]
   refine R'.setVar o1 (o2.trans k1) λus hw hLs=>?_
   obtain⟨cs',T',fz',q1,q2,q3⟩:=hw
   rw[k2] at q1;cases q1
   rw[<- q3]
   rw[<- q3] at hLs
   exact LRs.setL ls cs.toList c u hLs hu hL'
  simp_all
theorem yP{ti:Ti}{lo:Nat}(hlo:lo=N.lo){n:Norm}{s s':St}(h:vZ ti lo n s=some s')(R:RS n0 ab rb w0 N s a w):RS n0 ab rb w0 N s' a w:=by
 subst hlo
 obtain⟨s1,h1,h2⟩:=Option.bind_eq_some_iff.1 h
 cases h2
 obtain⟨loc0,ow0,R0⟩:=R
 obtain⟨loc,ow,R1⟩:=lR _ _ _ h1 ⟨loc0,ow0,II R0⟩
 exact⟨loc,ow,JM R1⟩
theorem AZ{ti:Ti}{lo:Nat}(hlo:lo=N.lo){h:Hints}{c:Code}{s s':St}(hn:TD ti lo h c s=some s')(R:RS n0 ab rb w0 N s a w):RS n0 ab rb w0 N s' a w:=by
 unfold TD at hn
 split at hn
 ·exact yP hlo hn R
 simp_all
theorem Rel.drew(R:Rel n0 ab rb w0 N t m a w loc ow):Rel n0 ab rb w0 N t m a { w with drawn:=w.drawn+1 } loc ow:=by
 have h1:∀ b,Ok n0 ab m loc w b->Ok n0 ab m loc { w with drawn:=w.drawn+1 } b/\({ w with drawn:=w.drawn+1 }:World).heap[b]? =w.heap[b]? :=λb hb=>⟨hb,rfl⟩
 exact R.update ⟨R.keep.os,R.keep.tape,R.keep.output,R.keep.size,R.keep.block⟩ (Nat.le_refl _) h1 (λj=>Goes.refl _ _) (λj=> .inr ⟨rfl,rfl,λ_ _ _=>rfl,λ_ _ h=>h⟩) R.owlt R.mutrb (λb _ _=> .inl rfl) (λj _ h=> .inl ⟨h,rfl⟩) (λj h1 h2=>by rw[h1] at h2;grind) (λb _=>SizeLe.same rfl)
def WO:Ex->Exit
 | .normal=> .normal
 | .exit i=> .exit i
 | .ret=> .ret
variable {P:Program} {E:Env} {rts:Nat->Option (List Nat)} {J:nI}
/-- A call that is run in place does what it is said to do. -/
def D4(P:Program)(J:nI):Prop:=∀ (ρ:Type) (r:ρ) (g b:Nat) (h:Hints) (xs:List AVal) (s:St) (K:AVal->St->Option ρ),J ρ g b h xs s K=some r->
 ∀ (n0:Nat) (ab rb:Nat->Prop) (w0:World) (N:Fix) (a:Act) (w:World) (loc:Nat->Loc) (ow:Nat->Option Nat),Rel n0 ab rb w0 N s.t s.m a w loc ow->∀ vs:List Value,vs.length=xs.length->
  (∀ (i:Nat) (x:AVal) (v:Value),xs[i]? =some x->vs[i]? =some v->VR s.m loc (Ok n0 ab s.m loc w) w x v)->
  (∃ fn,P.funcs[g]? =some fn/\fn.name≠ "runtime.NumGoroutine" /\fn.body.isNone=false)/\(∀ i,b*32<=i->s.m i= .none)/\
   Calls P g vs.toArray w λen w'=>∃ v,en= .returned v/\∃ x s' loc' ow',K x s'=some r/\Rel n0 ab rb w0 N s'.t s'.m a w' loc' ow'/\VR s'.m loc' (Ok n0 ab s'.m loc' w') w' x v
/-- A state is set in order within a window that nothing fixed speaks of. -/
theorem NC{ti:Ti}{lo:Nat}{s0:St}{a0:Act}{wx:World}{loc0:Nat->Loc}{ow0:Nat->Option Nat}(R0:Rel n0 ab rb w0 N s0.t s0.m a0 wx loc0 ow0)(hb:∀ i,lo<=i->s0.m i= .none){n:Norm}{s s':St}(h:vZ ti lo n s=some s')(R:RS n0 ab rb w0 N s a w):RS n0 ab rb w0 N s' a w:=by
 have hlt:∀ i,s0.m i≠ .none->lV lo i:=λi hi=> .inl (Nat.lt_of_not_le λh=>hi (hb i h))
 have hp:∀ q∈N.pins,lV lo q.1:=λq hq=>by
  obtain⟨_,⟨ls,p2⟩,_⟩:=R0.pin q hq
  simp_all
 have ho:∀ q∈N.op,lV lo q.1:=λq hq=>by
  obtain⟨_,⟨zs,p2⟩,_⟩:=R0.opin q hq
  simp_all
 have hh:∀ q∈N.held,∀ i,idV (lV lo) (q.1 i):=λq hq i=>VR.below hb _ _ (R0.held q hq i).2
 have h2:RS n0 ab rb w0 { N with lo:=lo } s a w:=by
  obtain⟨loc,ow,R1⟩:=R
  exact⟨loc,ow,R1.defers,R1.size,R1.hn0,R1.keep,R1.hab,R1.temps,R1.ents,R1.owlt,R1.mutrb,R1.free,λq hq=>⟨hp q hq,(R1.pin q hq).2⟩,λq hq=>⟨⟨ho q hq,(R1.opin q hq).1.2⟩,(R1.opin q hq).2⟩,λq hq i=>⟨hh q hq i,(R1.held q hq i).2⟩,R1.npin,R1.pcap,R1.szk⟩
 obtain⟨loc,ow,R1⟩:=yP (N:={ N with lo:=lo }) rfl h h2
 exact⟨loc,ow,R1.defers,R1.size,R1.hn0,R1.keep,R1.hab,R1.temps,R1.ents,R1.owlt,R1.mutrb,R1.free,λq hq=>⟨(R0.pin q hq).1,(R1.pin q hq).2⟩,λq hq=>⟨(R0.opin q hq).1,(R1.opin q hq).2⟩,λq hq i=>⟨(R0.held q hq i).1,(R1.held q hq i).2⟩,R1.npin,R1.pcap,R1.szk⟩
theorem NW{s:St}{o:Oper}{g:Nat}{xs:List AVal}{b:Nat}{n:Norm}{h:Hints}(hi:QV E s o=some (g,xs,b,n,h)):
  o.guard=none/\∃ c f,o.op= .call c/\c.callee= .value f/\s.eval f= .one (.v .fn g)/\xs=c.args.toList.map s.eval:=by
 unfold QV at hi
 split at hi
 ·grind
 ·split at hi
  ·rename_i hg ho
   split at hi
   ·rename_i f hf
    split at hi
    ·rename_i g' hg'
     obtain⟨i,_,h2⟩:=Option.map_eq_some_iff.1 hi
     grind
    simp_all
   simp_all
  simp_all
theorem Rel.cut{t t':Nat->AVal}{m:Mem}{loc:Nat->Loc}{ow:Nat->Option Nat}{a:Act}{w:World}(R:Rel n0 ab rb w0 N t m a w loc ow)(h:∀ i,t' i=t i\/t' i= .anyv):Rel n0 ab rb w0 N t' m a w loc ow:=by
 have ht:∀ i,VR m loc (Ok n0 ab m loc w) w (t' i) (a.tmps.getD i undef):=λi=>by
  rcases h i with e | e
  ·rw[e];exact R.temps i
  ·rw[e];exact True.intro
 exact { R with temps:=ht }
theorem VH(temps:List Nat)(s:St)(i:Nat):(J7 temps s).t i=s.t i\/(J7 temps s).t i= .anyv:=by
 have h:(J7 temps s).t i=if i∈temps then s.t i else .anyv:=w3 s.t i temps
 rw[h]
 grind
theorem pV {ρ:Type} (HI:D4 P J) (hT:TOk P E.ti) (hD:9<=P.depth) (hC:∀ g as out,E.call g as=some out->lZ P E.ti rts E.fresh g as out) (hN:NOk E N) {ops:Array Oper} {K:St->Option ρ} {r:ρ} {Q:Exit->Act->World->Prop}
  (hK:∀ (s':St) a' w' loc' ow',K s'=some r->Rel n0 ab rb w0 N s'.t s'.m a' w' loc' ow'->Q .normal a' w'):
  ∀ (n i:Nat) (s:St) (a:Act) (w:World) (loc:Nat->Loc) (ow:Nat->Option Nat),i+n=ops.size->pX E rts J ops.toList (ops.toList.drop i) s K=some r->Rel n0 ab rb w0 N s.t s.m a w loc ow->wpOps P ops Q (List.range' i n) a w
 | 0,i,s,a,w,loc,ow,hi,h,R=>by
  have:ops.toList.drop i=[]:=by simp_all
  rw[this] at h
  exact hK s a w loc ow h R
 | n+1,i,s,a,w,loc,ow,hi,h,R=>by
  have hlt:i<ops.size:=by omega
  have hlt':i<ops.toList.length:=by omega
  rw[List.drop_eq_getElem_cons hlt'] at h
  unfold pX at h
  rw[List.range'_succ,wpOps_cons]
  have hi':ops[i]? =some ops.toList[i]:=by simp
  split at h
  ·obtain⟨hd,v,wr,tr,s',h1,h2,h3,h4⟩:=AB h
   refine h1.wp hT hD hC hN R hi' hd λa' w' loc' ow' R'=>?_
   rw[<- h2,<- h3] at R'
   exact pV HI hT hD hC hN hK n (i+1) s' a' w' loc' ow' (by omega) h4 R'
  ·rename_i g xs b nm hh hat
   cases hd:y2 E ops.toList[i] with
   | false=>rw[hd] at h;grind
   | true=>
   rw[hd] at h
   simp only[cond_true] at h
   have hdN:∀ d,(ops.toList[i]).dst=some d->d<N.n:=λd e=>by
    unfold y2 at hd;rw[e] at hd
    exact Nat.lt_of_lt_of_le (Nat.blt_eq▸hd) hN.n
   obtain⟨hg,c,f,ho,hf,hv,hxs⟩:=NW hat
   have hvf:=R.eval f
   rw[<- St.eval_eq,hv] at hvf
   obtain⟨bs,⟨hu,_⟩,_⟩:=hvf
   subst hxs
   have R0:Rel n0 ab rb w0 N (J7 nm.temps s).t (J7 nm.temps s).m a w loc ow:=R.cut (VH nm.temps s)
   obtain⟨⟨fn,k1,k2,k3⟩,hbelow,hcall⟩:=HI ρ r g b hh _ (J7 nm.temps s) _ h n0 ab rb w0 N a w loc ow R0 (c.args.toList.map a.eval) (by simp) (λi x v hx hv=>by
    rw[List.getElem?_map] at hx hv
    cases hi:c.args.toList[i]? with
    | none=>rw[hi] at hx;grind
    | some p=>rw[hi] at hx hv;cases hx;cases hv;rw[St.eval_eq];exact R.eval p)
   have hrun:=AM (P:=P) (w:=w) (a:=a) g ho hf hu k1 k2 k3
   unfold wpOp
   rw[hi']
   dsimp only
   rw[GuardIs.wanted (run:=true) R (by unfold GuardIs;rw[hg]),if_pos rfl]
   refine .inl ?_
   unfold Oper.wp
   rw[hrun]
   refine Calls.mono hcall ?_
   rintro en w' ⟨v,rfl,x,s',loc',ow',hk,R',hx⟩
   obtain⟨s2,h3,h4⟩:=Option.bind_eq_some_iff.1 hk
   obtain⟨loc2,ow2,R2⟩:=NC R0 hbelow h3 ⟨loc',ow',by rw[C8,vU];exact R'.put hdN hx⟩
   exact pV HI hT hD hC hN hK n (i+1) s2 _ w' loc2 ow2 (by omega) h4 R2
theorem gP{ρ:Type}(HI:D4 P J)(hT:TOk P E.ti)(hD:9<=P.depth)(hM:P.follows .mixedOrders=true)(hC:∀ g as out,E.call g as=some out->lZ P E.ti rts E.fresh g as out)(hN:NOk E N)(aA:Nat)(r:ρ):
  ∀ (c:Code) (s:St) (K:Ex->St->Option ρ) (Q:Exit->Act->World->Prop) (a:Act) (w:World),kG E rts J aA c s K=some r->RS n0 ab rb w0 N s a w->
   (∀ ex s' a' w',K ex s'=some r->RS n0 ab rb w0 N s' a' w'->Q (WO ex) a' w')->c.wp P Q a w
 | .skip,s,K,Q,a,w,h,R,hQ=>wp_skip (hQ .normal s a w h R)
 | .region id ops draw,s,K,Q,a,w,h,hR,hQ=>by
  unfold kG at h
  obtain⟨s1,hs1,h1⟩:=Option.bind_eq_some_iff.1 h
  replace h:=h1
  clear h1
  have hR1:RS n0 ab rb w0 N s1 a w:=by
   unfold pre at hs1
   split at hs1
   ·exact lR _ _ _ hs1 hR
   simp_all
  clear hs1 hR
  revert s1
  intro s h ⟨loc,ow,R⟩
  cases draw with
  | false=>
   simp only[cond_false] at h
   refine wp_region ?_
   rw[List.range_eq_range']
   exact pV HI hT hD hC hN (Q:=Q) (r:=r) (λs' a' w' loc' ow' hk R'=>hQ .normal s' a' w' hk ⟨loc',ow',R'⟩) ops.size 0 s a w loc ow (by omega) h R
  | true=>
   simp only[cond_true] at h
   refine wp_region_any hM ?_
   obtain⟨fx,s',a1,a2,a3,a4,a5⟩:=yE _ 0 s [] h
   simp only[List.reverse_nil,List.nil_append] at a2
   cases hok:E5 ops.toList (fx.map λf=>(f.tr.reverse,f.wr))with
   | false=>rw[hok] at a2;grind
   | true=>
   rw[hok] at a2
   simp only[cond_true] at a2
   have hlen:fx.length=ops.size:=by omega
   have hbl:(fP ops.toList []).length=ops.size:=by rw[L2];simp
   have hzip:∀ (k:Nat) (o:Oper) (f:Fx) (bs:List Nat),ops[k]? =some o->fx[k]? =some f->(fP ops.toList [])[k]? =some bs->
     (ops.toList.zip ((fx.map λf=>(f.tr.reverse,f.wr)).zip (fP ops.toList [])))[k]? =some (o,(f.tr.reverse,f.wr),bs):=by
    intro k o f bs h1 h2 h3
    rw[List.getElem?_zip_eq_some,List.getElem?_zip_eq_some]
    simp_all
   have hinv:=yO _ 0 [] rfl hok
   have hat:∀ k,k<ops.size->∃ (f:Fx) (bs:List Nat),fx[k]? =some f/\(fP ops.toList [])[k]? =some bs:=λk hk=>
    ⟨_,_,List.getElem?_eq_getElem (show k<fx.length by omega),List.getElem?_eq_getElem (show k<(fP ops.toList []).length by omega)⟩
   refine HV hT hD hC hN (fx:=fx) (t0:=s.t) (m0:=s.m) (n0:=n0) (ab:=ab) (rb:=rb) (w0:=w0) hlen (λk o f ho hf=>?_) hbl (λk bs x hk hx=>?_) (λk o ho e he hb=>?_) (λi k o o' f f' bs hik hi hk hfi hfk hbk=>?_) (λa w loc ow R'=>?_)
    ops.size _ a _ loc ow (by simp) ?_ ?_ ?_
   ·grind
   ·have:=L1 ops.toList [] k bs x (by simp_all) hx
    simp_all
   ·grind
   ·grind
   ·rw[<- a3,<- a4] at R'
    exact hQ .normal s' a w a2 ⟨loc,ow,R'⟩
   ·grind
   ·intro k bs x _ hk _
    by_cases hlt:k<ops.size<;>simp[hlt] at hk
   ·rw[EI _ _ _ λi=>?_,FE _ _ _ λi=>?_]
    ·exact R.drew
    ·by_cases hlt:i<ops.size<;>simp[hlt]
    ·by_cases hlt:i<ops.size<;>simp[hlt]
 | .seq x y,s,K,Q,a,w,h,R,hQ=>by
  unfold kG at h
  refine wp_seq (gP HI hT hD hM hC hN aA r x s _ _ a w h R λex s' a' w' hk R'=>?_)
  cases ex with
  | normal=>exact gP HI hT hD hM hC hN aA r y s' K Q a' w' hk R' hQ
  | exit i=>exact hQ (.exit i) s' a' w' hk R'
  | ret=>exact hQ .ret s' a' w' hk R'
 | .cond c x y,s,K,Q,a,w,h,⟨loc,ow,R⟩,hQ=>by
  unfold kG at h
  have hv:=R.eval c
  rw[<- St.eval_eq] at hv
  split at h
  ·rename_i b hb
   rw[hb] at hv
   have hv':=VR.bool hv
   cases b with
   | true=>exact wp_cond_true hv' (gP HI hT hD hM hC hN aA r x s K Q a w h ⟨loc,ow,R⟩ hQ)
   | false=>exact wp_cond_false hv' (gP HI hT hD hM hC hN aA r y s K Q a w h ⟨loc,ow,R⟩ hQ)
  simp_all
 | .block id c,s,K,Q,a,w,h,R,hQ=>by
  unfold kG at h
  refine wp_block (gP HI hT hD hM hC hN aA r c s _ _ a w h R λex s' a' w' hk R'=>?_)
  cases ex with
  | normal=>exact hQ .normal s' a' w' hk R'
  | exit i=>
   show if i=id then Q .normal a' w' else Q (.exit i) a' w'
   have hk:(bif Nat.beq i id then K .normal s' else K (.exit i) s')=some r:=hk
   by_cases e:i=id
   ·subst e
    rw[Nat.beq_refl] at hk
    rw[if_pos rfl]
    exact hQ .normal s' a' w' hk R'
   ·rw[kJ e] at hk
    rw[if_neg e]
    exact hQ (.exit i) s' a' w' hk R'
  | ret=>exact hQ .ret s' a' w' hk R'
 | .loop c,s,K,Q,a,w,h,R,hQ=>by
  unfold kG at h
  obtain⟨s1,h1,h2⟩:=Option.bind_eq_some_iff.1 h
  refine wp_loop_rounds aA ?_
  have key:∀ n s a w,rounds (λs rec=>kG E rts J aA c s (tU E c rec K)) n s=some r->RS n0 ab rb w0 N s a w->Code.rounds P c Q n a w:=by
   intro n
   induction n with
   | zero=>intro s a w h;cases h
   | succ n ih=>
    intro s a w h R
    rw[rounds_succ]
    refine gP HI hT hD hM hC hN aA r c s _ _ a w h R λex s' a' w' hk R'=>?_
    cases ex with
    | normal=>
     obtain⟨s2,h3,h4⟩:=Option.bind_eq_some_iff.1 hk
     exact ih s2 a' w' h4 (AZ hN.lo h3 R')
    | exit i=>exact hQ (.exit i) s' a' w' hk R'
    | ret=>exact hQ .ret s' a' w' hk R'
  exact key aA s1 a w h2 (AZ hN.lo h1 R)
 | .exit id,s,K,Q,a,w,h,R,hQ=>wp_exit (hQ (.exit id) s a w h R)
 | .ret,s,K,Q,a,w,h,R,hQ=>wp_ret (hQ .ret s a w h R)
 | .rangeFunc ..,_,_,_,_,_,h,_,_=>by cases h
 | .scope ..,_,_,_,_,_,h,_,_=>by cases h
 | .label ..,_,_,_,_,_,h,_,_=>by cases h
 | .goto ..,_,_,_,_,_,h,_,_=>by cases h
 | .refuse ..,_,_,_,_,_,h,_,_=>by cases h
end
end Go.Abs
/- A function's end. -/
namespace Go.Abs
open Go
section
variable {P:Program} {E:Env}
variable {n0:Nat} {ab rb:Nat->Prop} {w0:World} {N:Fix} {t:Nat->AVal} {m:Mem} {a:Act} {w:World} {loc:Nat->Loc} {ow:Nat->Option Nat}
structure MadeF (n0:Nat) (ok:Nat->Prop) (m:Mem) (loc:Nat->Loc) (ow:Nat->Option Nat) (wr:List (Nat×Ent)) (ts ins:List Nat):Prop where
 took:Took m wr
 tops:∀ b∈ts,∃ q∈wr,dU (m q.1)=true/\(loc q.1).has b
 inn:∀ b∈ins,n0<=b/\ok b/\∃ q∈wr,ow b=some q.1
 nd1:ts.Nodup
 nd2:ins.Nodup
theorem MadeF.nil{ok:Nat->Prop}:MadeF n0 ok m loc ow [] [] []:=⟨(λq hq=>by grind),(λb hb=>by grind),(λb hb=>by grind),List.nodup_nil,List.nodup_nil⟩
theorem MadeF.append(R:Rel n0 ab rb w0 N t m a w loc ow){ok:Nat->Prop}{wr wr':List (Nat×Ent)}{ts ts' ins ins':List Nat}(h:MadeF n0 ok m loc ow wr ts ins)(h':MadeF n0 ok m loc ow wr' ts' ins')(hd:xG wr wr'=true):
  MadeF n0 ok m loc ow (wr++wr') (ts++ts') (ins++ins'):=by
 rw[wD] at hd
 refine⟨λq hq=>?_,λb hb=>?_,λb hb=>?_,List.nodup_append.2 ⟨h.nd1,h'.nd1,λx hx y hy e=>?_⟩,List.nodup_append.2 ⟨h.nd2,h'.nd2,λx hx y hy e=>?_⟩⟩
 ·rcases List.mem_append.1 hq with hq | hq
  ·exact h.took q hq
  ·exact h'.took q hq
 ·rcases List.mem_append.1 hb with hb | hb
  ·obtain⟨q,hq,e⟩:=h.tops b hb;grind
  ·obtain⟨q,hq,e⟩:=h'.tops b hb;grind
 ·rcases List.mem_append.1 hb with hb | hb
  ·obtain⟨p1,p2,q,hq,e⟩:=h.inn b hb;grind
  ·obtain⟨p1,p2,q,hq,e⟩:=h'.inn b hb;grind
 ·subst e
  obtain⟨q,hq,e1,e2⟩:=h.tops x hx
  obtain⟨q',hq',e3,e4⟩:=h'.tops x hy
  have o1:=(R.owner e1 e2).1
  have o2:=(R.owner e3 e4).1
  rw[o1] at o2
  grind
 ·subst e
  obtain⟨_,_,q,hq,e1⟩:=h.inn x hx
  obtain⟨_,_,q',hq',e2⟩:=h'.inn x hy
  rw[e1] at e2
  grind
theorem Rel.leafFresh (R:Rel n0 ab rb w0 N t m a w loc ow) {k:Kd} {l:Leaf} {x:k.T} {wr:List (Nat×Ent)} {tr:List Nat} (h:Does m (Abs.leafAt k l) (x,wr,true) tr) {u:Value}
  (hu:LR m loc (Ok n0 ab m loc w) w l u):∃ ts ins,(∀ (ks:List Kd) (r:Row ks) (us:List Value) (ts' ins':List Nat),FR w ks r us ts' ins'->FR w (k::ks) (x,r) (u::us) (ts++ts') (ins++ins'))/\MadeF n0 (Ok n0 ab m loc w) m loc ow wr ts ins:=by
 unfold Abs.leafAt at h
 split at h
 ·rename_i k' y
  obtain⟨z,hz,h⟩:=h
  obtain⟨e,_⟩:=h
  unfold kR at hz
  split at hz
  case isFalse=>grind
  rename_i hk
  subst hk
  cases hz
  obtain⟨bs,hTR,hb⟩:=hu
  cases k' with
  | sl ks=>grind
  | int k=>
   cases e
   exact⟨[],[],λks r us ts' ins' hr=>⟨u,us,rfl,⟨hTR.1,rfl⟩,hr⟩,MadeF.nil⟩
  | bool=>
   cases e
   exact⟨[],[],λks r us ts' ins' hr=>⟨u,us,rfl,⟨hTR.1,rfl⟩,hr⟩,MadeF.nil⟩
  | str=>
   cases e
   exact⟨[],[],λks r us ts' ins' hr=>⟨u,us,rfl,⟨hTR.1,rfl⟩,hr⟩,MadeF.nil⟩
  | fn=>
   cases e
   exact⟨[],[],λks r us ts' ins' hr=>⟨u,us,rfl,⟨hTR.1,rfl⟩,hr⟩,MadeF.nil⟩
 ·split at h
  ·rename_i ks
   obtain⟨e,_⟩:=h
   cases e
   have:u= .slice none 0 0:=hu
   subst this
   exact⟨[],[],λks' r us ts' ins' hr=>⟨.nil,[],us,ts',ins',rfl,⟨rfl,rfl⟩,rfl,rfl,hr⟩,MadeF.nil⟩
  ·exact h.elim
 ·rename_i id
  split at h
  ·rename_i ks
   obtain⟨tr',_,h'⟩:=h;replace h:=h';clear h'
   have hE:=R.ents id
   simp only[LR] at hu
   unfold EntR at hE
   cases hm:m id with
   | arr ks' xs d o'=>
    rw[hm] at hE h hu
    dsimp only at hu h
    obtain⟨y,hy,h'⟩:=h;replace h:=h';clear h'
    obtain⟨e,_⟩:=h
    unfold kR at hy
    split at hy
    case isFalse=>grind
    rename_i hk
    cases hk
    cases hy
    injection e with e1 e2
    injection e2 with e2 e3
    subst e1 e2
    have e3':=e3.symm
    simp only[Bool.and_eq_true] at e3'
    obtain⟨rfl,rfl⟩:=e3'
    obtain⟨bss,hown,hok,hblk,hdeep⟩:=hE
    obtain⟨d1,d2,d3⟩:=hdeep rfl rfl
    subst hu
    refine⟨(loc id).blk.toList,List.flatten bss,λks' r us ts' ins' hr=>⟨loc id,bss,us,ts',ins',rfl,hown,rfl,rfl,hr⟩,⟨λq hq=>?_,λb hb=>?_,λb hb=>?_,?_,d2⟩⟩
    ·grind
    ·exact⟨_,List.mem_singleton.2 rfl,by rw[hm];rfl,(hown.blk b).2 (by simp_all)⟩
    ·obtain⟨bb,hbb,hb⟩:=List.mem_flatten.1 hb
     exact⟨(d1 bb hbb b hb).2,hok bb hbb b hb,_,List.mem_singleton.2 rfl,(d1 bb hbb b hb).1⟩
    grind
   | _=>rw[hm] at h;exact h.elim
  ·exact h.elim
 ·exact h.elim
theorem Rel.rowFresh(R:Rel n0 ab rb w0 N t m a w loc ow):∀ (ks:List Kd) (ls:List Leaf) (x:Row ks) (wr:List (Nat×Ent)) (tr:List Nat),Does m (Abs.rowAt ks ls) (x,wr,true) tr->
  ∀ us,LRs m loc (Ok n0 ab m loc w) w ls us->∃ ts ins,FR w ks x us ts ins/\MadeF n0 (Ok n0 ab m loc w) m loc ow wr ts ins
 | [],[],x,wr,tr,h,us,hu=>by
  obtain⟨e,_⟩:=h;cases e
  exact⟨[],[],⟨hu,rfl,rfl⟩,MadeF.nil⟩
 | k::ks,l::ls,x,wr,tr,h,us,⟨u,us',e,hl,hs⟩=>by
  unfold Abs.rowAt at h
  obtain⟨⟨y,w1,p1⟩,t1,t2,_,h1,h2⟩:=Does.bind _ _ h
  obtain⟨⟨r,w2,p2⟩,t3,t4,_,h3,h4⟩:=Does.bind _ _ h2
  obtain⟨e4,_⟩:=h4
  injection e4 with e5 e6
  injection e6 with e6 e7
  have e7':=e7.symm
  simp only[Bool.and_eq_true] at e7'
  obtain⟨⟨rfl,rfl⟩,hd⟩:=e7'
  subst e5 e6 e
  obtain⟨ts1,ins1,q1,m1⟩:=R.leafFresh h1 hl
  obtain⟨ts2,ins2,q2,m2⟩:=Rel.rowFresh R ks ls r w2 t3 h3 us' hs
  exact⟨ts1++ts2,ins1++ins2,q1 ks r us' ts2 ins2 q2,MadeF.append R m1 m2 hd⟩
 | [],_::_,_,_,_,h,_,_=>h.elim
 | _::_,[],_,_,_,h,_,_=>h.elim
/-- What a result's place yields. -/
def uD(tmps:Array Value):ResultVar->Sem Value
 | .tmp t=>pure (tmps.getD t undef)
 | .cell a t=>do loadVar t (<- asAddr (tmps.getD a undef))
theorem sB{fn:Func}{tmps:Array Value}{vs:List Value}(h:(fn.results.toList.mapM (uD tmps)).run P w= .ok vs w):(results fn tmps).run P w= .ok (rS vs) w:=by
 unfold results
 have key:∀ f:ResultVar->Sem Value,(∀ x,f x=uD tmps x)->(fn.results.mapM f).run P w= .ok vs.toArray w:=by
  intro f hf
  have:f=uD tmps:=funext hf
  subst this
  rw[Array.mapM_eq_mapM_toList]
  simp_all
 rw[Sem.run_bind,key _ (λx=>by cases x<;>rfl)]
 match vs with
 | []=>rfl
 | [v]=>rfl
 | v::v'::r=>rfl
theorem A9{f:ResultVar->Sem Value}{r:ResultVar}{rs:List ResultVar}{v:Value}{vs:List Value}(h1:(f r).run P w= .ok v w)(h2:(rs.mapM f).run P w= .ok vs w):((r::rs).mapM f).run P w= .ok (v::vs) w:=by
 rw[List.mapM_cons]
 simp_all
theorem sC(hT:TOk P E.ti){s:St}(R:Rel n0 ab rb w0 N s.t m a w loc ow){r:ResultVar}{v:AVal}{tr:List Nat}(h:Does m (AO E s r) v tr):∃ u,(uD a.tmps r).run P w= .ok u w/\VR m loc (Ok n0 ab m loc w) w v u:=by
 cases r with
 | tmp t=>
  obtain⟨rfl,_⟩:=h
  exact⟨a.tmps.getD t undef,by rfl,R.temps t⟩
 | cell c t=>
  simp only[AO] at h
  split at h
  ·rename_i id off hc
   split at h
   ·rename_i i hi
    obtain⟨e,t1,t2,_,h1,h2⟩:=Does.bind _ _ h
    obtain⟨rfl,_⟩:=h2
    have hq:Does m (ty E t λi=>DL i (cA s.t (.tmp c))) e t1:=by
     unfold ty
     rw[hi]
     show Does m (DL i (s.t c)) e t1
     rw[hc];omega
    obtain⟨u,k1,_,k3⟩:=PM hT R hq
    refine⟨u,?_,k3⟩
    have hv:=R.temps c
    rw[hc] at hv
    have hp:∃ p,a.tmps.getD c undef= .pointer (some p):=by
     simp only[VR,VR1,LR] at hv
     grind
    obtain⟨p,hp⟩:=hp
    have k1':(Instr.loadAt t (a.tmps.getD c undef)).run P w= .ok u w:=k1
    rw[hp] at k1'
    show((do loadVar t (<- asAddr (a.tmps.getD c undef)):Sem Value)).run P w= .ok u w
    rw[hp]
    simpa [Instr.loadAt,Instr.sureAddr,asAddr,Result.andThen] using k1'
   ·exact h.elim
  ·exact h.elim
theorem pY(hT:TOk P E.ti){s:St}(R:Rel n0 ab rb w0 N s.t m a w loc ow):∀ (rs:List ResultVar) (tys:List Nat) (xs:List CRow) (wr:List (Nat×Ent)) (p:Bool) (tr:List Nat),Does m (pZ E s rs tys) (xs,wr,p) tr->
  ∃ vs rt,(rs.mapM (uD a.tmps)).run P w= .ok vs w/\dI E tys=some rt/\(∃ ins,tA false w rt xs vs [] ins/\Made n0 (Ok n0 ab m loc w) m loc ow wr false ins)/\
   (p=true->∃ ts ins,tA true w rt xs vs ts ins/\MadeF n0 (Ok n0 ab m loc w) m loc ow wr ts ins)
 | [],[],xs,wr,p,tr,h=>by
  obtain⟨e,_⟩:=h;cases e
  exact⟨[],[],by simp,rfl,⟨[],⟨rfl,rfl,rfl,rfl⟩,Made.nil⟩,λ_=>⟨[],[],⟨rfl,rfl,rfl,rfl⟩,MadeF.nil⟩⟩
 | r::rs,ty::tys,xs,wr,p,tr,h=>by
  unfold pZ at h
  split at h
  case h_2=>exact h.elim
  rename_i i hi
  obtain⟨v,t1,t2,_,h1,h2⟩:=Does.bind _ _ h
  dsimp only at h2
  by_cases hagg:v.isAgg=i.agg
  case neg=>rw[if_neg hagg] at h2;exact h2.elim
  rw[if_pos hagg] at h2
  unfold eY at h2
  split at h2
  case h_2=>exact h2.elim
  rename_i ls hls
  obtain⟨⟨x,w1,p1⟩,t3,t4,_,h3,h4⟩:=Does.bind _ _ h2
  obtain⟨⟨xs',w2,p2⟩,t5,t6,_,h5,h6⟩:=Does.bind _ _ h4
  obtain⟨e6,_⟩:=h6
  injection e6 with e7 e8
  injection e8 with e8 e9
  subst e7 e8 e9
  obtain⟨u,k1,k2⟩:=sC hT R h1
  obtain⟨us,k3,k4⟩:=rX k2 hls
  rw[hagg] at k3
  obtain⟨bs,q1,m1⟩:=R.rowAt i.kinds ls x w1 p1 t3 h3 us k4
  obtain⟨vs,rt,j1,j2,⟨ins,j3,j4⟩,j5⟩:=pY hT R rs tys xs' w2 p2 t5 h5
  refine⟨u::vs,(i.agg,i.kinds)::rt,A9 k1 j1,?_,⟨bs++ins,⟨_,_,_,_,us,[],[],bs,ins,rfl,rfl,rfl,rfl,k3,⟨rfl,q1⟩,j3⟩,?_⟩,λhp=>?_⟩
  ·unfold dI;rw[hi,j2];rfl
  ·have:=Made.append R m1 j4
   simp_all
  ·simp only[Bool.and_eq_true] at hp
   obtain⟨⟨rfl,rfl⟩,hd⟩:=hp
   obtain⟨ts1,ins1,q2,m2⟩:=R.rowFresh i.kinds ls x w1 t3 h3 us k4
   obtain⟨ts2,ins2,q3,m3⟩:=j5 rfl
   exact⟨ts1++ts2,ins1++ins2,⟨_,_,_,_,us,ts1,ts2,ins1,ins2,rfl,rfl,rfl,rfl,k3,q2,q3⟩,MadeF.append R m2 m3 hd⟩
 | [],_::_,_,_,_,_,h=>h.elim
 | _::_,[],_,_,_,_,h=>h.elim
theorem sI:∀ (a b:List (Nat×Ent)),kI (a++b)=true->kI a=true/\kI b=true/\∀ q∈a,∀ q'∈b,q.1≠q'.1
 | [],b,h=>⟨rfl,h,λq hq=>by grind⟩
 | (i,e)::a,b,h=>by
  simp only[List.cons_append,kI,Bool.and_eq_true,Bool.not_eq_true'] at h
  obtain⟨i1,i2,i3⟩:=sI a b h.2
  have hn:∀ q∈a++b,q.1≠i:=λq hq e=>by
   have:=(iX i (a++b)).2 ⟨q,hq,e⟩
   rw[h.1] at this;simp_all
  refine⟨?_,i2,λq hq q' hq' e=>?_⟩
  ·simp only[kI,Bool.and_eq_true,Bool.not_eq_true']
   refine⟨?_,i1⟩
   cases hh:j0 i a with
   | false=>rfl
   | true=>
    obtain⟨q,hq,e⟩:=(iX i a).1 hh
    grind
  grind
/-- What is known of the blocks behind a row whose slices are the function's own. -/
structure ShF (n0:Nat) (ok:Nat->Prop) (m:Mem) (loc:Nat->Loc) (wr:List (Nat×Ent)) (ts ins:List Nat):Prop where
 tops:∀ b∈ts,n0<=b/\∃ q∈wr,dU (m q.1)=true/\(loc q.1).has b
 inn:∀ b∈ins,ok b
 nd:kI wr=true->ts.Nodup
theorem ShF.nil{ok:Nat->Prop}{wr:List (Nat×Ent)}:ShF n0 ok m loc wr [] []:=⟨(λb hb=>by grind),(λb hb=>by grind),λ_=>List.nodup_nil⟩
theorem ShF.append(R:Rel n0 ab rb w0 N t m a w loc ow){ok:Nat->Prop}{wr wr':List (Nat×Ent)}{ts ts' ins ins':List Nat}(h:ShF n0 ok m loc wr ts ins)(h':ShF n0 ok m loc wr' ts' ins'):
  ShF n0 ok m loc (wr++wr') (ts++ts') (ins++ins'):=by
 refine⟨λb hb=>?_,λb hb=>?_,λhone=>?_⟩
 ·rcases List.mem_append.1 hb with hb | hb
  ·obtain⟨k,q,hq,e⟩:=h.tops b hb;grind
  ·obtain⟨k,q,hq,e⟩:=h'.tops b hb;grind
 ·rcases List.mem_append.1 hb with hb | hb
  ·exact h.inn b hb
  ·exact h'.inn b hb
 ·obtain⟨o1,o2,o3⟩:=sI _ _ hone
  refine List.nodup_append.2 ⟨h.nd o1,h'.nd o2,λx hx y hy e=>?_⟩
  subst e
  obtain⟨_,q,hq,e1,e2⟩:=h.tops x hx
  obtain⟨_,q',hq',e3,e4⟩:=h'.tops x hy
  have o4:=(R.owner e1 e2).1
  have o5:=(R.owner e3 e4).1
  rw[o4] at o5
  grind
theorem Rel.shLeaf (R:Rel n0 ab rb w0 N t m a w loc ow) {k:Kd} {l:Leaf} {x:k.T} {wr:List (Nat×Ent)} {p:Bool} {tr tr':List Nat} (h:Does m (Abs.leafAt k l) (x,wr,p) tr) (hs:Does m (Abs.shLeaf k l) true tr') {u:Value}
  (hu:LR m loc (Ok n0 ab m loc w) w l u):∃ ts ins,(∀ (ks:List Kd) (r:Row ks) (us:List Value) (ts' ins':List Nat),FR w ks r us ts' ins'->FR w (k::ks) (x,r) (u::us) (ts++ts') (ins++ins'))/\ShF n0 (Ok n0 ab m loc w) m loc wr ts ins:=by
 unfold Abs.leafAt at h
 split at h
 ·rename_i k' y
  obtain⟨z,hz,h⟩:=h
  obtain⟨e,_⟩:=h
  unfold kR at hz
  split at hz
  case isFalse=>grind
  rename_i hk
  subst hk
  cases hz
  obtain⟨bs,hTR,hb⟩:=hu
  cases k' with
  | sl ks=>obtain⟨e',_⟩:=hs;grind
  | int k=>
   cases e
   exact⟨[],[],λks r us ts' ins' hr=>⟨u,us,rfl,⟨hTR.1,rfl⟩,hr⟩,ShF.nil⟩
  | bool=>
   cases e
   exact⟨[],[],λks r us ts' ins' hr=>⟨u,us,rfl,⟨hTR.1,rfl⟩,hr⟩,ShF.nil⟩
  | str=>
   cases e
   exact⟨[],[],λks r us ts' ins' hr=>⟨u,us,rfl,⟨hTR.1,rfl⟩,hr⟩,ShF.nil⟩
  | fn=>
   cases e
   exact⟨[],[],λks r us ts' ins' hr=>⟨u,us,rfl,⟨hTR.1,rfl⟩,hr⟩,ShF.nil⟩
 ·split at h
  ·rename_i ks
   obtain⟨e,_⟩:=h
   cases e
   have:u= .slice none 0 0:=hu
   subst this
   exact⟨[],[],λks' r us ts' ins' hr=>⟨.nil,[],us,ts',ins',rfl,⟨rfl,rfl⟩,rfl,rfl,hr⟩,ShF.nil⟩
  ·exact h.elim
 ·rename_i id
  split at h
  ·rename_i ks
   obtain⟨tr2,_,h'⟩:=h;replace h:=h';clear h'
   obtain⟨tr3,_,hs'⟩:=hs
   have hE:=R.ents id
   simp only[LR] at hu
   unfold EntR at hE
   cases hm:m id with
   | arr ks' xs d o'=>
    rw[hm] at hE h hu hs'
    dsimp only at hu h hs'
    obtain⟨e',_⟩:=hs'
    subst e'
    obtain⟨y,hy,h'⟩:=h;replace h:=h';clear h'
    obtain⟨e,_⟩:=h
    unfold kR at hy
    split at hy
    case isFalse=>grind
    rename_i hk
    cases hk
    cases hy
    injection e with e1 e2
    injection e2 with e2 e3
    subst e1 e2
    obtain⟨bss,hown,hok,hblk,_⟩:=hE
    subst hu
    refine⟨(loc id).blk.toList,List.flatten bss,λks' r us ts' ins' hr=>⟨loc id,bss,us,ts',ins',rfl,hown,rfl,rfl,hr⟩,⟨λb hb=>?_,λb hb=>?_,λ_=>?_⟩⟩
    ·have hb':=(hown.blk b).2 (by simp_all)
     exact⟨(hblk b hb').1,_,List.mem_singleton.2 rfl,by rw[hm];rfl,hb'⟩
    ·obtain⟨bb,hbb,hb⟩:=List.mem_flatten.1 hb
     grind
    grind
   | _=>rw[hm] at h;exact h.elim
  ·exact h.elim
 ·exact h.elim
theorem Rel.shRow(R:Rel n0 ab rb w0 N t m a w loc ow):∀ (ks:List Kd) (ls:List Leaf) (x:Row ks) (wr:List (Nat×Ent)) (p:Bool) (tr tr':List Nat),Does m (Abs.rowAt ks ls) (x,wr,p) tr->Does m (Abs.shRow ks ls) true tr'->
  ∀ us,LRs m loc (Ok n0 ab m loc w) w ls us->∃ ts ins,FR w ks x us ts ins/\ShF n0 (Ok n0 ab m loc w) m loc wr ts ins
 | [],[],x,wr,p,tr,tr',h,hs,us,hu=>by
  obtain⟨e,_⟩:=h;cases e
  exact⟨[],[],⟨hu,rfl,rfl⟩,ShF.nil⟩
 | k::ks,l::ls,x,wr,p,tr,tr',h,hs,us,⟨u,us',e,hl,hls⟩=>by
  unfold Abs.rowAt at h
  obtain⟨⟨y,w1,p1⟩,t1,t2,_,h1,h2⟩:=Does.bind _ _ h
  obtain⟨⟨r,w2,p2⟩,t3,t4,_,h3,h4⟩:=Does.bind _ _ h2
  obtain⟨e4,_⟩:=h4
  unfold Abs.shRow at hs
  obtain⟨b1,s1,s2,_,g1,g2⟩:=Does.bind _ _ hs
  obtain⟨b2,s3,s4,_,g3,g4⟩:=Does.bind _ _ g2
  obtain⟨e5,_⟩:=g4
  have e5':=e5.symm
  simp only[Bool.and_eq_true] at e5'
  obtain⟨rfl,rfl⟩:=e5'
  cases e4
  subst e
  obtain⟨ts1,ins1,q1,m1⟩:=R.shLeaf h1 g1 hl
  obtain⟨ts2,ins2,q2,m2⟩:=Rel.shRow R ks ls r w2 p2 t3 s3 h3 g3 us' hls
  exact⟨ts1++ts2,ins1++ins2,q1 ks r us' ts2 ins2 q2,ShF.append R m1 m2⟩
 | [],_::_,_,_,_,_,_,h,_,_,_=>h.elim
 | _::_,[],_,_,_,_,_,h,_,_,_=>h.elim
theorem yD(hT:TOk P E.ti){s:St}(R:Rel n0 ab rb w0 N s.t m a w loc ow):∀ (rs:List ResultVar) (tys:List Nat) (xs:List CRow) (wr:List (Nat×Ent)) (p:Bool) (tr tr':List Nat),Does m (pZ E s rs tys) (xs,wr,p) tr->
  Does m (EQ E s rs tys) true tr'->
  ∃ vs rt ts ins,(rs.mapM (uD a.tmps)).run P w= .ok vs w/\dI E tys=some rt/\tA true w rt xs vs ts ins/\ShF n0 (Ok n0 ab m loc w) m loc wr ts ins
 | [],[],xs,wr,p,tr,tr',h,hs=>by
  obtain⟨e,_⟩:=h;cases e
  exact⟨[],[],[],[],by simp,rfl,⟨rfl,rfl,rfl,rfl⟩,ShF.nil⟩
 | r::rs,ty::tys,xs,wr,p,tr,tr',h,hs=>by
  unfold pZ at h
  unfold EQ at hs
  cases hi:E.ti ty with
  | none=>rw[hi] at h;exact h.elim
  | some i=>
  rw[hi] at h hs
  dsimp only at h hs
  obtain⟨v,t1,t2,_,h1,h2⟩:=Does.bind _ _ h
  obtain⟨v',s1,s2,_,g1,g2⟩:=Does.bind _ _ hs
  obtain⟨rfl,_⟩:=Does.one _ _ _ h1 g1
  by_cases hagg:v.isAgg=i.agg
  case neg=>rw[if_neg hagg] at h2;exact h2.elim
  rw[if_pos hagg] at h2
  unfold eY at h2 g2
  cases hls:v.leaves with
  | none=>rw[hls] at h2;exact h2.elim
  | some ls=>
  rw[hls] at h2 g2
  dsimp only at h2 g2
  obtain⟨⟨x,w1,p1⟩,t3,t4,_,h3,h4⟩:=Does.bind _ _ h2
  obtain⟨⟨xs',w2,p2⟩,t5,t6,_,h5,h6⟩:=Does.bind _ _ h4
  obtain⟨e6,_⟩:=h6
  obtain⟨b1,s3,s4,_,g3,g4⟩:=Does.bind _ _ g2
  obtain⟨b2,s5,s6,_,g5,g6⟩:=Does.bind _ _ g4
  obtain⟨e7,_⟩:=g6
  have e7':=e7.symm
  simp only[Bool.and_eq_true] at e7'
  obtain⟨rfl,rfl⟩:=e7'
  cases e6
  obtain⟨u,k1,k2⟩:=sC hT R h1
  obtain⟨us,k3,k4⟩:=rX k2 hls
  rw[hagg] at k3
  obtain⟨ts1,ins1,q2,m2⟩:=R.shRow i.kinds ls x w1 p1 t3 s3 h3 g3 us k4
  obtain⟨vs,rt,ts2,ins2,j1,j2,q3,m3⟩:=yD hT R rs tys xs' w2 p2 t5 s5 h5 g5
  refine⟨u::vs,(i.agg,i.kinds)::rt,ts1++ts2,ins1++ins2,A9 k1 j1,?_,⟨_,_,_,_,us,ts1,ts2,ins1,ins2,rfl,rfl,rfl,rfl,k3,q2,q3⟩,ShF.append R m2 m3⟩
  unfold dI;rw[hi,j2];rfl
 | [],_::_,_,_,_,_,_,h,_=>h.elim
 | _::_,[],_,_,_,_,_,h,_=>h.elim
def p7:Nat->List Arg->List Nat->List (Nat×Nat)
 | _,[],_=>[]
 | p,.val _ _::as,rbs=>p7 (p+1) as rbs
 | p,.own _ _::as,rbs=>p7 (p+1) as rbs
 | p,.ref _::as,b::rbs=>(100000+p,b)::p7 (p+1) as rbs
 | _,.ref _::_,[]=>[]
theorem p0(R:Rel n0 ab rb w0 N t m a w loc ow){wi:World}:∀ (as:List Arg) (p:Nat) (vs:List Value) (bs rbs:List Nat) (rs:List CRow) (wr:List (Nat×Ent)) (tr:List Nat),y8 wi as vs bs rbs->(∀ q∈p7 p as rbs,q∈N.pins)->
  Does m (zF p as) (rs,wr) tr->∃ B,L7 w rbs rs B/\Made n0 (Ok n0 ab m loc w) m loc ow wr false B/\(∀ b∈rbs,∃ q∈N.pins,q.2=b)
 | [],p,vs,bs,rbs,rs,wr,tr,⟨_,_,h1⟩,hp,h=>by
  obtain⟨e,_⟩:=h;cases e
  subst h1
  exact⟨[],⟨rfl,rfl⟩,Made.nil,λb hb=>by grind⟩
 | .val agg c::as,p,vs,bs,rbs,rs,wr,tr,⟨v,vs',b,b',r,r',e1,e2,e3,⟨e4,_⟩,h1⟩,hp,h=>by
  subst e3 e4
  exact p0 R as (p+1) vs' b' r' rs wr tr h1 hp h
 | .own _ _::as,p,vs,bs,rbs,rs,wr,tr,_,hp,h=>h.elim
 | .ref c::as,p,vs,bs,rbs,rs,wr,tr,⟨v,vs',b,b',r,r',e1,e2,e3,⟨bb,us,e4,_⟩,h1⟩,hp,h=>by
  subst e3 e4
  obtain⟨tr',_,h2⟩:=h
  obtain⟨p1,⟨ls,p2⟩,p3⟩:=R.pin _ (hp (100000+p,bb) (List.mem_cons_self ..))
  dsimp only at p2 p3
  rw[p2] at h2
  dsimp only at h2
  obtain⟨⟨x,w1,q1⟩,t1,t2,_,h3,h4⟩:=Does.bind _ _ h2
  obtain⟨⟨rs',w2⟩,t3,t4,_,h5,h6⟩:=Does.bind _ _ h4
  obtain⟨e6,_⟩:=h6
  cases e6
  have hE:=R.ents (100000+p)
  unfold EntR at hE
  rw[p2] at hE
  obtain⟨b0,cs,T,fz,k1,k2,k3,k4,k5⟩:=hE
  rw[p3] at k1;cases k1
  obtain⟨B1,j1,j2⟩:=R.rowAt c.ks ls x w1 q1 t1 h3 cs.toList k4
  obtain⟨B2,j3,j4,j5⟩:=p0 R as (p+1) vs' b' r' rs' w2 t3 h1 (λq hq=>hp q (List.mem_cons_of_mem _ hq)) h5
  refine⟨B1++B2,⟨_,rs',cs.toList,B1,B2,rfl,rfl,⟨cs,T,fz,k2,k3,rfl⟩,j1,j3⟩,?_,λb hb=>?_⟩
  ·have:=Made.append R j2 j4
   simp_all
  ·rcases List.mem_cons.1 hb with rfl | hb
   ·exact⟨_,hp (100000+p,b) (List.mem_cons_self ..),rfl⟩
   simp_all
end
end Go.Abs
/- Functions. -/
namespace Go.Abs
open Go
section
variable {n0:Nat} {ab rb:Nat->Prop} {w0:World} {N:Fix} {t:Nat->AVal} {m:Mem} {a:Act} {w:World} {loc:Nat->Loc} {ow:Nat->Option Nat}
theorem Rel.addPins(R:Rel n0 ab rb w0 N t m a w loc ow){pins:List (Nat×Nat)}(h:∀ q∈pins,lV N.lo q.1/\(∃ ls,m q.1= .var ls)/\loc q.1= .at_ q.2 0 0):Rel n0 ab rb w0 ⟨N.n,pins,N.op,N.held,N.lo⟩ t m a w loc ow:=
 ⟨R.defers,R.size,R.hn0,R.keep,R.hab,R.temps,R.ents,R.owlt,R.mutrb,R.free,h,R.opin,R.held,R.npin,R.pcap,R.szk⟩
theorem St.m_cons(tm:List (Nat×AVal))(mem:List (Nat×Ent))(i:Nat)(e:Ent):(St.mk tm ((i,e)::mem)).m=cD (St.mk tm mem).m i e:=by
 funext j
 show(bif Nat.beq j i then e else gC Ent.none j mem)=if j=i then e else gC Ent.none j mem
 simp
theorem St.t_cons(tm:List (Nat×AVal))(mem:List (Nat×Ent))(i:Nat)(e:AVal):(St.mk ((i,e)::tm) mem).t=n7 (St.mk tm mem).t (some i) e:=by
 funext j
 show(bif Nat.beq j i then e else gC AVal.anyv j tm)=if j=i then e else gC AVal.anyv j tm
 simp
theorem VR1.toVR{ok:Nat->Prop}{v:AVal}{u:Value}(h:VR1 m loc ok w v u):VR m loc ok w v u:=by
 cases v with
 | tup _=>exact h.elim
 | _=>exact h
theorem sX{ti:Ti}{A:Array Value}{w:World}{BS RBS:List Nat}(hB:∀ b∈BS,b<w.heap.size/\b∉RBS)(hRB:∀ b∈RBS,b<w.heap.size):
  ∀ (ts:List Nat) (as:List Arg) (p:Nat) (s:St) (vs:List Value) (bs rbs:List Nat),xC ti p ts as=some s->y8 w as vs bs rbs->(∀ b∈bs,b∈BS)->(∀ b∈rbs,b∈RBS)->rbs.Nodup->
   (∀ (i:Nat) (v:Value),vs[i]? =some v->A.getD (p+i) undef=v)->
   ∃ loc ow,Rel w.heap.size (·∈BS) (·∈RBS) w ⟨A.size,p7 p as rbs,[],[],0⟩ s.t s.m ⟨A,[]⟩ w loc ow/\(∀ j,j<100000+p->s.m j= .none)/\∀ b j,ow b=some j->b∈rbs
 | [],[],p,s,vs,bs,rbs,h,hA,_,_,_,_=>by
  cases h
  refine⟨λ_=> .nil,λ_=>none,⟨rfl,rfl,rfl,⟨rfl,rfl,rfl,Nat.le_refl _,λ_ _ _=>rfl⟩,λb hb=>(hB b hb).1,λi=>trivial,λid=>trivial,(λb id h=>by grind),(λid b h=>by cases h),(λb h1 h2=>by omega),(λq hq=>by cases hq),(λq hq=>by grind),(λq hq=>by grind),(λid _ h=>by cases h),(λid _ h=>by cases h),λb _=>SizeLe.same rfl⟩,λ_ _=>rfl,λb j h=>by grind⟩
 | ty::ts,.val agg c::as,p,s,vs,bs,rbs,h,⟨v,vs',b,b',r,r',e1,e2,e3,⟨e4,us,hs,hr⟩,h1⟩,hbs,hrbs,hnd,hv=>by
  subst e1 e2 e3 e4
  unfold xC at h
  split at h
  case h_2=>grind
  rename_i i hi
  split at h
  case isFalse=>grind
  rename_i hk
  obtain⟨hk1,rfl⟩:=hk
  obtain⟨av,hav,h2⟩:=Option.bind_eq_some_iff.1 h
  obtain⟨s',hs',h3⟩:=Option.bind_eq_some_iff.1 h2
  cases h3
  obtain⟨loc,ow,R,k1,k2⟩:=sX hB hRB ts as (p+1) s' vs' b' r' hs' h1 (λx hx=>hbs x (List.mem_append_right _ hx)) hrbs hnd (λi v hi=>by
   have:=hv (i+1) v (by simp_all)
   rw[show p+1+i=p+(i+1) by omega];omega)
  refine⟨loc,ow,?_,λj hj=>k1 j (by omega),k2⟩
  obtain⟨tm,mem⟩:=s'
  rw[St.t_cons]
  refine R.retemp (VR1.toVR ?_)
  have h0:=hv 0 v rfl
  rw[Nat.add_zero] at h0
  rw[h0]
  refine G8 hav hs ((kC c.ks 0 c.row us b hr).2 _ _ _ λx hx=>?_)
  have hx':=hbs x (List.mem_append_left _ hx)
  refine⟨(hB x hx').1,fun⟨j,h4,h5⟩=>?_,.inr hx'⟩
  rcases R.mutrb j x h4 h5 with h6 | h6
  ·grind
  simp_all
 | ty ::ts,.ref c::as,p,s,vs,bs,rbs,h,⟨v,vs',b,b',r,r',e1,e2,e3,⟨bb,us,e4,e5,hw,hr⟩,h1⟩,hbs,hrbs,hnd,hv=>by
  subst e1 e2 e3 e4
  unfold xC at h
  split at h
  case h_2=>grind
  rename_i i hi
  split at h
  case h_2=>grind
  rename_i j htag hj
  split at h
  case isFalse=>grind
  rename_i hk
  obtain⟨s',hs',h3⟩:=Option.bind_eq_some_iff.1 h
  cases h3
  have hnd':=List.nodup_cons.1 hnd
  obtain⟨loc,ow,R,k1,k2⟩:=sX hB hRB ts as (p+1) s' vs' b' r' hs' h1 (λx hx=>hbs x (List.mem_append_right _ hx)) (λx hx=>hrbs x (List.mem_cons_of_mem _ hx)) hnd'.2 (λi v hi=>by
   have:=hv (i+1) v (by simp_all)
   rw[show p+1+i=p+(i+1) by omega];omega)
  obtain⟨tm,mem⟩:=s'
  have hbb:bb∈RBS:=hrbs bb (List.mem_cons_self ..)
  have hnone:(St.mk tm mem).m (100000+p)= .none:=k1 _ (by omega)
  generalize hls:(gX false 0 c.ks c.row).1=ls at*
  have hcells:∀ (m:Mem) (loc:Nat->Loc) (ok:Nat->Prop),(∀ x∈b,ok x)->LRs m loc ok w ls us:=by
   rw[<- hls];exact(kC c.ks 0 c.row us b hr).2
  obtain⟨cs,T,fz,q1,q2,q3⟩:=hw
  have hokx:∀ x,Ok w.heap.size (·∈BS) (St.mk tm mem).m loc w x->x∈BS:=λx hx=>by
   rcases hx.2.2 with h | h
   ·have:=hx.1;omega
   omega
  have hR:Rel w.heap.size (·∈BS) (·∈RBS) w ⟨A.size,p7 (p+1) as r',[],[],0⟩ (St.mk tm mem).t (cD (St.mk tm mem).m (100000+p) (.var ls)) ⟨A,[]⟩ w (kO loc (100000+p) (.at_ bb 0 0)) (λx=>if x=bb then some (100000+p)else ow x):=by
   have hmut:∀ x,Mut (cD (St.mk tm mem).m (100000+p) (.var ls)) (kO loc (100000+p) (.at_ bb 0 0)) x->x=bb\/Mut (St.mk tm mem).m loc x:=by
    rintro x ⟨j,h4,h5⟩
    by_cases e:j=100000+p
    ·subst e;rw[bL] at h5;left;simpa [Loc.has] using h5.symm
    ·rw[a9 _ _ e] at h4;rw[cK _ _ e] at h5;exact .inr ⟨j,h4,h5⟩
   have hok:∀ x,Ok w.heap.size (·∈BS) (St.mk tm mem).m loc w x->Ok w.heap.size (·∈BS) (cD (St.mk tm mem).m (100000+p) (.var ls)) (kO loc (100000+p) (.at_ bb 0 0)) w x/\w.heap[x]? =w.heap[x]? :=by
    intro x hx
    refine⟨⟨hx.1,λhm=>?_,hx.2.2⟩,rfl⟩
    rcases hmut x hm with rfl | h
    ·simp_all
    ·exact hx.2.1 h
   have hgo:∀ j,Goes ((St.mk tm mem).m j) (cD (St.mk tm mem).m (100000+p) (.var ls) j) (loc j) (kO loc (100000+p) (.at_ bb 0 0) j):=by
    intro j
    by_cases e:j=100000+p
    ·subst e;rw[hnone];trivial
    ·rw[a9 _ _ e,cK _ _ e];exact Goes.refl _ _
   refine R.update R.keep (Nat.le_refl _) hok hgo (λj=>?_) (λx j hj=>?_) (λj x h4 h5=>?_) (λ_ _ _=> .inl rfl) (λj _ h=>by
    by_cases c:j=100000+p
    ·subst c;rw[aX] at h;cases h
    ·rw[a9 _ _ c] at h;exact .inl ⟨h,cK _ _ c⟩) (λj h1 h2=>oQ (by rw[hnone];rfl) j h1 h2) (λb _=>SizeLe.same rfl)
   ·by_cases e:j=100000+p
    ·subst e
     left
     unfold EntR
     rw[aX]
     refine⟨bb,cs,T,fz,bL _ _ _,q1,q2,?_,by simp⟩
     rw[q3]
     refine hcells _ _ _ λx hx=>?_
     have hx':=hbs x (List.mem_append_left _ hx)
     refine⟨(hB x hx').1,λhm=>?_,.inr hx'⟩
     rcases hmut x hm with rfl | ⟨j,h6,h7⟩
     ·simp_all
     ·rcases R.mutrb j x h6 h7 with h8 | h8
      ·grind
      simp_all
    ·right
     refine⟨a9 _ _ e,cK _ _ e,λ_ _ _=>rfl,λ_ x hx=>?_⟩
     grind
   ·grind
   ·by_cases e:j=100000+p
    ·subst e;rw[bL] at h5
     have:bb=x:=by simpa [Loc.has] using h5
     simp_all
    ·rw[a9 _ _ e] at h4;rw[cK _ _ e] at h5;exact R.mutrb j x h4 h5
  refine⟨kO loc (100000+p) (.at_ bb 0 0),λx=>if x=bb then some (100000+p)else ow x,?_,λj hj=>?_,λx j hx=>?_⟩
  rotate_left
  ·rw[St.m_cons]
   rw[a9 _ _ (by omega)]
   exact k1 j (by omega)
  ·grind
  ·rw[St.m_cons,St.t_cons]
   refine Rel.retemp (x:= .one (.ptr (100000+p) 0)) (Rel.addPins hR (pins:=p7 p (.ref c::as) (bb::r')) λq hq=>?_) ?_
   ·rcases List.mem_cons.1 hq with rfl | hq
    ·exact⟨.inr (by simp),⟨ls,aX _ _ _⟩,bL _ _ _⟩
    ·exact hR.pin q hq
   ·have h0:=hv 0 v rfl
    rw[Nat.add_zero] at h0
    show VR _ _ _ _ _ (A.getD p undef)
    rw[h0,e5]
    simp only[VR,VR1,LR]
    show(match cD (St.mk tm mem).m (100000+p) (.var ls) (100000+p)with | .var _=>_ | _=>False)
    rw[aX]
    exact⟨bb,bL _ _ _,rfl⟩
 | [],_::_,_,_,_,_,_,h,_,_,_,_,_=>by cases h
 | _::_,[],_,_,_,_,_,h,_,_,_,_,_=>by cases h
end
end Go.Abs
/- Functions whose arguments come for writing: entry and exit. -/
namespace Go.Abs
open Go
section
variable {n0:Nat} {ab rb:Nat->Prop} {w0:World} {N:Fix} {t:Nat->AVal} {m:Mem} {a:Act} {w:World} {loc:Nat->Loc} {ow:Nat->Option Nat}
abbrev OPs:=List (Nat×List Kd×Loc)
def PinsIn(OP:OPs)(w:World):Nat->List Kd->List Value->List (List Nat)->Prop
 | _,[],us,bs=>us=[]/\bs=[]
 | id,k::ks,us,bs=>∃ u us' b b',us=u::us'/\bs=b::b'/\(j7 k=true->b=[])/\
   (∀ ks',k= .sl ks'->∃ hd,(id,ks',Loc.pin u hd b)∈OP/\∀ A n c,u= .slice A n c->D5 w ks' n u hd)/\PinsIn OP w (id+1) ks us' b'
theorem PinsIn.mono{OP OP':OPs}(h:∀ q∈OP,q∈OP'):∀ (ks:List Kd) (id:Nat) (us:List Value) (bs:List (List Nat)),PinsIn OP w id ks us bs->PinsIn OP' w id ks us bs
 | [],_,_,_,h1=>h1
 | k::ks,id,us,bs,⟨u,us',b,b',e1,e2,h0,h1,h2⟩=>⟨u,us',b,b',e1,e2,h0,λks' e=>by
   grind,PinsIn.mono h ks (id+1) us' b' h2⟩
def OwnIn(OP:OPs)(w:World):Nat->List Arg->List (List Value×List (List Nat))->Prop
 | _,[],ds=>ds=[]
 | id,.val _ _::as,ds=>OwnIn OP w id as ds
 | id,.own _ c::as,ds=>∃ us bs ds',ds=(us,bs)::ds'/\PinsIn OP w id c.ks us bs/\OwnIn OP w (id+c.ks.length) as ds'
 | _,.ref _::_,_=>False
theorem OwnIn.mono{OP OP':OPs}(h:∀ q∈OP,q∈OP'):∀ (as:List Arg) (id:Nat) (ds:List (List Value×List (List Nat))),OwnIn OP w id as ds->OwnIn OP' w id as ds
 | [],_,_,h1=>h1
 | .val _ _::as,id,ds,h1=>OwnIn.mono h as id ds h1
 | .own _ c::as,id,ds,⟨us,bs,ds',e,h1,h2⟩=>⟨us,bs,ds',e,PinsIn.mono h _ _ _ _ h1,OwnIn.mono h as _ ds' h2⟩
 | .ref _::_,_,_,h1=>h1
theorem Rel.addPin (R:Rel w.heap.size (λ_=>False) rb w0 N t m a w loc ow) {id:Nat} (hnf:¬ tQ id) (hm:m id= .none) {ks:List Kd} {xs:List (Row ks)} {hv:Value} {hd:Nat->Nat->Value} {bl:List Nat} (hp:PinR w ks xs hv hd bl)
  (hb:∀ z∈bl,rb z/\z<w.heap.size/\ow z=none):
  Rel w.heap.size (λ_=>False) rb w0 N t (cD m id (.pin ks xs)) a w (kO loc id (.pin hv hd bl)) (λz=>if z∈bl then some id else ow z):=by
 refine R.update R.keep (Nat.le_refl _) (λb hb=>?_) (λj=>?_) (λj=>?_) (λb j hj=>?_) (λj b h1 h2=>?_) (λ_ _ _=> .inl rfl) (λj hj h=>by
   by_cases c:j=id
   ·simp_all
   ·rw[a9 _ _ c] at h;exact .inl ⟨h,cK _ _ c⟩) (λj h1 h2=>oQ (by rw[hm];rfl) j h1 h2) (λb _=>SizeLe.same rfl)
 ·rcases hb.2.2 with h | h
  ·have:=hb.1;omega
  simp_all
 ·by_cases e:j=id
  ·subst e;rw[hm];trivial
  ·rw[a9 _ _ e,cK _ _ e];exact Goes.refl _ _
 ·by_cases e:j=id
  ·subst e
   left
   unfold EntR
   rw[aX]
   exact⟨hv,hd,bl,bL _ _ _,hp,λz hz=>if_pos hz⟩
  ·right
   refine⟨a9 _ _ e,cK _ _ e,λ_ _ _=>rfl,λ_ b hb'=>?_⟩
   grind
 ·by_cases e:b∈bl
  ·simp_all
  ·rw[if_neg e] at hj;exact R.owlt b j hj
 ·by_cases e:j=id
  ·subst e;rw[bL] at h2;exact .inr (hb b h2).1
  ·rw[a9 _ _ e] at h1;rw[cK _ _ e] at h2;exact R.mutrb j b h1 h2
theorem Rel.addOp(R:Rel n0 ab rb w0 N t m a w loc ow){q:Nat×List Kd×Loc}(h:(lV N.lo q.1/\¬ tQ q.1)/\(∃ xs,m q.1= .pin q.2.1 xs)/\loc q.1=q.2.2):Rel n0 ab rb w0 ⟨N.n,N.pins,q::N.op,N.held,N.lo⟩ t m a w loc ow:=
 ⟨R.defers,R.size,R.hn0,R.keep,R.hab,R.temps,R.ents,R.owlt,R.mutrb,R.free,R.pin,λp hp=>by
  rcases List.mem_cons.1 hp with rfl | hp
  ·omega
  ·exact R.opin p hp,R.held,R.npin,R.pcap,R.szk⟩
theorem P0{id:Nat}(h1:100000<=id)(h2:id<200000):¬ tQ id:=by unfold tQ;omega
theorem VO{id:Nat}(h:100000<=id):lV 0 id:= .inr (by rw[Nat.zero_add];omega)
/-- The leaves of a row that comes for writing. -/
theorem yM{RB:List Nat}{A:Array Value}{tm:List (Nat×AVal)}:∀ (ks:List Kd) (id:Nat) (x:Row ks) (us:List Value) (bs:List (List Nat)) (mem:List (Nat×Ent)) (OP:OPs) (loc:Nat->Loc) (ow:Nat->Option Nat) (T:Nat->AVal),
  RC w ks x us bs->100000<=id->id+ks.length<=200000->Rel w.heap.size (λ_=>False) (·∈RB) w ⟨A.size,[],OP,[],0⟩ T (St.mk tm mem).m ⟨A,[]⟩ w loc ow->(∀ j,id<=j->j<id+ks.length->(St.mk tm mem).m j= .none)->
  (∀ z∈List.flatten bs,z∈RB/\z<w.heap.size/\ow z=none/\cO w z)->(List.flatten bs).Nodup->
  ∃ loc' ow' OP',Rel w.heap.size (λ_=>False) (·∈RB) w ⟨A.size,[],OP',[],0⟩ T (St.mk tm ((gV id ks x).2++mem)).m ⟨A,[]⟩ w loc' ow'/\(∀ q∈OP,q∈OP')/\PinsIn OP' w id ks us bs/\
   LRs (St.mk tm ((gV id ks x).2++mem)).m loc' (Ok w.heap.size (λ_=>False) (St.mk tm ((gV id ks x).2++mem)).m loc' w) w (gV id ks x).1 us/\
   (∀ j,j<id\/id+ks.length<=j->(St.mk tm ((gV id ks x).2++mem)).m j=(St.mk tm mem).m j)/\(∀ z j,ow' z=some j->z∈List.flatten bs\/ow z=some j)
 | [],id,x,us,bs,mem,OP,loc,ow,T,h,hid,hid2,R,hn,hb,hnd=>by
  obtain⟨rfl,rfl⟩:=h
  exact⟨loc,ow,OP,R,λq hq=>hq,⟨rfl,rfl⟩,rfl,λj _=>rfl,λz j h=> .inr h⟩
 | k ::ks,id,x,us,bs,mem,OP,loc,ow,T,⟨u,us',b,b',e1,e2,h1,h2⟩,hid,hid2,R,hn,hb,hnd=>by
  subst e1 e2
  rw[List.flatten_cons] at hb hnd
  obtain⟨nd1,nd2,nd3⟩:=List.nodup_append.1 hnd
  obtain⟨loc1,ow1,OP1,R1,g1,g2,g3,g4,g5⟩:=yM ks (id+1) x.2 us' b' mem OP loc ow T h2 (by omega) (by rw[List.length_cons] at hid2;omega) R (λj h3 h4=>hn j (by omega) (by grind)) (λz hz=>hb z (List.mem_append_right _ hz)) nd2
  have flat:j7 k=true->(gV id (k::ks) x)=(.v k x.1::(gV (id+1) ks x.2).1,(gV (id+1) ks x.2).2)->∃ loc' ow' OP',Rel w.heap.size (λ_=>False) (·∈RB) w ⟨A.size,[],OP',[],0⟩ T (St.mk tm ((gV id (k::ks) x).2++mem)).m ⟨A,[]⟩ w loc' ow'/\(∀ q∈OP,q∈OP')/\PinsIn OP' w id (k::ks) (u::us') (b::b')/\
   LRs (St.mk tm ((gV id (k::ks) x).2++mem)).m loc' (Ok w.heap.size (λ_=>False) (St.mk tm ((gV id (k::ks) x).2++mem)).m loc' w) w (gV id (k::ks) x).1 (u::us')/\
   (∀ j,j<id\/id+(k::ks).length<=j->(St.mk tm ((gV id (k::ks) x).2++mem)).m j=(St.mk tm mem).m j)/\(∀ z j,ow' z=some j->z∈List.flatten (b::b')\/ow z=some j):=by
   intro hf e
   rw[e]
   have hb0:=(TR.flat _ _ _ _ hf h1).1
   refine⟨loc1,ow1,OP1,R1,g1,⟨u,us',b,b',rfl,rfl,λ_=>hb0,(λks' e=>by subst e;cases hf),g2⟩,⟨u,us',rfl,⟨b,h1,λz hz=>by rw[hb0] at hz;grind⟩,g3⟩,λj hj=>g4 j (by grind),λz j hz=>?_⟩
   simp_all
  cases k with
  | int _=>exact flat rfl rfl
  | bool=>exact flat rfl rfl
  | str=>exact flat rfl rfl
  | fn=>exact flat rfl rfl
  | sl ks'=>
   clear flat
   obtain⟨hd,hH⟩:=HJ h1
   have hnone:(St.mk tm ((gV (id+1) ks x.2).2++mem)).m id= .none:=by
    rw[g4 id (.inl (by omega))]
    simp_all
   have hp:PinR w ks' x.1 u hd b:=⟨h1,hH,nd1,λz hz=>(hb z (List.mem_append_left _ hz)).2.2.2⟩
   have hnf:¬ tQ id:=P0 hid (by rw[List.length_cons] at hid2;omega)
   have R2:=R1.addPin hnf hnone hp λz hz=>by
    obtain⟨k1,k2,k3,k4⟩:=hb z (List.mem_append_left _ hz)
    refine⟨k1,k2,?_⟩
    cases ho:ow1 z with
    | none=>rfl
    | some j=>
     grind
   have hM:(St.mk tm ((gV id (.sl ks'::ks) x).2++mem)).m=cD (St.mk tm ((gV (id+1) ks x.2).2++mem)).m id (.pin ks' x.1):=St.m_cons tm _ id _
   rw[hM]
   refine⟨_,_,(id,ks', .pin u hd b)::OP1,R2.addOp ⟨⟨VO hid,hnf⟩,⟨x.1,aX _ _ _⟩,bL _ _ _⟩,λq hq=>List.mem_cons_of_mem _ (g1 q hq),?_,?_,λj hj=>?_,λz j hz=>?_⟩
   ·refine⟨u,us',b,b',rfl,rfl,(λh=>by cases h),λks2 e=>?_,PinsIn.mono (λq hq=>List.mem_cons_of_mem _ hq) _ _ _ _ g2⟩
    cases e
    refine⟨hd,List.mem_cons_self ..,λA' n c e=>?_⟩
    obtain⟨A2,c2,e3,_⟩:=h1
    rw[e] at e3
    simp_all
   ·refine⟨u,us',rfl,?_,?_⟩
    ·simp only[LR,aX,bL]
     exact(Loc.val_pin (TR.one _ _ _ _ h1) _ _ _).symm
    ·refine LRs.mono (λc hc=>⟨?_,rfl⟩) (λj=>?_) _ _ g3
     ·rcases hc.2.2 with h | h
      ·have:=hc.1;omega
      simp_all
     ·by_cases e:j=id
      ·subst e;rw[hnone];trivial
      ·rw[a9 _ _ e,cK _ _ e];exact Goes.refl _ _
   ·have:j≠id:=by grind
    rw[a9 _ _ this]
    grind
   grind
theorem qZ{ti:Ti}{A:Array Value}{w:World}{RB:List Nat}:
  ∀ (ts:List Nat) (as:List Arg) (p id:Nat) (s:St) (vs:List Value) (ds:List (List Value×List (List Nat))),xD ti p id ts as=some s->D6 w as vs ds->(∀ b∈uR ds,b∈RB/\b<w.heap.size/\cO w b)->(uR ds).Nodup->100000<=id->
   (∀ (i:Nat) (v:Value),vs[i]? =some v->A.getD (p+i) undef=v)->
   ∃ loc ow OP,Rel w.heap.size (λ_=>False) (·∈RB) w ⟨A.size,[],OP,[],0⟩ s.t s.m ⟨A,[]⟩ w loc ow/\(∀ j,j<id->s.m j= .none)/\(∀ b j,ow b=some j->b∈uR ds)/\OwnIn OP w id as ds
 | [],[],p,id,s,vs,ds,h,hA,_,_,_,_=>by
  cases h
  refine⟨λ_=> .nil,λ_=>none,[],⟨rfl,rfl,rfl,⟨rfl,rfl,rfl,Nat.le_refl _,λ_ _ _=>rfl⟩,(λb hb=>hb.elim),λi=>trivial,λid=>trivial,(λb id h=>by grind),(λid b h=>by cases h),(λb h1 h2=>by omega),(λq hq=>by grind),(λq hq=>by grind),(λq hq=>by grind),(λid _ h=>by cases h),(λid _ h=>by cases h),λb _=>SizeLe.same rfl⟩,λ_ _=>rfl,(λb j h=>by grind),hA.2⟩
 | ty::ts,.val agg c::as,p,id,s,vs,ds,h,⟨v,vs',us,e1,hs,hr,h1⟩,hb,hnd,hid,hv=>by
  subst e1
  unfold xD at h
  split at h
  case h_2=>grind
  rename_i i hi
  split at h
  case isFalse=>grind
  rename_i hk
  obtain⟨hk1,rfl,_⟩:=hk
  obtain⟨av,hav,h2⟩:=Option.bind_eq_some_iff.1 h
  obtain⟨s',hs',h3⟩:=Option.bind_eq_some_iff.1 h2
  cases h3
  obtain⟨loc,ow,OP,R,k1,k2,k3⟩:=qZ ts as (p+1) id s' vs' ds hs' h1 hb hnd hid (λi v hi=>by
   have:=hv (i+1) v (by simp_all)
   rw[show p+1+i=p+(i+1) by omega];omega)
  refine⟨loc,ow,OP,?_,k1,k2,k3⟩
  obtain⟨tm,mem⟩:=s'
  rw[St.t_cons]
  refine R.retemp (VR1.toVR ?_)
  have h0:=hv 0 v rfl
  rw[Nat.add_zero] at h0
  rw[h0]
  exact G8 hav hs ((kC c.ks 0 c.row us [] hr).2 _ _ _ λx hx=>by grind)
 | ty::ts,.own agg c::as,p,id,s,vs,ds,h,⟨v,vs',us,r,ds',e1,e2,hs,hr,h1⟩,hb,hnd,hid,hv=>by
  subst e1 e2
  unfold xD at h
  split at h
  case h_2=>grind
  rename_i i hi
  split at h
  case isFalse=>grind
  rename_i hk
  obtain⟨hk1,rfl,hk3⟩:=hk
  obtain⟨av,hav,h2⟩:=Option.bind_eq_some_iff.1 h
  obtain⟨s',hs',h3⟩:=Option.bind_eq_some_iff.1 h2
  cases h3
  have hbl:uR ((us,r)::ds')=List.flatten r++uR ds':=rfl
  rw[hbl] at hb hnd
  obtain⟨nd1,nd2,nd3⟩:=List.nodup_append.1 hnd
  obtain⟨loc,ow,OP,R,k1,k2,k3⟩:=qZ ts as (p+1) (id+c.ks.length) s' vs' ds' hs' h1 (λz hz=>hb z (List.mem_append_right _ hz)) nd2 (by omega) (λi v hi=>by
   have:=hv (i+1) v (by simp_all)
   rw[show p+1+i=p+(i+1) by omega];omega)
  obtain⟨tm,mem⟩:=s'
  obtain⟨loc',ow',OP',R',g1,g2,g3,g4,g5⟩:=yM c.ks id c.row us r mem OP loc ow _ hr hid hk3 R (λj _ h4=>k1 j h4) (λz hz=>by
   obtain⟨q1,q2,q3⟩:=hb z (List.mem_append_left _ hz)
   refine⟨q1,q2,?_,q3⟩
   cases ho:ow z with
   | none=>rfl
   | some j=>grind) nd1
  refine⟨loc',ow',OP',?_,λj hj=>?_,λz j hz=>?_,⟨us,r,ds',rfl,g2,OwnIn.mono g1 _ _ _ k3⟩⟩
  ·show Rel _ _ _ _ _ (St.mk ((p,av)::tm) ((gV id c.ks c.row).2++mem)).t (St.mk tm ((gV id c.ks c.row).2++mem)).m _ _ _ _
   rw[St.t_cons]
   refine Rel.retemp R' (VR1.toVR ?_)
   have h0:=hv 0 v rfl
   rw[Nat.add_zero] at h0
   rw[h0]
   exact G8 hav hs g3
  ·show(St.mk tm ((gV id c.ks c.row).2++mem)).m j=_
   rw[g4 j (.inl hj)]
   grind
  grind
 | _::_,.ref _::_,_,_,_,_,_,_,h1,_,_,_,_=>h1.elim
 | [],_::_,_,_,_,_,_,h,_,_,_,_,_=>by cases h
 | _::_,[],_,_,_,_,_,h,_,_,_,_,_=>by cases h
/-- What an entry that came for writing holds in the end. -/
theorem p8{wi:World}(R:Rel n0 ab rb w0 N t m a w loc ow):∀ (ks:List Kd) (id:Nat) (x y:Row ks) (us:List Value) (bs:List (List Nat)),sF m id ks x=some y->RC wi ks x us bs->PinsIn N.op wi id ks us bs->
  SE wi w ks y us bs/\∀ z∈List.flatten bs,cO w z
 | [],id,x,y,us,bs,h,hr,hp=>by
  obtain⟨rfl,rfl⟩:=hp
  exact⟨⟨rfl,rfl⟩,λz hz=>by grind⟩
 | k::ks,id,x,y,us,bs,h,⟨u,us',b,b',e1,e2,h1,h2⟩,⟨u2,us2,b2,b2',f1,f2,hfl,hsl,hp⟩=>by
  subst e1 e2
  cases f1
  cases f2
  have flat:j7 k=true->sF m id (k::ks) x=(sF m (id+1) ks x.2).map (λz=>((x.1,z):Row (k::ks)))->SE wi w (k::ks) y (u::us') (b::b')/\∀ z∈List.flatten (b::b'),cO w z:=by
   intro hf e
   rw[e] at h
   obtain⟨z,hz,rfl⟩:=Option.map_eq_some_iff.1 h
   obtain⟨g1,g2⟩:=p8 R ks (id+1) x.2 z us' b' hz h2 hp
   obtain⟨hb,hany⟩:=TR.flat _ _ _ _ hf h1
   exact⟨⟨u,us',b,b',rfl,rfl,hany w,(λks' A n c e=>by subst e;cases hf),g1⟩,by rw[List.flatten_cons,hb];grind⟩
  cases k with
  | int _=>exact flat rfl rfl
  | bool=>exact flat rfl rfl
  | str=>exact flat rfl rfl
  | fn=>exact flat rfl rfl
  | sl ks'=>
   clear flat
   have h':(match m id with
    | .pin ks2 xs=>kR (.sl ks2) (.sl ks') xs
    | _=>none).bind (λy=>(sF m (id+1) ks x.2).map λz=>((y,z):Row (.sl ks'::ks)))=some y:=h
   obtain⟨y1,hy1,hh⟩:=Option.bind_eq_some_iff.1 h'
   obtain⟨z,hz,rfl⟩:=Option.map_eq_some_iff.1 hh
   obtain⟨g1,g2⟩:=p8 R ks (id+1) x.2 z us' b' hz h2 hp
   obtain⟨hd,k1,k2⟩:=hsl ks' rfl
   obtain⟨_,⟨xs,p2⟩,p3⟩:=R.opin _ k1
   dsimp only at p2 p3
   rw[p2] at hy1
   obtain⟨e3,e4⟩:=jL hy1
   cases e3
   subst e4
   have hE:=R.ents id
   unfold EntR at hE
   rw[p2] at hE
   obtain⟨hv,hd',bl,e5,hpin,_⟩:=hE
   rw[p3] at e5
   cases e5
   refine⟨⟨u,us',b,b',rfl,rfl,hpin.1,λks2 A n c e e' hdx hx=>?_,g1⟩,λz hz=>?_⟩
   ·cases e
    have hH:=k2 A n c e'
    have hH':=hpin.2.1
    obtain⟨A2,c2,e6⟩:=hpin.len
    intro b0 o l c0 e7 i j ks3 hi hj
    have q1:=hx b0 o l c0 e7 i j ks3 hi hj
    rw[hH b0 o l c0 e7 i j ks3 hi hj] at q1
    rw[<- Option.some.inj q1]
    refine hH' b0 o l c0 e7 i j ks3 ?_ hj
    rw[e'] at e6
    simp_all
   ·rw[List.flatten_cons] at hz
    rcases List.mem_append.1 hz with hz | hz
    ·exact hpin.2.2.2 z hz
    grind
theorem n8{wi:World}(R:Rel n0 ab rb w0 N t m a w loc ow):∀ (as:List Arg) (id:Nat) (vs:List Value) (ds:List (List Value×List (List Nat))) (cs:List CRow),vW m id as=some cs->D6 wi as vs ds->OwnIn N.op wi id as ds->
  H9 wi w as ds cs/\∀ z∈uR ds,cO w z
 | [],id,vs,ds,cs,h,hA,ho=>by
  cases h
  obtain⟨_,rfl⟩:=hA
  exact⟨rfl,λz hz=>by cases hz⟩
 | .val agg c::as,id,vs,ds,cs,h,⟨v,vs',us,e1,hs,hr,h1⟩,ho=>n8 R as id vs' ds cs h h1 ho
 | .own agg c::as,id,vs,ds,cs,h,⟨v,vs',us,r,ds',e1,e2,hs,hr,h1⟩,⟨us2,bs2,ds2,f1,f2,f3⟩=>by
  subst e2
  cases f1
  obtain⟨y,hy,hh⟩:=Option.bind_eq_some_iff.1 (show(sF m id c.ks c.row).bind (λr=>(vW m (id+c.ks.length) as).map λrs=>(⟨c.ks,r⟩:CRow)::rs)=some cs from h)
  obtain⟨z,hz,rfl⟩:=Option.map_eq_some_iff.1 hh
  obtain⟨g1,g2⟩:=p8 R c.ks id c.row y us r hy hr f2
  obtain⟨g3,g4⟩:=n8 R as _ vs' ds' z hz h1 f3
  refine⟨⟨y,z,rfl,g1,g3⟩,λb hb=>?_⟩
  rcases List.mem_append.1 (show b∈List.flatten r++uR ds' from hb)with h | h
  ·grind
  simp_all
 | .ref _::_,_,_,_,_,_,h1,_=>h1.elim
theorem CJ:∀ (rt:List (Bool×List Kd)) (cs:List CRow) (vs:List Value) (ins:List Nat),(cs.any λc=>cP c.ks)=false->tA false w rt cs vs [] ins->tA false w rt cs vs [] []
 | [],cs,vs,ins,_,h=>⟨h.1,h.2.1,rfl,rfl⟩
 | (agg,ks)::rt,cs,vs,ins,hf,⟨c,cs',v,vs',us,t,t',i,i',e1,e2,e3,e4,hs,hr,h⟩=>by
  subst e1
  obtain⟨rfl,rfl⟩:=List.append_eq_nil_iff.1 e3.symm
  rw[List.any_cons,Bool.or_eq_false_iff] at hf
  have hr':RR w c.ks c.row us i:=hr.2
  have hi:=sV _ _ _ _ hf.1 hr'
  subst hi
  exact⟨c,cs',v,vs',us,[],[],[],[],rfl,e2,rfl,rfl,hs,hr,CJ rt cs' vs' i' hf.2 h⟩
end
end Go.Abs
/- Functions run in place. -/
namespace Go.Abs
open Go
section
variable {P:Program} {E:Env}
variable {n0:Nat} {ab rb:Nat->Prop} {w0:World} {N:Fix} {t:Nat->AVal} {m:Mem} {a:Act} {w:World} {loc:Nat->Loc} {ow:Nat->Option Nat}
theorem CF{lo:Nat}:∀ (mem:List (Nat×Ent)),D3 lo mem=true->∀ i,lo<=i->gC Ent.none i mem= .none
 | [],_,i,_=>rfl
 | (j,e)::r,h,i,hi=>by
  simp only[D3,Bool.and_eq_true] at h
  have hj:j<lo:=Nat.blt_eq▸h.1
  show(bif Nat.beq i j then e else gC Ent.none i r)= .none
  rw[kJ (by omega)]
  exact CF r h.2 i hi
theorem BF:∀ (xs:List AVal) (p i:Nat),gC AVal.anyv i (B5 p xs)=if p<=i then(xs[i - p]?).getD .anyv else .anyv
 | [],p,i=>by
  show AVal.anyv=_
  split<;>simp
 | x::xs,p,i=>by
  show(bif Nat.beq i p then x else gC AVal.anyv i (B5 (p+1) xs))=_
  rw[BF xs (p+1) i]
  by_cases h:i=p
  ·simp_all
  ·rw[kJ h]
   grind
theorem vO(hT:TOk P E.ti){s:St}(R:Rel n0 ab rb w0 N s.t s.m a w loc ow):∀ (rs:List ResultVar) (vs:List AVal),vP E s rs=some vs->
  ∃ us:List Value,(rs.mapM (uD a.tmps)).run P w= .ok us w/\us.length=vs.length/\∀ (i:Nat) (x:AVal) (y:Value),vs[i]? =some x->us[i]? =some y->VR1 s.m loc (Ok n0 ab s.m loc w) w x y
 | [],vs,h=>by
  cases h
  simp
 | r::rs,vs,h=>by
  unfold vP at h
  obtain⟨v,tr,h1,h2⟩:=Does.run _ _ _ h
  obtain⟨u,k1,k2⟩:=sC hT R h1
  split at h2
  ·grind
  ·rename_i hnt
   obtain⟨vs',h3,h4⟩:=Option.map_eq_some_iff.1 h2
   subst h4
   obtain⟨us,j1,j2,j3⟩:=vO hT R rs vs' h3
   refine⟨u::us,A9 k1 j1,by grind,λi x y hx hy=>?_⟩
   cases i with
   | zero=>
    simp at hx hy;subst hx hy
    cases v with
    | tup q=>simp_all
    | _=>exact k2
   | succ i=>grind
theorem DN {fns:Nat->Option Func} (hF:∀ g fn,fns g=some fn->P.funcs[g]? =some fn/\fn.name≠ "runtime.NumGoroutine" /\fn.body.isNone=false) (hT:TOk P E.ti) (hD:9<=P.depth) (hM:P.follows .mixedOrders=true)
  {rts:Nat->Option (List Nat)} (hC:∀ g as out,E.call g as=some out->lZ P E.ti rts E.fresh g as out) (aA:Nat):∀ k,D4 P (jV fns E rts aA k)
 | 0=>λρ r g b h xs s K hr=>by cases hr
 | k +1=>λρ r g b h xs s K hr n0 ab rb w0 N a w loc ow R vs hl hv=>by
  unfold jV at hr
  split at hr
  case h_2=>grind
  rename_i fn hfn
  obtain⟨k1,k2,k3⟩:=hF g fn hfn
  cases hc:(D3 (b*32) s.mem&& !h.pin)with
  | false=>rw[hc] at hr;grind
  | true=>
  rw[hc] at hr
  simp only[cond_true] at hr
  simp only[Bool.and_eq_true,Bool.not_eq_true'] at hc
  obtain⟨hc1,hc2⟩:=hc
  have hnone:∀ i,b*32<=i->s.m i= .none:=CF s.mem hc1
  refine⟨⟨fn,k1,k2,k3⟩,hnone,?_⟩
  cases hb:fn.body with
  | none=>rw[hb] at k3;grind
  | some c=>
  have hcb:dR fn=c:=by unfold dR;rw[hb]
  rw[hcb] at hr
  refine calls_of_wp k1 hb ?_
  generalize hAA:vs.toArray++Array.replicate (fn.ntmps - vs.toArray.size) undef=A
  have hsize:fn.ntmps<=A.size:=by rw[<- hAA];grind
  have hget:∀ i,A.getD i undef=(vs[i]?).getD undef:=by
   intro i
   rw[<- hAA,Array.getD_eq_getD_getElem?]
   grind
  let N':Fix:=⟨A.size,N.pins,N.op,(s.t,a.tmps)::N.held,b*32⟩
  have hlt:∀ i,s.m i≠ .none->lV (b*32) i:=λi hi=> .inl (Nat.lt_of_not_le λh=>hi (hnone i h))
  have R':Rel n0 ab rb w0 N' (St.mk (B5 0 xs) s.mem).t (St.mk (B5 0 xs) s.mem).m ⟨A,[]⟩ w loc ow:=by
   refine⟨rfl,rfl,R.hn0,R.keep,R.hab,λi=>?_,R.ents,R.owlt,R.mutrb,R.free,λq hq=>?_,λq hq=>?_,λq hq i=>?_,R.npin,R.pcap,R.szk⟩
   ·show VR s.m loc _ w (gC AVal.anyv i (B5 0 xs)) (A.getD i undef)
    rw[BF,if_pos (Nat.zero_le i),Nat.sub_zero,hget]
    by_cases hi:i<xs.length
    ·have hi2:i<vs.length:=by omega
     rw[List.getElem?_eq_getElem hi,List.getElem?_eq_getElem hi2]
     exact hv i xs[i] vs[i] (List.getElem?_eq_getElem hi) (List.getElem?_eq_getElem hi2)
    ·rw[List.getElem?_eq_none (by omega)];trivial
   ·obtain⟨_,⟨ls,p2⟩,p3⟩:=R.pin q hq
    exact⟨hlt q.1 (by rw[p2];simp),⟨ls,p2⟩,p3⟩
   ·obtain⟨p1,⟨zs,p2⟩,p3⟩:=R.opin q hq
    exact⟨⟨hlt q.1 (by rw[p2];simp),p1.2⟩,⟨zs,p2⟩,p3⟩
   ·rcases List.mem_cons.1 hq with rfl | hq
    ·exact⟨VR.below hnone _ _ (R.temps i),R.temps i⟩
    ·have h1:=(R.held q hq i).2
     exact⟨VR.below hnone _ _ h1,h1⟩
  refine gP (E:={ E with n:=fn.ntmps,h:=h,base:=b }) (N:=N') (DN hF hT hD hM hC aA k) hT hD hM hC ⟨hsize,rfl⟩ aA r c _ _ _ ⟨A,[]⟩ w hr ⟨loc,ow,R'⟩ λex s' a' w' hk ⟨loc',ow',R''⟩=>?_
  have fin:((vP { E with n:=fn.ntmps,h:=h,base:=b } s' fn.results.toList).bind λvs=>K (y9 vs) ⟨s.tm,s'.mem⟩)=some r->a'.defers=[]/\∃ v,(results fn a'.tmps).run P w'= .ok v w'/\
    ∃ v',Ending.returned v= .returned v'/\∃ x s2 loc2 ow2,K x s2=some r/\Rel n0 ab rb w0 N s2.t s2.m a w' loc2 ow2/\VR s2.m loc2 (Ok n0 ab s2.m loc2 w') w' x v':=by
   intro hk
   obtain⟨zs,h1,h2⟩:=Option.bind_eq_some_iff.1 hk
   obtain⟨us,j1,j2,j3⟩:=vO (E:={ E with n:=fn.ntmps,h:=h,base:=b }) hT R'' _ _ h1
   refine⟨R''.defers,_,sB j1,_,rfl,y9 zs,⟨s.tm,s'.mem⟩,loc',ow',h2,?_,?_⟩
   ·have hh:=λq hq i=>R''.held q (List.mem_cons_of_mem _ hq) i
    refine⟨R.defers,R.size,R''.hn0,R''.keep,R''.hab,λi=>?_,R''.ents,R''.owlt,R''.mutrb,R''.free,λq hq=>?_,λq hq=>?_,λq hq i=>⟨(R.held q hq i).1,(hh q hq i).2⟩,R''.npin,R''.pcap,R''.szk⟩
    ·exact(R''.held (s.t,a.tmps) (List.mem_cons_self ..) i).2
    ·exact⟨(R.pin q hq).1,(R''.pin q hq).2⟩
    ·exact⟨(R.opin q hq).1,(R''.opin q hq).2⟩
   ·show VR s'.m loc' _ w' (y9 zs) _
    match zs,us,j2,j3 with
    | [x],[u],_,j3=>
     have:=j3 0 x u rfl rfl
     cases x with
     | tup _=>exact this.elim
     | _=>exact this
    | [],[],_,j3=>exact⟨[],rfl,rfl,λi x y hx=>by simp⟩
    | x1::x2::xr,u1::u2::ur,hlen,j3=>exact⟨_,rfl,hlen,j3⟩
  cases ex with
  | normal=>exact fin hk
  | exit i=>cases hk
  | ret=>exact fin hk
end
end Go.Abs
/- Functions: the interpreter is sound. -/
namespace Go.Abs
open Go
section
variable {P:Program} {E:Env}
theorem HD (hT:TOk P E.ti) {bs rbs:List Nat} {w0:World} {n:Nat} {as:List Arg} {vs:List Value} (hA:y8 w0 as vs bs rbs) {s:St} {m:Mem} {a:Act} {w:World} {loc:Nat->Loc} {ow:Nat->Option Nat}
  (R:Rel w0.heap.size (·∈bs) (·∈rbs) w0 ⟨n,p7 0 as rbs,[],[],0⟩ s.t m a w loc ow) {fr:Bool} {fn:Func} {out:Out} {tr:List Nat} (h:Does m (FF E fr fn as s) out tr):
  ∃ v,(results fn a.tmps).run P w= .ok v w/\∀ rt,dI E fn.resultTypes.toList=some rt->Left fr rt out bs rbs w0 v w/\(iC 7777777 E.h.cut=true->VS rt out bs w0 v w):=by
 unfold FF at h
 obtain⟨⟨xs,wr,p⟩,t1,t2,_,h1,h2⟩:=Does.bind _ _ h
 obtain⟨⟨rs,wr'⟩,t3,t4,_,h3,h4⟩:=Does.bind _ _ h2
 dsimp only at h4
 split at h4
 ·exact h4.elim
 rename_i hfr
 obtain⟨us,rt,k1,k2,⟨ins,k3,k4⟩,k5⟩:=pY hT R _ _ _ _ _ _ h1
 have hsh:(∃ tr,Does m (.ret ⟨xs,rs⟩) out tr)/\(iC 7777777 E.h.cut=true->rs=[]/\∃ ts ins,tA true w rt xs us ts ins/\ts.Nodup/\(∀ b∈ts,w0.heap.size<=b/\b<w.heap.size/\Mut m loc b)/\∀ b∈ins,Ok w0.heap.size (·∈bs) m loc w b):=by
  split at h4
  ·grind
  ·obtain⟨b,t5,t6,_,g1,g2⟩:=Does.bind _ _ h4
   split at g2
   case isFalse=>exact g2.elim
   rename_i hb
   simp only[Bool.and_eq_true] at hb
   obtain⟨⟨rfl,hone⟩,hrs⟩:=hb
   refine⟨⟨_,g2⟩,λ_=>⟨by simp_all,?_⟩⟩
   obtain⟨us',rt',ts,ins',q1,q2,q3,q4⟩:=yD hT R _ _ _ _ _ _ _ h1 g1
   rw[k1] at q1
   cases q1
   rw[k2] at q2
   cases q2
   refine⟨ts,ins',q3,q4.nd hone,λb hb=>?_,q4.inn⟩
   obtain⟨g3,q,hq,e1,e2⟩:=q4.tops b hb
   exact⟨g3,(R.owner e1 e2).2,q.1,e1,e2⟩
 obtain⟨⟨_,rfl,_⟩,hsh⟩:=hsh
 obtain⟨B,j1,j2,j3⟩:=p0 R as 0 vs bs rbs rs wr' t3 hA (λq hq=>hq) h3
 refine⟨rS us,sB k1,λrt' hrt=>?_⟩
 rw[k2] at hrt;cases hrt
 refine⟨?_,λhc=>?_⟩
 case refine_2=>
  obtain⟨_,ts,ins,q1,q2,q3,q4⟩:=hsh hc
  exact⟨us,ts,ins,rfl,q1,q2,λb hb=>⟨(q3 b hb).1,(q3 b hb).2.1⟩,λb hb=>⟨(q4 b hb).1,λh=>(q4 b hb).2.1 (q3 b h).2.2,(q4 b hb).2.2⟩⟩
 -- no allowed block came in by pointer
 have hpins:∀ (cl:List (Nat×Ent)),Took m cl->∀ b,Ok w0.heap.size (·∈bs) (bQ m cl) loc w b->b∉rbs:=by
  intro cl hcl b hb hbr
  obtain⟨q,hq,rfl⟩:=j3 b hbr
  obtain⟨_,⟨ls,p2⟩,p3⟩:=R.pin q hq
  refine hb.2.1 ⟨q.1,?_,by rw[p3];rfl⟩
  rw[cE]
  ·rw[p2];rfl
  ·intro q' hq' e
   obtain⟨ks,zs,d,o,e1,_⟩:=hcl q' hq'
   rw[e,p2] at e1;grind
 have hle:=R.le
 cases fr with
 | false=>
  have made:=Made.append R k4 j2
  have hok:=made.close R
  refine⟨R.keep,R.szk,R.hn0▸R.free,us,[],ins,B,rfl,k3,j1,λb hb=>?_,λb hb=>?_,(λb hb=>by grind),λh=>by grind⟩
  ·have:=hok b (List.mem_append_right _ hb)
   exact⟨this.1,hpins _ made.took b this,this.2.2,by simp⟩
  ·have:=hok b (List.mem_append_left _ hb)
   exact⟨this.1,hpins _ made.took b this,this.2.2.imp id λh=>⟨rfl,h⟩,by simp⟩
 | true=>
  have hpd:p=true/\xG wr wr'=true:=by
   cases p<;>cases hh:xG wr wr'<;>simp[hh] at hfr ⊢
  obtain⟨rfl,hd⟩:=hpd
  obtain⟨ts,ins',k6,k7⟩:=k5 rfl
  have hok:=j2.close R
  rw[wD] at hd
  have htop:∀ b∈ts,w0.heap.size<=b/\b<w.heap.size/\Mut (bQ m wr') loc b:=by
   intro b hb
   obtain⟨q,hq,e1,e2⟩:=k7.tops b hb
   obtain⟨ks,zs,d,o,e3,_⟩:=k7.took q hq
   have hE:=R.ents q.1
   unfold EntR at hE
   rw[e3] at hE
   obtain⟨bss,_,_,hblk,_⟩:=hE
   refine⟨(hblk b e2).1,(hblk b e2).2.1,q.1,?_,e2⟩
   rw[cE _ _ _ λq' hq' e=>hd q hq q' hq' e.symm]
   omega
  refine⟨R.keep,R.szk,R.hn0▸R.free,us,ts,ins',B,rfl,k6,j1,λb hb=>?_,λb hb=>?_,λb hb=>⟨(htop b hb).1,(htop b hb).2.1⟩,λ_=>⟨k7.nd1,k7.nd2⟩⟩
  ·have:=hok b hb
   exact⟨this.1,hpins _ j2.took b this,this.2.2,λh=>this.2.1 (htop b h).2.2⟩
  ·obtain⟨p1,p2,_⟩:=k7.inn b hb
   have p3:Ok w0.heap.size (·∈bs) (bQ m wr') loc w b:=Ok.close j2.took p2
   exact⟨p3.1,hpins _ j2.took b p3,.inl p1,λh=>p3.2.1 (htop b h).2.2⟩
theorem N2 {J:nI} (HI:D4 P J) (hT:TOk P E.ti) (hD:9<=P.depth) (hM:P.follows .mixedOrders=true) {rts:Nat->Option (List Nat)} (hC:∀ g as out,E.call g as=some out->lZ P E.ti rts E.fresh g as out)
  {g:Nat} {fn:Func} (hf:P.funcs[g]? =some fn) (hname:fn.name≠ "runtime.NumGoroutine") (hbody:fn.body.isNone=false) (hn:E.n=fn.ntmps) (hr:rts g=some fn.resultTypes.toList) (hfr:E.fresh g=E.h.fresh) (hsl:E.fresh (g+1000000)=false->iC 7777777 E.h.cut=true)
  {aA:Nat} {as:List Arg} {out:Out} (h:DQ E rts J aA fn as=some out):VU P E.ti rts E.fresh g as out:=by
 refine⟨⟨fn,hf,hname,hbody⟩,λrt hrt vs bs rbs w hA hbs hrbs hnd=>?_⟩
 rw[hr] at hrt
 have hrt':dI E fn.resultTypes.toList=some rt:=by
  rw[<- hrt]
  show dI E _=dI _ _
  apply gK;rfl
 unfold DQ at h
 cases hbase:Nat.beq E.base 0 with
 | false=>rw[hbase] at h;grind
 | true=>
 rw[hbase] at h
 simp only[cond_true] at h
 have hbase':E.base*32=0:=by rw[Nat.eq_of_beq_eq_true hbase]
 obtain⟨s,h1,h2⟩:=Option.bind_eq_some_iff.1 h
 cases hb:fn.body with
 | none=>rw[hb] at hbody;simp_all
 | some c=>
  have hc:dR fn=c:=by unfold dR;rw[hb]
  rw[hc] at h2
  refine calls_of_wp hf hb ?_
  generalize hAA:vs.toArray++Array.replicate (fn.ntmps - vs.toArray.size) undef=A
  have hget:∀ (i:Nat) (v:Value),vs[i]? =some v->A.getD (0+i) undef=v:=by
   intro i v hv
   have hlt:=(List.getElem?_eq_some_iff.1 hv).1
   rw[<- hAA,Nat.zero_add,Array.getD_eq_getD_getElem?,Array.getElem?_append_left (by omega)]
   grind
  have hsize:E.n<=A.size:=by
   rw[hn,<- hAA];grind
  obtain⟨loc,ow,R,_,_⟩:=sX (ti:=E.ti) (A:=A) hbs hrbs fn.params.toList as 0 s vs bs rbs h1 hA (λb hb=>hb) (λb hb=>hb) hnd hget
  refine gP HI hT hD hM hC (N:=⟨A.size,p7 0 as rbs,[],[],0⟩) ⟨hsize,hbase'⟩ aA out c s _ _ ⟨A,[]⟩ w h2 ⟨loc,ow,R⟩ λex s' a' w' hk ⟨loc',ow',R'⟩=>?_
  have fin:(rR (EX s' fn.results.toList) λW=>(FF E E.h.fresh fn as s').over W).run s'.m (λo _=>some o) []=some out->a'.defers=[]/\∃ v,(results fn a'.tmps).run P w'= .ok v w'/\∃ v',Ending.returned v= .returned v'/\Left (E.fresh g) rt out bs rbs w v' w'/\(E.fresh (g+1000000)=false->VS rt out bs w v' w'):=by
   intro hk
   obtain⟨o,tr,hd0,ho⟩:=Does.run _ _ _ hk
   cases ho
   obtain⟨W,tr1,hW,hd1⟩:=lH _ _ _ hd0
   obtain⟨tr2,hd⟩:=Does.over hW _ _ hd1
   obtain⟨loc2,R2,_⟩:=Rel.unpins _ W (Nat.le_refl _) R' hW
   obtain⟨v,k1,k2⟩:=HD hT hA R2 hd
   exact⟨R'.defers,v,k1,v,rfl,by rw[hfr];simp_all,λhc=>(k2 rt hrt').2 (hsl hc)⟩
  cases ex with
  | normal=>exact fin hk
  | exit i=>cases hk
  | ret=>exact fin hk
theorem JY {J:nI} (HI:D4 P J) (hT:TOk P E.ti) (hD:9<=P.depth) (hM:P.follows .mixedOrders=true) {rts:Nat->Option (List Nat)} (hC:∀ g as out,E.call g as=some out->lZ P E.ti rts E.fresh g as out)
  {g:Nat} {fn:Func} (hf:P.funcs[g]? =some fn) (hname:fn.name≠ "runtime.NumGoroutine") (hbody:fn.body.isNone=false) (hn:E.n=fn.ntmps) (hr:rts g=some fn.resultTypes.toList)
  {aA:Nat} {as:List Arg} {out:Out} (h:DR E rts J aA fn as=some out):UL P E.ti rts g as out:=by
 refine⟨⟨fn,hf,hname,hbody⟩,λrt hrt vs ds w hA hbs hnd=>?_⟩
 rw[hr] at hrt
 have hrt':dI E fn.resultTypes.toList=some rt:=by
  rw[<- hrt]
  show dI E _=dI _ _
  apply gK;rfl
 unfold DR at h
 cases hbase:(E.h.pin&&Nat.beq E.base 0)with
 | false=>rw[hbase] at h;grind
 | true=>
 rw[hbase] at h
 simp only[cond_true] at h
 simp only[Bool.and_eq_true] at hbase
 have hbase':E.base*32=0:=by rw[Nat.eq_of_beq_eq_true hbase.2]
 obtain⟨s,h1,h2⟩:=Option.bind_eq_some_iff.1 h
 cases hb:fn.body with
 | none=>rw[hb] at hbody;simp_all
 | some c=>
  have hc:dR fn=c:=by unfold dR;rw[hb]
  rw[hc] at h2
  refine calls_of_wp hf hb ?_
  generalize hAA:vs.toArray++Array.replicate (fn.ntmps - vs.toArray.size) undef=A
  have hget:∀ (i:Nat) (v:Value),vs[i]? =some v->A.getD (0+i) undef=v:=by
   intro i v hv
   have hlt:=(List.getElem?_eq_some_iff.1 hv).1
   rw[<- hAA,Nat.zero_add,Array.getD_eq_getD_getElem?,Array.getElem?_append_left (by omega)]
   grind
  have hsize:E.n<=A.size:=by
   rw[hn,<- hAA];grind
  obtain⟨loc,ow,OP,R,_,_,hown⟩:=qZ (ti:=E.ti) (A:=A) (RB:=uR ds) fn.params.toList as 0 100000 s vs ds h1 hA (λb hb=>⟨hb,hbs b hb⟩) hnd (Nat.le_refl _) hget
  refine gP HI hT hD hM hC (N:=⟨A.size,[],OP,[],0⟩) ⟨hsize,hbase'⟩ aA out c s _ _ ⟨A,[]⟩ w h2 ⟨loc,ow,R⟩ λex s' a' w' hk ⟨loc',ow',R'⟩=>?_
  have fin:(JI E fn as s').run s'.m (λo _=>some o) []=some out->a'.defers=[]/\∃ v,(results fn a'.tmps).run P w'= .ok v w'/\∃ v',Ending.returned v= .returned v'/\LeftP rt as out ds w v' w':=by
   intro hk
   obtain⟨o,tr,hd,ho⟩:=Does.run _ _ _ hk
   cases ho
   unfold JI at hd
   obtain⟨⟨xs,wr,p⟩,t1,t2,_,k1,k2⟩:=Does.bind _ _ hd
   dsimp only at k2
   split at k2
   ·exact k2.elim
   rename_i hfl
   obtain⟨rs,hrs,k3⟩:=k2
   obtain⟨rfl,_⟩:=k3
   obtain⟨us,rt',q1,q2,⟨ins,q3,q4⟩,_⟩:=pY hT R' _ _ _ _ _ _ k1
   rw[hrt'] at q2
   cases q2
   obtain⟨g1,g2⟩:=n8 R' as 100000 vs ds rs hrs hA hown
   exact⟨R'.defers,_,sB q1,_,rfl,R'.keep,R'.szk,R'.free,g2,⟨us,rfl,CJ _ _ _ _ (by simp_all) q3⟩,g1⟩
  cases ex with
  | normal=>exact fin hk
  | exit i=>cases hk
  | ret=>exact fin hk
theorem N1 {J:nI} (HI:D4 P J) (hT:TOk P E.ti) (hD:9<=P.depth) (hM:P.follows .mixedOrders=true) {rts:Nat->Option (List Nat)} (hC:∀ g as out,E.call g as=some out->lZ P E.ti rts E.fresh g as out)
  {g:Nat} {fn:Func} (hf:P.funcs[g]? =some fn) (hname:fn.name≠ "runtime.NumGoroutine") (hbody:fn.body.isNone=false) (hn:E.n=fn.ntmps) (hr:rts g=some fn.resultTypes.toList) (hfr:E.fresh g=E.h.fresh) (hsl:E.fresh (g+1000000)=false->iC 7777777 E.h.cut=true)
  {aA:Nat} {as:List Arg} {out:Out} (h:w9 E rts J aA fn as=some out):lZ P E.ti rts E.fresh g as out:=by
 unfold w9 at h
 unfold lZ
 cases hno:noOwn as with
 | true=>
  rw[hno] at h
  rw[if_pos rfl]
  exact N2 HI hT hD hM hC hf hname hbody hn hr hfr hsl h
 | false=>
  rw[hno] at h
  rw[if_neg (by simp)]
  exact JY HI hT hD hM hC hf hname hbody hn hr h
/-- The program's functions are as the table says. -/
structure PrgOk (P:Program) (p:Prg):Prop where
 ti:TOk P p.ti
 depth:9<=P.depth
 mixed:P.follows .mixedOrders=true
 shal:∀ g,(p.hint (g+1000000)).fresh=false->iC 7777777 (p.hint g).cut=true
 fn:∀ g fn,p.fn g=some fn->P.funcs[g]? =some fn/\fn.name≠ "runtime.NumGoroutine" /\fn.body.isNone=false
 own:∀ g F,p.own g=some F->∀ as out,F as=some out->lZ P p.ti p.rts (λg=>(p.hint g).fresh) g as out
theorem SQ{unf:List Nat}{cut:Nat->List Nat}(h:(unf.all λx=>Nat.blt x 1000000||iC 7777777 (cut (x - 1000000)))=true)(g:Nat)(hf:(!iC (g+1000000) unf)=false):iC 7777777 (cut g)=true:=by
 have hm:g+1000000∈unf:=(oW _ _).1 (by simp_all)
 have:=List.all_eq_true.1 h _ hm
 rw[Bool.or_eq_true] at this
 rcases this with h1 | h1
 ·have:g+1000000<1000000:=by simp_all
  omega
 simp_all
theorem xT{p:Prg}(hp:PrgOk P p):∀ (n g:Nat) (as:List Arg) (out:Out),aJ p n g as=some out->lZ P p.ti p.rts (λg=>(p.hint g).fresh) g as out
 | 0,g,as,out,h=>by cases h
 | n +1,g,as,out,h=>by
  unfold aJ at h
  split at h
  ·rename_i F hF
   exact hp.own g F hF as out h
  ·split at h
   ·rename_i fn hfn
    obtain⟨aA,hr⟩:=U8 h
    obtain⟨k1,k2,k3⟩:=hp.fn g fn hfn
    exact N1 (DN (E:={ ti:=p.ti,n:=fn.ntmps,call:=aJ p n,fresh:=λg=>(p.hint g).fresh,owns:=λg=>(p.hint g).own,h:=p.hint g }) hp.fn hp.ti hp.depth hp.mixed (λg as out h=>xT hp n g as out h) aA 3) (E:={ ti:=p.ti,n:=fn.ntmps,call:=aJ p n,fresh:=λg=>(p.hint g).fresh,owns:=λg=>(p.hint g).own,h:=p.hint g }) hp.ti hp.depth hp.mixed (λg as out h=>xT hp n g as out h) k1 k2 k3 rfl
     (by show(p.fn g).map _=_;rw[hfn];rfl) rfl (hp.shal g) hr
   simp_all
end
end Go.Abs
/- Given readings told as rows. -/
namespace Go.Abs
open Go
mutual
/-- A row's numbers and lengths are such as a machine holds. -/
def WF:(k:Kd)->k.T->Prop
 | .int k,n=>(Lit.int k n).wf=true
 | .bool,_=>True
 | .str,s=>ByteArray.size s<=maxLen
 | .fn,_=>True
 | .sl ks,xs=>List.length xs<=maxLen/\∀ (i:Nat) (r:Row ks),at? xs i=some r->nH ks r
def nH:(ks:List Kd)->Row ks->Prop
 | [],_=>True
 | k::ks,r=>WF k r.1/\nH ks r.2
end
/-- The kinds of a struct's cells, by its fields. -/
def iQ(ti:Ti)(size:Nat):List (Nat×Nat)->Nat->Option (List Kd)
 | [],off=>if off=size then some [] else none
 | (o,u)::r,off=>if o=off then(ti u).bind λj=>if j.plain then(iQ ti size r (off+j.size)).map (j.kinds++·)else none else none
def CK(ti:Ti)(i:TyI):Prop:=
 match i.tag with
 | .int k=>i.kinds=[.int k]
 | .bool=>i.kinds=[.bool]
 | .string=>i.kinds=[.str]
 | .slice=>∃ j,ti i.elem=some j/\j.plain=true/\i.kinds=[.sl j.kinds]/\j.size≠0
 | .struct=>iQ ti i.size i.fields 0=some i.kinds
 | _=>True
def KOk(ti:Ti):Prop:=∀ t i,ti t=some i->CK ti i
section
variable {w:World}
theorem RR.append:∀ (ks ks':List Kd) (r:Row ks) (r':Row ks') (us us':List Value) (bs bs':List Nat),RR w ks r us bs->RR w ks' r' us' bs'->nH ks r->nH ks' r'->∃ z:Row (ks++ks'),RR w (ks++ks') z (us++us') (bs++bs')/\nH (ks++ks') z
 | [],ks',r,r',us,us',bs,bs',⟨e1,e2⟩,h',_,o'=>by grind
 | k::ks,ks',r,r',us,us',bs,bs',⟨u,u2,b,b2,e1,e2,h1,h2⟩,h',⟨o1,o2⟩,o'=>by
  subst e1 e2
  obtain⟨z,hz,oz⟩:=RR.append ks ks' r.2 r' u2 us' b2 bs' h2 h' o2 o'
  exact⟨(r.1,z),⟨u,u2++us',b,b2++bs',rfl,by simp,h1,hz⟩,o1,oz⟩
theorem LL{α:Type}(Pr:Nat->α->Prop):∀ n,(∀ i,i<n->∃ y,Pr i y)->∃ l:List α,l.length=n/\∀ i y,l[i]? =some y->Pr i y
 | 0,_=>⟨[],rfl,λi y h=>by grind⟩
 | n+1,h=>by
  obtain⟨l,hl,hp⟩:=LL Pr n λi hi=>h i (by omega)
  obtain⟨y,hy⟩:=h n (by omega)
  refine⟨l++[y],by grind,λi z hz=>?_⟩
  grind
theorem uP{base:Nat}{a:Addr}{n:Nat}{cs:List Value}(h:w.cells? base a n=some cs):cs.length=n/\∀ j u,cs[j]? =some u->(a.add j).spot=none/\w.cell? ⟨a.block,a.off+j,none⟩=some u:=by
 unfold World.cells? at h
 split at h
 case isFalse=>grind
 have hl:cs.length=n:=by simpa using mapM_some_length h
 refine⟨hl,λj u hj=>?_⟩
 have hjn:j<n:=by grind
 have hv:w.cell? (a.add j)=some u:=(mapM_some_get h j j (by simp_all)).trans hj
 have hspot:(a.add j).spot=none:=by
  cases hsp:(a.add j).spot with
  | none=>rfl
  | some s=>
   simp only[World.cell?] at hv
   grind
 refine⟨hspot,?_⟩
 have e:a.add j=⟨a.block,a.off+j,none⟩:=by
  unfold Addr.add at hspot ⊢
  split
  ·rename_i h0
   subst h0
   rw[if_pos rfl] at hspot
   cases a
   grind
  ·rfl
 rw[<- e];omega
variable {P:Program} {ti:Ti} {H:Type} {enc:TypeId×Value->H} {n:Nat}
theorem TyOk.cellsOf{t:Nat}{i:TyI}(T:TyOk P t i):P.cellsOf t=i.size:=by
 obtain⟨inf,h1,h2,_⟩:=T.info
 simp[Program.cellsOf,h1,h2]
theorem yY (IH:∀ (u:Nat) (j:TyI) (cs:List Value) (x:DataW H×List MemPlace),ti u=some j->j.plain=true->DataW.trod enc P w 0 (λ_=>true) true n u cs=some x->∃ row bs,RR w j.kinds row cs bs/\nH j.kinds row/\∀ b∈bs,b<w.heap.size)
  (hT:TOk P ti) (size:Nat) (cs:List Value) (hl:cs.length=size):∀ (fs:List (Nat×Nat)) (off:Nat) (ks:List Kd),iQ ti size fs off=some ks->off<=size->
   (∀ p∈fs,∃ x,DataW.trod enc P w 0 (λ_=>true) true n p.2 ((cs.drop p.1).take (P.cellsOf p.2))=some x)->∃ row bs,RR w ks row (cs.drop off) bs/\nH ks row/\∀ b∈bs,b<w.heap.size
 | [],off,ks,h,hle,_=>by
  unfold iQ at h
  split at h
  ·rename_i e;cases h
   refine⟨(),[],⟨List.drop_eq_nil_of_le (by omega),rfl⟩,trivial,λb hb=>by grind⟩
  simp_all
 | (o,u)::r,off,ks,h,hle,hx=>by
  unfold iQ at h
  split at h
  case isFalse=>grind
  rename_i ho
  subst ho
  obtain⟨j,hj,h⟩:=Option.bind_eq_some_iff.1 h
  split at h
  case isFalse=>grind
  rename_i hp
  obtain⟨ks',hks,rfl⟩:=Option.map_eq_some_iff.1 h
  obtain⟨x,hx0⟩:=hx (o,u) (List.mem_cons_self ..)
  have hT':=hT u j hj
  have hsz:P.cellsOf u=j.size:=hT'.cellsOf
  dsimp only at hx0
  rw[hsz] at hx0
  obtain⟨row,bs,h1,h2,h3⟩:=IH u j _ x hj hp hx0
  have hlen:=RR.length _ _ _ _ h1
  have hk:=hT'.kinds_len (mO hp)
  rw[hk] at hlen
  have hle':o+j.size<=size:=by
   grind
  obtain⟨row',bs',k1,k2,k3⟩:=yY IH hT size cs hl r (o+j.size) ks' hks hle' λp hp=>hx p (List.mem_cons_of_mem _ hp)
  obtain⟨z,hz,oz⟩:=RR.append _ _ _ _ _ _ _ _ h1 k1 h2 k2
  refine⟨z,bs++bs',?_,oz,λb hb=>?_⟩
  ·have e:cs.drop o=(cs.drop o).take j.size++cs.drop (o+j.size):=by
    rw[<- List.drop_drop,List.take_append_drop]
   rw[e];omega
  grind
/-- A reading of a plain type's cells, told as a row. -/
theorem AQ(hT:TOk P ti)(hK:KOk ti):∀ (n:Nat) (t:Nat) (i:TyI) (cs:List Value) (x:DataW H×List MemPlace),ti t=some i->i.plain=true->DataW.trod enc P w 0 (λ_=>true) true n t cs=some x->
  ∃ row bs,RR w i.kinds row cs bs/\nH i.kinds row/\∀ b∈bs,b<w.heap.size
 | 0,_,_,_,_,_,_,h=>by simp[DataW.trod] at h
 | n + 1,t,i,cs,x,hi,hp,h=>by
  have T:=hT t i hi
  have hu:=T.und
  have hk:=hK t i hi
  unfold CK at hk
  unfold TyI.plain at hp
  cases htag:i.tag with
  | ptr=>rw[htag] at hp;grind
  | other=>rw[htag] at hp;grind
  | int k=>
   rw[htag] at hu hk
   dsimp only at hu hk
   obtain⟨m,rfl,_,hw⟩:=DataW.trod_int hu h
   rw[hk]
   exact⟨(m,()),[],⟨_,[],[],[],rfl,rfl,⟨rfl,rfl⟩,rfl,rfl⟩,⟨hw,trivial⟩,λb hb=>by grind⟩
  | bool=>
   rw[htag] at hu hk
   dsimp only at hu hk
   obtain⟨m,rfl,_⟩:=DataW.trod_bool hu h
   rw[hk]
   exact⟨(m,()),[],⟨_,[],[],[],rfl,rfl,⟨rfl,rfl⟩,rfl,rfl⟩,⟨trivial,trivial⟩,λb hb=>by grind⟩
  | string=>
   rw[htag] at hu hk
   dsimp only at hu hk
   obtain⟨m,rfl,_,hw⟩:=DataW.trod_string hu h
   rw[hk]
   exact⟨(m,()),[],⟨_,[],[],[],rfl,rfl,⟨rfl,rfl⟩,rfl,rfl⟩,⟨hw,trivial⟩,λb hb=>by grind⟩
  | slice=>
   rw[htag] at hu hk
   dsimp only at hu hk
   obtain⟨j,hj,hjp,hks,hj0⟩:=hk
   have hT':=hT i.elem j hj
   have hsz:P.cellsOf i.elem=j.size:=hT'.cellsOf
   have hkl:=hT'.kinds_len (mO hjp)
   rw[hks]
   rcases DataW.trod_slice hu h with ⟨rfl,_⟩ | ⟨A,len,cap,elems,rest,n',hn',rfl,_,_,hlc,hcm,hel,hrd,_⟩
   ·exact⟨(([]:List (Row j.kinds)),()),[],⟨_,[],[],[],rfl,rfl,⟨none,0,rfl,Nat.le_refl _,.inl ⟨rfl,rfl⟩⟩,rfl,rfl⟩,⟨⟨Nat.zero_le _,λi r h=>by simp[at?] at h⟩,trivial⟩,λb hb=>by grind⟩
   ·cases hn'
    rw[hsz] at hrd
    have hrow:∀ q,q<len->∃ y:Row j.kinds×List Nat×List Value,w.cells? 0 (A.add (q*j.size)) j.size=some y.2.2/\RR w j.kinds y.1 y.2.2 y.2.1/\nH j.kinds y.1/\∀ b∈y.2.1,b<w.heap.size:=by
     intro q hq
     have h1:=hrd q hq
     have h2:elems[q]? =some elems[q]:=List.getElem?_eq_getElem (by omega)
     rw[h2] at h1
     obtain⟨cs',h3,h4⟩:=Option.bind_eq_some_iff.1 h1
     obtain⟨row,bs,k1,k2,k3⟩:=AQ hT hK n i.elem j cs' _ hj hjp h4
     exact⟨(row,bs,cs'),h3,k1,k2,k3⟩
    obtain⟨l,hl,hl2⟩:=LL _ len hrow
    have hxl:List.length (l.map (·.1))=len:=by grind
    have hget:∀ (q:Nat) (r:Row j.kinds),(l.map (·.1))[q]? =some r->∃ y,l[q]? =some y/\y.1=r:=by
     simp
    have hok:nH [.sl j.kinds] ((l.map (·.1):List (Row j.kinds)),()):=by
     refine⟨⟨by rw[hxl];omega,λq r hq=>?_⟩,trivial⟩
     obtain⟨y,hy,rfl⟩:=hget q r hq
     grind
    by_cases h0:len=0
    ·subst h0
     have:l=[]:=List.eq_nil_of_length_eq_zero hl
     subst this
     exact⟨(([]:List (Row j.kinds)),()),[],⟨_,[],[],[],rfl,rfl,⟨some A,cap,rfl,Nat.zero_le _,.inl ⟨rfl,rfl⟩⟩,rfl,rfl⟩,hok,λb hb=>by grind⟩
    ·have hy0:l[0]? =some l[0]:=List.getElem?_eq_getElem (by omega)
     have hc0:=(hl2 0 _ hy0).1
     have hcs:=uP hc0
     have hz:0*j.size=0:=Nat.zero_mul _
     rw[hz] at hcs
     have hadd:A.add 0=A:=by rfl
     rw[hadd] at hcs
     have hj1:0<l[0].2.2.length:=by rw[hcs.1];omega
     obtain⟨s1,s2⟩:=hcs.2 0 _ (List.getElem?_eq_getElem hj1)
     rw[hadd] at s1
     obtain⟨Ab,Ao,As⟩:=A
     have s1':As=none:=s1
     subst s1'
     have hAb:Ab<w.heap.size:=World.block_lt_of_cell? w _ s2
     refine⟨((l.map (·.1):List (Row j.kinds)),()),Ab::List.flatten (l.map (·.2.1)),⟨_,[],Ab::List.flatten (l.map (·.2.1)),[],rfl,by simp,⟨some ⟨Ab,Ao,none⟩,cap,by rw[hxl],by rw[hxl];omega,.inr ⟨Ab,Ao,l.map (·.2.1),rfl,by simp,rfl,λq r bb hq hb=>?_⟩⟩,rfl,rfl⟩,hok,λb hb=>?_⟩
     ·obtain⟨y,hy,rfl⟩:=hget q r hq
      rw[List.getElem?_map,hy] at hb
      cases hb
      obtain⟨k1,k2,k3,_⟩:=hl2 q y hy
      refine⟨y.2.2,k2,RR.length _ _ _ _ k2,λc u hc=>?_⟩
      have:=((uP k1).2 c u hc).2
      rw[Addr.add_lit] at this
      rw[hkl]
      omega
     ·rcases List.mem_cons.1 hb with rfl | hb
      ·omega
      ·obtain⟨bb,hbb,hb⟩:=List.mem_flatten.1 hb
       obtain⟨y,hy,rfl⟩:=List.mem_map.1 hbb
       obtain⟨q,hq,e⟩:=List.mem_iff_getElem.1 hy
       grind
  | struct=>
   rw[htag] at hu hk
   dsimp only at hu hk
   obtain⟨fs,hfs,hmap,_⟩:=hu
   obtain⟨xs,n',hn',_,hlen,_,hxs⟩:=DataW.trod_struct hfs h
   cases hn'
   have hsz:P.cellsOf t=i.size:=T.cellsOf
   rw[hsz] at hlen
   have:=yY (n:=n) (λu j cs x hj hp h=>AQ hT hK n u j cs x hj hp h) hT i.size cs hlen i.fields 0 i.kinds hk (Nat.zero_le _) (λp hp=>by
    rw[<- hmap] at hp
    obtain⟨f,hf,rfl⟩:=List.mem_map.1 hp
    obtain⟨k,hk',e⟩:=List.mem_iff_getElem.1 hf
    have hk2:k<fs.size:=by omega
    have h1:=hxs k f (by rw[Array.getElem?_eq_getElem hk2];simp_all)
    simp_all)
   simp_all
end
end Go.Abs
/- Given readings read again. -/
namespace Go.Abs
open Go
section
variable {P:Program} {ti:Ti} {H:Type} {enc:TypeId×Value->H} {w w':World}
theorem FC{α β:Type}{f g:α->Option β}{l:List α}{r:List β}(h:l.mapM f=some r)(hfg:∀ x y,x∈l->f x=some y->g x=some y):l.mapM g=some r:=
 mapM_carry h λx y hx _ he=>hfg x y hx he
theorem EW(hT:TOk P ti)(hK:KOk ti){sp:Nat->Bool}(hsp:∀ b,b<w.heap.size->sp b=true):∀ (n:Nat) (t:Nat) (i:TyI) (cs:List Value) (x:DataW H×List MemPlace),ti t=some i->i.plain=true->
  DataW.trod enc P w 0 (λ_=>true) true n t cs=some x->DataW.trod enc P w 0 sp true n t cs=some x
 | 0,_,_,_,_,_,_,h=>by simp[DataW.trod] at h
 | n + 1,t,i,cs,x,hi,hp,h=>by
  have T:=hT t i hi
  have hu:=T.und
  have hk:=hK t i hi
  unfold CK at hk
  unfold TyI.plain at hp
  cases htag:i.tag with
  | ptr=>rw[htag] at hp;grind
  | other=>rw[htag] at hp;grind
  | int k=>
   rw[htag] at hu
   dsimp only at hu
   obtain⟨m,rfl,_,hw⟩:=DataW.trod_int hu h
   unfold DataW.trod at h ⊢
   rw[hu] at h ⊢
   omega
  | bool=>
   rw[htag] at hu
   dsimp only at hu
   obtain⟨m,rfl,_⟩:=DataW.trod_bool hu h
   unfold DataW.trod at h ⊢
   rw[hu] at h ⊢
   omega
  | string=>
   rw[htag] at hu
   dsimp only at hu
   obtain⟨m,rfl,_,hw⟩:=DataW.trod_string hu h
   unfold DataW.trod at h ⊢
   rw[hu] at h ⊢
   omega
  | slice=>
   rw[htag] at hu hk
   dsimp only at hu hk
   obtain⟨j,hj,hjp,hks,hj0⟩:=hk
   have hT':=hT i.elem j hj
   have hsz:P.cellsOf i.elem=j.size:=hT'.cellsOf
   rcases DataW.trod_slice hu h with ⟨rfl,_⟩ | ⟨A,len,cap,elems,rest,n',hn',rfl,_,_,hlc,hcm,hel,hrd,hrest,_⟩
   ·unfold DataW.trod at h ⊢
    rw[hu] at h ⊢
    omega
   ·cases hn'
    have hblk:0<cap->sp A.block=true:=by
     intro hc
     refine hsp _ ?_
     have hsome:∃ cs',w.cells? 0 (A.add (0*j.size)) j.size=some cs':=by
      by_cases h0:len=0
      ·have h1:=(hrest rfl).2 0 (by omega)
       obtain⟨y0,h2⟩:∃ y0,rest[0]? =some y0:=⟨_,List.getElem?_eq_getElem (show 0<rest.length by simp_all)⟩
       rw[h2,hsz,Nat.add_zero,h0] at h1
       obtain⟨cs',h3,_⟩:=Option.bind_eq_some_iff.1 h1
       simp_all
      ·have h1:=hrd 0 (by omega)
       obtain⟨y0,h2⟩:∃ y0,elems[0]? =some y0:=⟨_,List.getElem?_eq_getElem (show 0<elems.length by omega)⟩
       rw[h2,hsz] at h1
       obtain⟨cs',h3,_⟩:=Option.bind_eq_some_iff.1 h1
       simp_all
     obtain⟨cs',h3⟩:=hsome
     have hcs:=uP h3
     have hz:0*j.size=0:=Nat.zero_mul _
     rw[hz] at hcs
     have hadd:A.add 0=A:=by rfl
     rw[hadd] at hcs
     have hj1:0<cs'.length:=by rw[hcs.1];omega
     exact World.block_lt_of_cell? w ⟨A.block,A.off+0,none⟩ (hcs.2 0 _ (List.getElem?_eq_getElem hj1)).2
    unfold DataW.trod at h ⊢
    rw[hu] at h ⊢
    dsimp only at h ⊢
    split at h
    case isFalse=>omega
    rename_i hcond
    rw[if_pos hcond]
    have step:∀ (q:Nat) (y:DataW H×List MemPlace),(w.cells? 0 (A.add (q*P.cellsOf i.elem)) (P.cellsOf i.elem)).bind (DataW.trod enc P w 0 (λ_=>true) true n i.elem)=some y->
      (w.cells? 0 (A.add (q*P.cellsOf i.elem)) (P.cellsOf i.elem)).bind (DataW.trod enc P w 0 sp true n i.elem)=some y:=by
     intro q y hq
     obtain⟨cs',h1,h2⟩:=Option.bind_eq_some_iff.1 hq
     exact Option.bind_eq_some_iff.2 ⟨cs',h1,EW hT hK hsp n i.elem j cs' y hj hjp h2⟩
    obtain⟨es,he,h2⟩:=Option.bind_eq_some_iff.1 h
    refine Option.bind_eq_some_iff.2 ⟨es,FC he λq y _ hq=>step q y hq,?_⟩
    obtain⟨rs,hr,h3⟩:=Option.map_eq_some_iff.1 h2
    refine Option.map_eq_some_iff.2 ⟨rs,?_,h3⟩
    rw[if_pos rfl] at hr
    by_cases hc:0<cap
    ·rw[if_pos (hblk hc)]
     exact FC hr λq y _ hq=>step _ y hq
    simp_all
  | struct=>
   rw[htag] at hu hk
   dsimp only at hu hk
   obtain⟨fs,hfs,hmap,_⟩:=hu
   have hfield:∀ f∈fs.toList,∃ j,ti f.type=some j/\j.plain=true:=by
    have key:∀ (l:List (Nat×Nat)) (off:Nat) (ks:List Kd),iQ ti i.size l off=some ks->∀ p∈l,∃ j,ti p.2=some j/\j.plain=true:=by
     intro l
     induction l with
     | nil=>simp
     | cons q r ih=>
      intro off ks h p hp
      obtain⟨o,u⟩:=q
      unfold iQ at h
      split at h
      case isFalse=>grind
      obtain⟨j,hj,h⟩:=Option.bind_eq_some_iff.1 h
      split at h
      case isFalse=>grind
      rename_i hpp
      obtain⟨ks',hks,_⟩:=Option.map_eq_some_iff.1 h
      grind
    intro f hf
    exact key i.fields 0 i.kinds hk (f.offset,f.type) (by rw[<- hmap];grind)
   unfold DataW.trod at h ⊢
   rw[hfs] at h ⊢
   have h':(if cs.length=P.cellsOf t then(fs.toList.mapM λf=>DataW.trod enc P w 0 (λ_=>true) true n f.type ((cs.drop f.offset).take (P.cellsOf f.type))).map λxs=>(DataW.agg (xs.map (·.1)),xs.flatMap (·.2))else none)=some x:=by
    split at h<;>first | exact h | simp_all
   have goal':(if cs.length=P.cellsOf t then(fs.toList.mapM λf=>DataW.trod enc P w 0 sp true n f.type ((cs.drop f.offset).take (P.cellsOf f.type))).map λxs=>(DataW.agg (xs.map (·.1)),xs.flatMap (·.2))else none)=some x:=by
    split at h'
    case isFalse=>grind
    rename_i hl
    rw[if_pos hl]
    obtain⟨xs,h1,h2⟩:=Option.map_eq_some_iff.1 h'
    refine Option.map_eq_some_iff.2 ⟨xs,FC h1 λf y hf hy=>?_,h2⟩
    obtain⟨j,hj,hjp⟩:=hfield f hf
    exact EW hT hK hsp n f.type j _ y hj hjp hy
   split<;>first | exact goal' | simp_all
theorem UW (hT:TOk P ti) (hK:KOk ti) {sp:Nat->Bool} (hsp:∀ b,b<w.heap.size->sp b=true) (hh:∀ b,b<w.heap.size->w'.heap[b]? =w.heap[b]?) {n t:Nat} {i:TyI} {cs:List Value} {x:DataW H×List MemPlace} (hi:ti t=some i) (hp:i.plain=true)
  (h:DataW.trod enc P w 0 (λ_=>true) true n t cs=some x):DataW.trod enc P w' 0 sp true n t cs=some x:=by
 refine DataW.trod_carry n t cs x (EW hT hK hsp n t i cs x hi hp h) λp hp=>?_
 have hlt:=DataW.trod_lt n t cs x h p hp
 cases p with
 | cell b off=>exact World.cell?_of_block (w:=w) (hh b hlt)
 | map b=>exact hh b hlt
end
end Go.Abs
/- A law: for every input it answers true, and its arguments read as they did. -/
namespace Go.Abs
open Go
section
variable {P:Program} {ti:Ti} {H:Type} {enc:TypeId×Value->H} {w w':World}
def AsR(ti:Ti):List Nat->List Arg->Prop
 | [],as=>as=[]
 | t::ts,as=>∃ i row as',ti t=some i/\as= .val i.agg ⟨i.kinds,row⟩::as'/\nH i.kinds row/\AsR ti ts as'
theorem EP(hT:TOk P ti){t:Nat}{i:TyI}(hi:ti t=some i)(hp:i.plain=true){base:Nat}{v:Value}(h:Value.okWide P w .any base t v):CI i.agg v.cells.toList v:=by
 have hu:=(hT t i hi).und
 unfold TyI.plain at hp
 unfold Value.okWide at h
 unfold TyI.agg
 cases htag:i.tag with
 | ptr=>rw[htag] at hp;grind
 | other=>rw[htag] at hp;grind
 | struct=>
  rw[htag] at hu
  obtain⟨fs,hfs,_⟩:=hu
  rw[hfs] at h
  obtain⟨cs,rfl,_⟩:=h
  exact .inl ⟨rfl,by rfl⟩
 | int k=>
  rw[htag] at hu
  dsimp only at hu
  rw[hu] at h
  dsimp only at h
  unfold Cell.okWide Cell.ok at h
  rw[hu] at h
  refine .inr ⟨rfl,?_⟩
  cases v<;>first | rfl | simp_all
 | bool=>
  rw[htag] at hu
  dsimp only at hu
  rw[hu] at h
  dsimp only at h
  unfold Cell.okWide Cell.ok at h
  rw[hu] at h
  refine .inr ⟨rfl,?_⟩
  cases v<;>first | rfl | simp_all
 | string=>
  rw[htag] at hu
  dsimp only at hu
  rw[hu] at h
  dsimp only at h
  unfold Cell.okWide Cell.ok at h
  rw[hu] at h
  refine .inr ⟨rfl,?_⟩
  cases v<;>first | rfl | simp_all
 | slice=>
  rw[htag] at hu
  dsimp only at hu
  rw[hu] at h
  dsimp only at h
  unfold Cell.okWide Cell.ok at h
  rw[hu] at h
  refine .inr ⟨rfl,?_⟩
  cases v<;>first | rfl | simp_all
theorem GO(hT:TOk P ti)(hK:KOk ti):∀ (ts:List Nat) (vs:List Value) (ds:List (DataW H)) (ps:List MemPlace),(∀ t∈ts,∃ i,ti t=some i/\i.plain=true)->DataW.TrodAll enc P w 0 (λ_=>true) true ts vs ds ps->
  (∀ (j:Nat) (t:Nat) (v:Value),ts[j]? =some t->vs[j]? =some v->∃ base,Value.okWide P w .any base t v)->
  ∃ as bs,y8 w as vs bs []/\AsR ti ts as/\(∀ b∈bs,b<w.heap.size)/\ds.length=ts.length/\
   ∀ (w':World) (sp:Nat->Bool),(∀ b,b<w.heap.size->sp b=true)->(∀ b,b<w.heap.size->w'.heap[b]? =w.heap[b]?)->DataW.TrodAll enc P w' 0 sp true ts vs ds ps
 | [],[],[],ps,_,h,_=>⟨[],[],⟨rfl,rfl,rfl⟩,rfl,(λb hb=>by grind),rfl,λ_ _ _ _=>h⟩
 | t::ts,v::vs,d::ds,ps,hts,⟨p,q,⟨n,h1⟩,h2,e⟩,hv=>by
  obtain⟨i,hi,hp⟩:=hts t (List.mem_cons_self ..)
  obtain⟨row,bs,k1,k2,k3⟩:=AQ hT hK n t i _ _ hi hp h1
  obtain⟨as,bs',j1,j2,j3,j4,j5⟩:=GO hT hK ts vs ds q (λt ht=>hts t (List.mem_cons_of_mem _ ht)) h2 (λj t v h3 h4=>hv (j+1) t v (by simp_all) (by simp_all))
  obtain⟨base,hb⟩:=hv 0 t v rfl rfl
  refine⟨.val i.agg ⟨i.kinds,row⟩::as,bs++bs',⟨v,vs,bs,bs',[],[],rfl,rfl,rfl,⟨rfl,_,EP hT hi hp hb,k1⟩,j1⟩,⟨i,row,as,hi,rfl,k2,j2⟩,λb hb=>?_,by grind,λw' sp hsp hh=>⟨p,q,⟨n,UW hT hK hsp hh hi hp h1⟩,j5 w' sp hsp hh,e⟩⟩
  grind
 | [],_::_,_,_,_,h,_=>h.elim
 | [],[],_::_,_,_,h,_=>h.elim
 | _::_,[],_,_,_,h,_=>h.elim
 | _::_,_::_,[],_,_,h,_=>h.elim
def nM:Out:=⟨[⟨[.bool],(true,())⟩],[]⟩
theorem AsR.noOwn:∀ (ts:List Nat) (as:List Arg),AsR ti ts as->noOwn as=true
 | [],as,h=>by rw[show as=[] from h];rfl
 | t::ts,as,⟨i,row,as',_,e,_,h⟩=>by rw[e];exact AsR.noOwn ts as' h
theorem law_contract {p:Prg} (hP:PrgOk P p) (hK:KOk p.ti) {f:Nat} {fn:Func} {s:ChangeSpec} {conds:List PathCond} {a:Assume} {apart fresh handsOn:Bool}
  (hpar:∀ t∈fn.params.toList,∃ i,p.ti t=some i/\i.plain=true) {rt:Nat} (hres:fn.resultTypes.toList=[rt]) (hrt:P.underlying rt=some .bool)
  (hrts:(p.rts f).bind (dI { ti:=p.ti,n:=0,call:=λ_ _=>none,fresh:=λg=>(p.hint g).fresh,owns:=λ_=>false,h:=⟨false,[],[],false,false,[],[],[],[]⟩ })=some [(false,[.bool])])
  (hvars:s.vars=[]) (hs:∀ ds:List (DataW H),ds.length=fn.params.toList.length->s.fn H ds={ results:=[.lit (.bool true)],args:=ds })
  (hlaw:∀ as,AsR p.ti fn.params.toList as->∃ n,aJ p n f as=some nM)
  (W:World) (base:Nat) (args:Array Value) (ds gs:List (DataW H)) (before:List MemPlace) (hval:∀ (j:Nat) t v,fn.params[j]? =some t->args[j]? =some v->Value.okWide P W .any base t v)
  (hW:DataW.Whole enc P fn.params.toList s.vars apart W args.toList ds gs before):Calls P f args W λe W'=>∃ v,e= .returned v/\s.post enc P fn apart fresh handsOn false W args v W':=by
 have hW':=hW
 obtain⟨pp,q,hA,hV,rfl,hfz,hnd⟩:=hW
 rw[hvars] at hV
 obtain⟨as,bs,h1,h2,h3,h4,h5⟩:=GO hP.ti hK fn.params.toList args.toList ds pp hpar hA (λj t v h1 h2=>⟨base,hval j t v (by simp_all) (by simp_all)⟩)
 obtain⟨n,hn⟩:=hlaw as h2
 have hfit:=xT hP n f as nM hn
 unfold lZ at hfit
 rw[if_pos (AsR.noOwn _ _ h2)] at hfit
 have hcall:=hfit.2 _ hrts args.toList bs [] W h1 (λb hb=>⟨h3 b hb,by simp⟩) (λb hb=>by grind) List.nodup_nil
 have hgs:gs=[]/\q=[]:=by
  cases gs with
  | nil=>exact⟨rfl,hV⟩
  | cons=>exact hV.elim
 obtain⟨rfl,rfl⟩:=hgs
 rw[Array.toArray_toList] at hcall
 refine Calls.mono hcall ?_
 rintro e W' ⟨v,rfl,⟨hk,_,_,us,ts,ins,B,hv,hR,_,_,_,_,_⟩,_⟩
 refine⟨v,rfl,?_⟩
 have hvt:v= .bool true:=by
  obtain⟨c,cs',u,us',uu,t,t',i,i',e1,e2,e3,e4,hsh,hrow,hrest⟩:=hR
  have e1':[(⟨[.bool],(true,())⟩:CRow)]=c::cs':=e1
  injection e1' with e5 e6
  subst e5 e6
  obtain⟨_,hus',_⟩:=hrest
  subst hus'
  have huu:uu=[.bool true]:=by
   unfold T0 at hrow
   split at hrow
   ·obtain⟨x,us'',ee,ht,hnil⟩:=hrow
    obtain⟨hx,_⟩:=ht
    obtain⟨hy,_⟩:=hnil
    rw[ee,hx,hy]
   ·obtain⟨_,x,us'',b1,b2,ee,_,ht,hnil⟩:=hrow
    obtain⟨hx,_⟩:=ht
    obtain⟨hy,_⟩:=hnil
    rw[ee,hx,hy]
  rw[hv,e2]
  rcases hsh with ⟨hf,_⟩ | ⟨_,hsh⟩
  ·grind
  ·rw[huu] at hsh
   injection hsh with hsh
   exact hsh.symm
 subst hvt
 have hsz:fn.resultTypes.size=1:=by
  have:fn.resultTypes.toList.length=1:=by rw[hres];rfl
  omega
 have hheap:∀ b,b<W.heap.size->W'.heap[b]? =W.heap[b]? :=λb hb=>hk.block b hb (by simp)
 refine⟨ds,[],pp++[],[],pp,[],hW',?_,?_,?_,?_,λh=>by grind⟩
 ·rw[hres,List.append_nil,hs ds h4,hsz]
  refine⟨[],[],⟨1,?_⟩,rfl,rfl⟩
  show DataW.trod enc P W' _ _ handsOn 1 rt [.bool true]=_
  unfold DataW.trod
  rw[hrt]
 ·rw[List.append_nil,hs ds h4]
  simp_all
 ·rw[hvars,List.append_nil,hs ds h4];rfl
 ·refine⟨hk.os,hk.output,λi hi=>?_⟩
  grind
end
end Go.Abs
/- The table of the types, checked by computation. -/
namespace Go.Abs
open Go
def RT:Value->Kd->Bool
 | .int k n,.int k'=>decide (k=k')&&decide (n=0)
 | .bool false,.bool=>true
 | .string s,.str=>s.data.toList.isEmpty
 | .slice none 0 0,.sl _=>true
 | _,_=>false
def B6:List Value->List Kd->Bool
 | [],[]=>true
 | v::vs,k::ks=>RT v k&&B6 vs ks
 | _,_=>false
def OL(i:TyI)(z:Option Value):Bool:=
 match z with
 | some (.agg cs)=>i.agg&&B6 cs.toList i.kinds&&Nat.beq i.kinds.length i.size
 | some v=> !i.agg&&B6 [v] i.kinds&&Nat.beq i.size 1
 | none=>false
def FI(i:TyI):Bool:=i.plain
def VX(P:Program)(t:Nat)(i:TyI):Bool:=
 match i.tag,P.underlying t with
 | .struct,some (.struct fs)=>decide (fs.toList.map (λf=>(f.offset,f.type))=i.fields)&& !P.stoodInHeld t&&
   fs.toList.all λf=> !(f.name== "_")&&(match P.info? f.type with | some inf=> !(Nat.beq inf.size 0) | none=>false)
 | .slice,some (.slice e)=>Nat.beq e i.elem
 | .string,some .string=>true
 | .int k,some (.int k')=>decide (k'=k)
 | .bool,some .bool=>true
 | .ptr,some (.pointer e)=>Nat.beq e i.elem&&Nat.beq i.size 1
 | .other,some (.struct _)=>false
 | .other,some (.array _ _)=>false
 | .other,some _=>Nat.beq i.size 1
 | _,_=>false
def tyB(P:Program)(t:Nat)(i:TyI):Bool:=
  (match P.info? t with
   | some inf=>Nat.beq inf.size i.size&&Nat.beq inf.bytes i.bytes&&(!FI i||OL i inf.zero)
   | none=>false)&&VX P t i&&Nat.ble i.bytes 4096
def QR(ti:Ti)(i:TyI):Bool:=
 match i.tag with
 | .int k=>decide (i.kinds=[.int k])
 | .bool=>decide (i.kinds=[.bool])
 | .string=>decide (i.kinds=[.str])
 | .slice=>match ti i.elem with
  | some j=>j.plain&&decide (i.kinds=[.sl j.kinds])&& !(Nat.beq j.size 0)
  | none=>false
 | .struct=>decide (iQ ti i.size i.fields 0=some i.kinds)
 | _=>true
theorem KA{v:Value}{k:Kd}(h:RT v k=true):nK k=some v/\v.oneCell'=true:=by
 unfold RT at h
 split at h
 ·simp only[Bool.and_eq_true,decide_eq_true_eq] at h
  obtain⟨rfl,rfl⟩:=h;exact⟨rfl,rfl⟩
 ·exact⟨rfl,rfl⟩
 ·rename_i s
  obtain⟨⟨l⟩⟩:=s
  cases l with
  | nil=>exact⟨rfl,rfl⟩
  | cons=>grind
 ·exact⟨rfl,rfl⟩
 simp_all
theorem s7:∀ (vs:List Value) (ks:List Kd),B6 vs ks=true->ks.mapM nK=some vs/\vs.length=ks.length
 | [],[],_=>⟨rfl,rfl⟩
 | v::vs,k::ks,h=>by
  simp only[B6,Bool.and_eq_true] at h
  obtain⟨h1,h2⟩:=s7 vs ks h.2
  refine⟨?_,by grind⟩
  rw[List.mapM_cons,(KA h.1).1,h1];rfl
 | [],_::_,h=>by cases h
 | _::_,[],h=>by cases h
theorem beq_eq{a b:Nat}(h:Nat.beq a b=true):a=b:=Nat.eq_of_beq_eq_true h
theorem UQ{P:Program}{t:Nat}{i:TyI}(h:tyB P t i=true):TyOk P t i:=by
 unfold tyB at h
 simp only[Bool.and_eq_true] at h
 obtain⟨⟨h1,h2⟩,h3⟩:=h
 refine⟨?_,?_,Nat.le_of_ble_eq_true h3⟩
 ·split at h1
  case h_2=>grind
  rename_i inf hinf
  simp only[Bool.and_eq_true] at h1
  obtain⟨⟨h4,h5⟩,h6⟩:=h1
  refine⟨inf,hinf,beq_eq h4,beq_eq h5,λhp=>?_⟩
  have hz:FI i=true:=by
   unfold FI TyI.plain
   split at hp<;>simp_all
  rw[hz] at h6
  have h6:OL i inf.zero=true:=by simp_all
  unfold OL at h6
  split at h6
  ·rename_i cs hcs
   simp only[Bool.and_eq_true] at h6
   obtain⟨⟨h7,h8⟩,h9⟩:=h6
   obtain⟨k1,k2⟩:=s7 _ _ h8
   simp_all
  ·rename_i v _ hv
   simp only[Bool.and_eq_true,Bool.not_eq_true'] at h6
   obtain⟨⟨h7,h8⟩,h9⟩:=h6
   obtain⟨k1,k2⟩:=s7 _ _ h8
   simp_all
  simp_all
 ·unfold VX at h2
  split at h2<;>rename_i htag hu
  ·rw[htag]
   simp only[Bool.and_eq_true,decide_eq_true_eq,Bool.not_eq_true'] at h2
   obtain⟨⟨h4,h5⟩,h6⟩:=h2
   refine⟨_,hu,h4,h5,λf hf=>?_⟩
   have:=List.all_eq_true.1 h6 f hf
   simp only[Bool.and_eq_true,Bool.not_eq_true'] at this
   obtain⟨k1,k2⟩:=this
   refine⟨by simp_all,?_⟩
   split at k2
   ·rename_i inf hinf
    exact⟨inf,hinf,λe=>by rw[e] at k2;cases k2⟩
   simp_all
  ·rw[htag];simp_all
  ·rw[htag];omega
  ·rw[htag];simp_all
  ·rw[htag];omega
  ·rw[htag]
   simp_all
  ·grind
  ·grind
  ·simp_all
  simp_all
theorem QQ{ti:Ti}{i:TyI}(h:QR ti i=true):CK ti i:=by
  unfold QR at h
  unfold CK
  generalize i.tag=tg at h ⊢
  cases tg<;>first
    | exact trivial
    | exact of_decide_eq_true h
    | (dsimp only at h ⊢
       split at h
       · rename_i j hj
         simp only[Bool.and_eq_true,Bool.not_eq_true',decide_eq_true_eq] at h
         exact⟨j,hj,h.1.1,h.1.2,λe=>by rw[e] at h;simp_all⟩
       simp_all)
theorem sO{α:Type}{t:Nat}{x:α}:∀ (tab:List (Nat×α)),look? t tab=some x->(t,x)∈tab
 | [],h=>by cases h
 | (j,y)::r,h=>by
  unfold look? at h
  cases hb:Nat.beq t j with
  | true=>rw[hb] at h;simp_all
  | false=>rw[hb] at h;exact List.mem_cons_of_mem _ (sO r h)
def WL(P:Program)(tab:List (Nat×TyI)):Bool:=tab.all λq=>tyB P q.1 q.2
def VA(tab:List (Nat×TyI)):Bool:=tab.all λq=>QR (λt=>look? t tab) q.2
theorem SJ{P:Program}{tab:List (Nat×TyI)}(h:WL P tab=true):TOk P λt=>look? t tab:=λt i hi=>UQ (List.all_eq_true.1 h _ (sO tab hi))
theorem NO{tab:List (Nat×TyI)}(h:VA tab=true):KOk λt=>look? t tab:=λt i hi=>QQ (List.all_eq_true.1 h _ (sO tab hi))
end Go.Abs
/- More fuel, the same answer. -/
namespace Go.Abs
open Go
section
variable {E:Env} {rts:Nat->Option (List Nat)} {ρ:Type}
def Le{α:Type}(x y:Option α):Prop:=∀ r,x=some r->y=some r
theorem Q.run_mono{α:Type}{m:Nat->Ent}{K K':α->List Nat->Option ρ}(h:∀ a tr,Le (K a tr) (K' a tr)):∀ (q:Q α) (tr:List Nat),Le (q.run m K tr) (q.run m K' tr)
 | .ret a,tr=>h a tr
 | .fail,tr=>λr hr=>by cases hr
 | .get id k,tr=>Q.run_mono h (k (m id)) (id::tr)
 | .ite b x y,tr=>by
  cases b with
  | true=>exact Q.run_mono h x tr
  | false=>exact Q.run_mono h y tr
 | .opt o k,tr=>by
  cases o with
  | none=>exact λr hr=>by cases hr
  | some x=>exact Q.run_mono h (k x) tr
theorem yB{l:List Oper}{o:Oper}{s:St}{K K':St->mC->Option ρ}(h:∀ s tr,Le (K s tr) (K' s tr)):Le (t7 E rts l o s K) (t7 E rts l o s K'):=by
 unfold t7
 cases y2 E o with
 | false=>exact λr hr=>hr
 | true=>
  have hx:∀ s:St,Le ((opQ E rts o s.eval).run s.m (λe tr=>K ((s.sets e.wr).put o.dst e.v) (tr,e.wr)) []) ((opQ E rts o s.eval).run s.m (λe tr=>K' ((s.sets e.wr).put o.dst e.v) (tr,e.wr)) []):=
   λs=>Q.run_mono (λe tr=>h _ _) _ _
  simp only[Bool.not_true,cond_false]
  split
  ·simp_all
  ·split
   ·split
    ·rename_i want d b hb
     have b':Bool:=b
     cases hbb:(b:Bool)with
     | true=>
      grind
     | false=>
      grind
    ·simp_all
    ·exact λr hr=>hr
   ·exact λr hr=>hr
def L9(J J':nI):Prop:=∀ (ρ:Type) (g b:Nat) (h:Hints) (xs:List AVal) (s:St) (K K':AVal->St->Option ρ),(∀ x s,Le (K x s) (K' x s))->Le (J ρ g b h xs s K) (J' ρ g b h xs s K')
theorem kA{α β:Type}{o:Option α}{f g:α->Option β}(h:∀ x,Le (f x) (g x)):Le (o.bind f) (o.bind g):=by
 cases o with
 | none=>exact λr hr=>by grind
 | some x=>grind
theorem rZ{J J':nI}(hJ:L9 J J'){l:List Oper}{K K':St->Option ρ}(h:∀ s,Le (K s) (K' s)):∀ (suf:List Oper) (s:St),Le (pX E rts J l suf s K) (pX E rts J' l suf s K')
 | [],s=>h s
 | o::r,s=>by
  unfold pX
  split
  ·exact yB λs' tr=>rZ hJ h r s'
  ·cases y2 E o with
   | false=>exact λr hr=>hr
   | true=>exact hJ _ _ _ _ _ _ _ _ λx s'=>kA λs2=>rZ hJ h r s2
theorem vK{l:List Oper}{K K':St->List mC->Option ρ}(h:∀ s t,Le (K s t) (K' s t)):∀ (suf:List Oper) (s:St) (acc:List mC),Le (pW E rts l suf s acc K) (pW E rts l suf s acc K')
 | [],s,acc=>h s _
 | o::r,s,acc=>yB λs' tr=>vK h r s' _
theorem yH{step step':St->(St->Option ρ)->Option ρ}(h:∀ s rec rec',(∀ s,Le (rec s) (rec' s))->Le (step s rec) (step' s rec')):∀ (n m:Nat),n<=m->∀ s,Le (rounds step n s) (rounds step' m s)
 | 0,_,_,_=>λr hr=>by cases hr
 | n+1,0,hle,_=>by omega
 | n+1,m+1,hle,s=>h s _ _ λs=>yH h n m (by omega) s
theorem iY{J J':nI}(hJ:L9 J J'){aA fuel':Nat}(hf:aA<=fuel'):∀ (c:Code) (s:St) (K K':Ex->St->Option ρ),(∀ ex s,Le (K ex s) (K' ex s))->Le (kG E rts J aA c s K) (kG E rts J' fuel' c s K')
 | .skip,s,K,K',h=>h .normal s
 | .region id ops draw,s,K,K',h=>by
  unfold kG
  refine kA λs=>?_
  cases draw with
  | false=>exact rZ hJ (λs=>h .normal s) _ _
  | true=>
   refine vK (λs t=>?_) _ _ _
   cases E5 ops.toList t with
   | true=>simp_all
   | false=>exact λr hr=>hr
 | .seq x y,s,K,K',h=>by
  unfold kG
  refine iY hJ hf x s _ _ λex s'=>?_
  cases ex with
  | normal=>exact iY hJ hf y s' K K' h
  | exit i=>exact h (.exit i) s'
  | ret=>exact h .ret s'
 | .cond c x y,s,K,K',h=>by
  unfold kG
  split
  ·rename_i b hb
   have b':Bool:=b
   cases hbb:(b:Bool)with
   | true=>exact iY hJ hf x s K K' h
   | false=>exact iY hJ hf y s K K' h
  ·exact λr hr=>hr
 | .block id c,s,K,K',h=>by
  unfold kG
  refine iY hJ hf c s _ _ λex s'=>?_
  cases ex with
  | normal=>exact h .normal s'
  | exit i=>
   show Le (bif Nat.beq i id then K .normal s' else K (.exit i) s') (bif Nat.beq i id then K' .normal s' else K' (.exit i) s')
   grind
  | ret=>exact h .ret s'
 | .loop c,s,K,K',h=>by
  unfold kG
  refine kA λs1=>yH (λs rec rec' hr=>?_) aA fuel' hf s1
  refine iY hJ hf c s _ _ λex s'=>?_
  cases ex with
  | normal=>exact kA hr
  | exit i=>exact h (.exit i) s'
  | ret=>exact h .ret s'
 | .exit id,s,K,K',h=>h (.exit id) s
 | .ret,s,K,K',h=>h .ret s
 | .rangeFunc ..,_,_,_,_=>λr hr=>hr
 | .scope ..,_,_,_,_=>λr hr=>hr
 | .label ..,_,_,_,_=>λr hr=>hr
 | .goto ..,_,_,_,_=>λr hr=>hr
 | .refuse ..,_,_,_,_=>λr hr=>hr
theorem NV{fn:Func}{s:List (Nat×AVal)}{K K':AVal->St->Option ρ}(h:∀ x s,Le (K x s) (K' x s))(ex:Ex)(s':St):Le (HH E fn s K ex s') (HH E fn s K' ex s'):=by
 cases ex with
 | exit i=>exact λr hr=>hr
 | normal=>exact kA λvs=>h _ _
 | ret=>exact kA λvs=>h _ _
theorem yS{fns:Nat->Option Func}{aA fuel':Nat}(hf:aA<=fuel'):∀ k,L9 (jV fns E rts aA k) (jV fns E rts fuel' k)
 | 0=>λρ g b h xs s K K' hK=>λr hr=>by cases hr
 | k+1=>λρ g b h xs s K K' hK=>by
  unfold jV
  split
  ·rename_i fn hfn
   cases D3 (b*32) s.mem&& !h.pin with
   | false=>exact λr hr=>hr
   | true=>exact iY (yS hf k) hf _ _ _ _ λex s'=>NV hK ex s'
  ·exact λr hr=>hr
theorem N0{J J':nI}(hJ:L9 J J'){aA fuel':Nat}(hf:aA<=fuel'){fn:Func}{as:List Arg}:Le (w9 E rts J aA fn as) (w9 E rts J' fuel' fn as):=by
 unfold w9
 cases noOwn as with
 | true=>
  show Le (DQ E rts J aA fn as) (DQ E rts J' fuel' fn as)
  unfold DQ
  cases Nat.beq E.base 0 with
  | true=>exact kA λs=>iY hJ hf _ _ _ _ λex s=>λr hr=>hr
  | false=>exact λr hr=>hr
 | false=>
  show Le (DR E rts J aA fn as) (DR E rts J' fuel' fn as)
  unfold DR
  cases E.h.pin&&Nat.beq E.base 0 with
  | true=>exact kA λs=>iY hJ hf _ _ _ _ λex s=>λr hr=>hr
  | false=>exact λr hr=>hr
theorem QI{α:Type}{f:Nat->Option α}(hf:∀ n m,n<=m->Le (f n) (f m)){n:Nat}{r:α}(h:f n=some r):lim f=some r:=by
 unfold lim
 have hh:∃ n r,f n=some r:=⟨n,r,h⟩
 rw[dif_pos hh]
 have h2:=hh.choose_spec.choose_spec
 have h3:=hf _ (max n hh.choose) (Nat.le_max_right _ _) _ h2
 have h4:=hf _ (max n hh.choose) (Nat.le_max_left _ _) _ h
 rw[h4] at h3
 grind
/-- The environment of a function of the table. -/
def B4(p:Prg)(call:Nat->List Arg->Option Out)(n:Nat)(h:Hints):Env:={ ti:=p.ti,n:=n,call:=call,fresh:=λg=>(p.hint g).fresh,owns:=λg=>(p.hint g).own,h:=h }
/-- What a function of the table does, by what one run of it does. -/
theorem TY {p:Prg} {n g:Nat} {fn:Func} (ho:p.own g=none) (hfn:p.fn g=some fn) {aA:Nat} {as:List Arg} {out:Out}
  (h:w9 (B4 p (aJ p n) fn.ntmps (p.hint g)) p.rts (jV p.fn (B4 p (aJ p n) fn.ntmps (p.hint g)) p.rts aA 3) aA fn as=some out):aJ p (n+1) g as=some out:=by
 unfold aJ
 rw[ho,hfn]
 exact QI (f:=λaA=>w9 (B4 p (aJ p n) fn.ntmps (p.hint g)) p.rts (jV p.fn (B4 p (aJ p n) fn.ntmps (p.hint g)) p.rts aA 3) aA fn as) (λa b hab=>N0 (yS hab 3) hab) h
end
end Go.Abs
/- Loops: the step of a loop at a path, with what comes behind it. -/
namespace Go.Abs
section
variable (E:Env) (rts:Nat->Option (List Nat)) (J:nI) {ρ:Type}
/-- What comes behind the loop at a path. -/
def kAt(aA:Nat):List Nat->Code->(Ex->St->Option ρ)->Ex->St->Option ρ
 | [],.loop _,K=>K
 | 0::p,.seq a b,K=>kAt aA p a (ST (λs'=>kG E rts J aA b s' K) K)
 | 1::p,.seq _ b,K=>kAt aA p b K
 | 0::p,.cond _ a _,K=>kAt aA p a K
 | 1::p,.cond _ _ b,K=>kAt aA p b K
 | p,.block id c,K=>kAt aA p c (FQ id K)
 | _,_,K=>K
/-- What comes behind an operation of the region at a path. -/
def CQ(aA:Nat):List Nat->Nat->Code->(Ex->St->Option ρ)->St->Option ρ
 | [],i,.region _ ops _,K=>λs=>pX E rts J ops.toList (ops.toList.drop (i+1)) s (K .normal)
 | 0::p,i,.seq a b,K=>CQ aA p i a (ST (λs'=>kG E rts J aA b s' K) K)
 | 1::p,i,.seq _ b,K=>CQ aA p i b K
 | 0::p,i,.cond _ a _,K=>CQ aA p i a K
 | 1::p,i,.cond _ _ b,K=>CQ aA p i b K
 | p,i,.block id c,K=>CQ aA p i c (FQ id K)
 | _,_,_,_=>λ_=>none
/-- One round of a loop's body. -/
def wO(aA:Nat)(b:Code)(K:Ex->St->Option ρ):St->(St->Option ρ)->Option ρ:=λs rec=>kG E rts J aA b s (tU E b rec K)
end
abbrev vI(x:Int):Int:=x
/-- What a function answers, at every depth from some depth on. -/
def Ran(p:Prg)(lvl g:Nat)(as:List Arg)(out:Out):Prop:=∀ n,lvl<=n->aJ p n g as=some out
theorem Ran.up{p:Prg}{lvl lvl' g:Nat}{as:List Arg}{out:Out}(h:Ran p lvl g as out)(hl:lvl<=lvl'):Ran p lvl' g as out:=λn hn=>h n (Nat.le_trans hl hn)
theorem Ran.of {p:Prg} {lvl g:Nat} {fn:Func} (ho:p.own g=none) (hfn:p.fn g=some fn) {as:List Arg} {out:Out}
  (h:∀ n,lvl<=n->∃ aA,w9 (B4 p (aJ p n) fn.ntmps (p.hint g)) p.rts (jV p.fn (B4 p (aJ p n) fn.ntmps (p.hint g)) p.rts aA 3) aA fn as=some out):Ran p (lvl+1) g as out:=by
 intro n hn
 cases n with
 | zero=>omega
 | succ n=>
  obtain⟨aA,hf⟩:=h n (by omega)
  exact TY ho hfn hf
end Go.Abs
/- Plain laws of loops with fuel enough; helpers of the printed texts. -/
namespace Go.Abs
abbrev Cl:=Nat->List Abs.Arg->Option Out
def s9(k:IntKind)(a b:Int):Int:=k.wrap (BitVec.ofInt k.bits a&&& BitVec.ofInt k.bits b).toNat
def orI(k:IntKind)(a b:Int):Int:=k.wrap (BitVec.ofInt k.bits a||| BitVec.ofInt k.bits b).toNat
def jQ(k:IntKind)(a b:Int):Int:=k.wrap (BitVec.ofInt k.bits a ^^^ BitVec.ofInt k.bits b).toNat
def vE(k:IntKind)(a b:Int):Int:=k.wrap (a*2 ^ (min b.toNat k.bits))
def uA(k:IntKind)(a b:Int):Int:=a.fdiv (2 ^ (min b.toNat k.bits))
abbrev vB(b:Bool):Bool:=b
abbrev vS(s:ByteArray):ByteArray:=s
abbrev vL{ks:List Kd}(x:List (Row ks)):List (Row ks):=x
/-- A row's new contents, under a name. -/
def IQ{α ρ:Type}(x:α)(f:α->Option ρ):Option ρ:=f x
section
variable {ι σ ρ:Type}
/-- With fuel enough, this is the answer. -/
def Ev(f:Nat->Option ρ)(o:ρ):Prop:=∃ N,∀ aA,N<=aA->f aA=some o
theorem Ev.now{f:Nat->Option ρ}{o:ρ}(h:∀ aA,f aA=some o):Ev f o:=⟨0,λaA _=>h aA⟩
theorem Ev.eq{f g:Nat->Option ρ}{o:ρ}(h:∀ aA,f aA=g aA)(hg:Ev g o):Ev f o:=by
 obtain⟨N,hN⟩:=hg
 exact⟨N,λaA hf=>(h aA).trans (hN aA hf)⟩
theorem Ev.get{f:Nat->Option ρ}{o:ρ}(h:Ev f o):∃ aA,f aA=some o:=by
 obtain⟨N,hN⟩:=h
 exact⟨N,hN N (Nat.le_refl N)⟩
/-- A loop's answer, with fuel enough, whatever comes behind. -/
def It(c:Nat->ι->(σ->Option ρ)->σ->Option ρ)(x:σ)(r:ι->Option ρ):Prop:=∃ N,∀ aA k,N<=aA->N<=k->∀ i,iter (c aA i) k x=r i
variable {c:Nat->ι->(σ->Option ρ)->σ->Option ρ} {x y:σ} {r:ι->Option ρ}
theorem It.stop(h:∀ aA i rec,c aA i rec x=r i):It c x r:=by
 refine⟨1,λaA k _ hk i=>?_⟩
 obtain⟨k,rfl⟩:∃ k',k=k'+1:=⟨k - 1,by omega⟩
 exact h aA i _
theorem It.stopE{T:Nat->ι->Option ρ}(h:∀ aA i rec,c aA i rec x=T aA i)(hT:∃ N,∀ aA,N<=aA->∀ i,T aA i=r i):It c x r:=by
 obtain⟨N,hN⟩:=hT
 refine⟨N+1,λaA k hf hk i=>?_⟩
 obtain⟨k,rfl⟩:∃ k',k=k'+1:=⟨k - 1,by omega⟩
 exact(h aA i _).trans (hN aA (by omega) i)
theorem It.next(h:∀ aA i rec,c aA i rec x=rec y)(hy:It c y r):It c x r:=by
 obtain⟨N,hN⟩:=hy
 refine⟨N+1,λaA k hf hk i=>?_⟩
 obtain⟨k,rfl⟩:∃ k',k=k'+1:=⟨k - 1,by omega⟩
 exact(h aA i _).trans (hN aA k (by omega) (by omega) i)
theorem It.nextE{T:Nat->ι->(σ->Option ρ)->Option ρ}(h:∀ aA i rec,c aA i rec x=T aA i rec)(hT:∃ N,∀ aA,N<=aA->∀ i rec,T aA i rec=rec y)(hy:It c y r):It c x r:=by
 obtain⟨N,hN⟩:=hy
 obtain⟨M,hM⟩:=hT
 refine⟨N+M+1,λaA k hf hk i=>?_⟩
 obtain⟨k,rfl⟩:∃ k',k=k'+1:=⟨k - 1,by omega⟩
 exact(h aA i _).trans ((hM aA (by omega) i _).trans (hN aA k (by omega) (by omega) i))
/-- An outer loop's answer, in a text. -/
theorem It.ev{o:ρ}{i:ι}(h:It c x r)(hr:r i=some o):Ev (λaA=>iter (c aA i) aA x) o:=by
 obtain⟨N,hN⟩:=h
 exact⟨N,λaA hf=>(hN aA aA hf hf i).trans hr⟩
/-- An inner loop's answer, in a text. -/
theorem It.all_i(h:It c x r):∃ N,∀ aA,N<=aA->∀ i,iter (c aA i) aA x=r i:=by
 obtain⟨N,hN⟩:=h
 exact⟨N,λaA hf i=>hN aA aA hf hf i⟩
/-- A loop over an index that always goes on. -/
theorem It.upto(st:Nat->σ):∀ (n j:Nat),(∀ i,j<=i->i<j+n->∀ aA a rec,c aA a rec (st i)=rec (st (i+1)))->It c (st (j+n)) r->It c (st j) r
 | 0,j,_,h=>h
 | n+1,j,hs,h=>It.next (hs j (Nat.le_refl j) (by omega)) (It.upto st n (j+1) (λi h1 h2=>hs i (by omega) (by omega)) (by rw[show j+1+n=j+(n+1)from by omega];omega))
theorem It.uptoE(st:Nat->σ){T:Nat->Nat->ι->(σ->Option ρ)->Option ρ}:∀ (n j:Nat),(∀ i,j<=i->i<j+n->∀ aA a rec,c aA a rec (st i)=T i aA a rec)->
  (∀ i,j<=i->i<j+n->∃ N,∀ aA,N<=aA->∀ a rec,T i aA a rec=rec (st (i+1)))->It c (st (j+n)) r->It c (st j) r
 | 0,j,_,_,h=>h
 | n+1,j,hs,ht,h=>It.nextE (hs j (Nat.le_refl j) (by omega)) (ht j (Nat.le_refl j) (by omega))
   (It.uptoE st n (j+1) (λi h1 h2=>hs i (by omega) (by omega)) (λi h1 h2=>ht i (by omega) (by omega)) (by rw[show j+1+n=j+(n+1)from by omega];omega))
/-- A loop that looks for the first index with a property. -/
theorem It.first (st:Nat->σ) (n:Nat) (p:Nat->Bool) (rF:Nat->ι->Option ρ) (rA:ι->Option ρ)
  (hs:∀ i,i<n->p i=false->∀ aA a rec,c aA a rec (st i)=rec (st (i+1)))
  (hf:∀ i,i<n->p i=true->It c (st i) (rF i)) (hn:It c (st n) rA):
  It c (st 0) (match (List.range n).find? p with | some i=>rF i | none=>rA):=by
 cases h:(List.range n).find? p with
 | none=>
  rw[List.find?_eq_none] at h
  refine It.upto st n 0 (λi _ hi=>hs i (by omega) ?_) (by rw[Nat.zero_add];omega)
  simp_all
 | some j=>
  rw[List.find?_range_eq_some] at h
  obtain⟨h1,h2,h3⟩:=h
  have h2':j<n:=List.mem_range.1 h2
  refine It.upto st j 0 (λi _ hi=>hs i (by omega) ?_) (by rw[Nat.zero_add];simp_all)
  simp_all
/-- A loop that checks every index. -/
theorem It.each (st:Nat->σ) (n:Nat) (ok:Nat->Bool) {rA rB:ι->Option ρ}
  (hs:∀ i,i<n->ok i=true->∀ aA a rec,c aA a rec (st i)=rec (st (i+1)))
  (hf:∀ i,i<n->ok i=false->It c (st i) rB) (hn:It c (st n) rA):
  It c (st 0) (if(List.range n).all ok then rA else rB):=by
 have h:=It.first st n (λi=> !ok i) (λ_=>rB) rA (λi hi h=>hs i hi (by simp_all)) (λi hi h=>hf i hi (by simp_all)) hn
 grind
end
theorem HC{α β:Type}(f:α->β)(i:Nat):∀ l:List (Nat×α),(look? i l).map f=look? i (l.map λq=>(q.1,f q.2))
 | []=>rfl
 | (j,x)::r=>by
  show((bif Nat.beq i j then some x else look? i r).map f)=bif Nat.beq i j then some (f x)else look? i (r.map λq=>(q.1,f q.2))
  rw[<- HC f i r]
  cases Nat.beq i j<;>rfl
structure FnOk (P:Program) (g:Nat) (fn:Func):Prop where
 func:P.funcs[g]? =some fn
 name:(fn.name== "runtime.NumGoroutine")=false
 body:fn.body.isNone=false
theorem FnOk.out{P:Program}{g:Nat}{fn:Func}(h:FnOk P g fn):P.funcs[g]? =some fn/\fn.name≠ "runtime.NumGoroutine" /\fn.body.isNone=false:=
 ⟨h.func,λe=>by have:=h.name;rw[e] at this;simp_all,h.body⟩
def UN{α:Type}(q:α->Prop):List α->Prop
 | []=>True
 | x::r=>q x/\UN q r
theorem R6{α:Type}{q:α->Prop}:∀ {l:List α},UN q l->∀ x∈l,q x
 | [],_,x,hx=>by grind
 | _::_,h,x,hx=>by
  rcases List.mem_cons.1 hx with rfl | hx
  ·exact h.1
  ·exact R6 h.2 x hx
-- facts that the printed texts need, over and over
theorem mM(ks:List Kd)(r:Row ks):nR ks ks r=some r:=by
 unfold nR;rw[dif_pos rfl]
theorem WD{β:Type}{A:List Kd}(r:Row A)(f:Rows [A]×Rows []->Option β):((some (⟨[⟨A,r⟩],[]⟩:Out)).bind (dE [A] [])).bind f=f ((r,()),()):=by
 simp[dE,f7,mM];rfl
theorem WC{β:Type}{A B:List Kd}(r:Row A)(s:Row B)(f:Rows [A,B]×Rows []->Option β):((some (⟨[⟨A,r⟩,⟨B,s⟩],[]⟩:Out)).bind (dE [A,B] [])).bind f=f ((r,s,()),()):=by
 simp[dE,f7,mM];rfl
theorem R4{α:Type}{xs:List α}{i:Nat}(h:i<xs.length):at? xs i=some xs[i]:=by unfold at?;simp
theorem aF{i:Nat}(h:i<9223372036854775807):i64.wrap ((i:Int)+1)=((i+1:Nat):Int):=by rw[IntKind.wrap_i64];omega
theorem D7{x:Int}(h1: -9223372036854775808<=x)(h2:x<=9223372036854775807):i64.wrap x=x:=by
 rw[IntKind.wrap_i64];omega
end Go.Abs
/- Plain laws of the loops that measure, copy and compare; small rows. -/
namespace Go.Abs
def aV:Nat:=1048576
mutual
def TSm:(k:Kd)->k.T->Prop
 | .int _,_=>True
 | .bool,_=>True
 | .str,s=>ByteArray.size s<=aV
 | .fn,_=>True
 | .sl ks,xs=>List.length xs<=aV/\∀ (i:Nat) (r:Row ks),at? xs i=some r->Small ks r
def Small:(ks:List Kd)->Row ks->Prop
 | [],_=>True
 | k::ks,r=>TSm k r.1/\Small ks r.2
end
section
variable {ι σ α:Type} {c:Nat->ι->(σ->Option Out)->σ->Option Out}
end
theorem rsl{ks:List Kd}{xs:List (Row ks)}(h:nH [.sl ks] (xs,())):xs.length<=maxLen/\∀ (i:Nat) (r:Row ks),at? xs i=some r->nH ks r:=h.1
theorem OA{β:Type}{o:Option Out}{A:List Kd}{r:Row A}{f:Rows [A]×Rows []->Option β}(h:o=some ⟨[⟨A,r⟩],[]⟩):(o.bind (dE [A] [])).bind f=f ((r,()),()):=by
 rw[h];exact WD r f
theorem nU{β:Type}{q:Prop}[Decidable q]{x y:β}(h:q):(bif decide q then x else y)=x:=by rw[decide_eq_true h];rfl
theorem WQ{β:Type}{q:Nat}{x y:β}:(bif decide ((0:Int)<=(q:Int))then x else y)=x:=nU (Int.natCast_nonneg _)
theorem jP{β:Type}{q:Prop}[Decidable q]{x y:β}(h:¬ q):(bif decide q then x else y)=y:=by rw[decide_eq_false h];rfl
theorem xS(b:Bool):nD b b=true:=by cases b<;>rfl
theorem TX{α:Type}{xs:List α}{i:Nat}{x:α}(h:at? xs i=some x):∃ hi:i<xs.length,x=xs[i]:=by
 unfold at? at h
 grind
end Go.Abs
/- What the laws speak of, in plain Lean: rows as tuples, and what the checks decide. -/
namespace Go.Abs
abbrev bI:=Int×Int×Int×Int×ByteArray×Unit
abbrev bN:=Int×bI
abbrev aR:=Int×Int×Unit
abbrev aE:=List bN×List aR×Unit
abbrev aH:=Int×Unit
abbrev bT:=List aH×Unit
abbrev kN:=List aH×Int×Unit
abbrev iE:=Int×Int×List aE×Unit
abbrev eI:=Int×Int×Bool×Int×Unit
abbrev kT:=Int×Int×Int×Unit
abbrev NodeT:=Int×Int×List bN×List aR×List aH×Int×Int×Int×List aE×List aH×List aH×List bT×Int×Int×List eI×Int×Int×Int×List kT×Unit
abbrev c9:=Int×List aH×Bool×Unit
abbrev y7:=Int×List bN×List aR×Unit
abbrev aZ:=List NodeT×List c9×List y7×Unit
def inB(x lo hi:Int):Bool:=decide (lo<=x)&&decide (x<=hi)
theorem aQ{x lo hi:Int}:inB x lo hi=true↔lo<=x/\x<=hi:=by unfold inB;simp
def eF(id:Int):Bool:=inB id 0 4
def bP(n:Nat)(ok:Nat->Bool):Bool:=(List.range n).all ok
theorem bJ{n:Nat}{ok:Nat->Bool}:bP n ok=true↔∀ i,i<n->ok i=true:=by unfold bP;simp
theorem nE{n:Nat}{ok ok':Nat->Bool}(h:∀ i,i<n->ok i=ok' i):bP n ok=bP n ok':=by
 rw[Bool.eq_iff_iff,bJ,bJ]
 simp_all
def gt{α:Type}[Inhabited α](xs:List α)(i:Nat):α:=xs.getD i default
theorem cS{α:Type}[Inhabited α]{xs:List α}{i:Nat}(h:i<xs.length):gt xs i=xs[i]:=by unfold gt;grind
def yK(f:Nat->Bool):Nat->Bool
 | 0=>true
 | j+1=>f j
-- steps of a text
theorem aD{α β:Type}[Inhabited α]{xs:List α}{i:Nat}{f:α->Option β}(h:i<xs.length):(at? xs ((i:Int)).toNat).bind f=f (gt xs i):=by
 rw[Int.toNat_natCast,R4 h,cS h];rfl
theorem chk{α:Type}{b c:Bool}{F R X:α}(h:b=true->X=bif c then R else F):(bif !b then F else X)=bif b&&c then R else F:=by
 grind
theorem RQ{α:Type}{b c:Bool}{F R X:α}(h:b=false->X=bif c then R else F):(bif b then F else X)=bif !b&&c then R else F:=by
 grind
theorem fin{α:Type}{b:Bool}{F R:α}:(bif !b then F else R)=bif b then R else F:=by cases b<;>rfl
theorem FL{α:Type}{b:Bool}{F R:α}:(bif b then F else R)=bif !b then R else F:=by cases b<;>rfl
abbrev oB(b:Bool):Option Out:=some ⟨[⟨[.bool],(b,())⟩],[]⟩
abbrev oI(n:Int):Option Out:=some ⟨[⟨[.int .i64],(n,())⟩],[]⟩
theorem U2{b:Bool}:(bif b then oB true else oB false)=oB b:=by cases b<;>rfl
/-- A Bool function's checks, one after another. -/
theorem dJ{b c:Bool}{X:Option Out}(h:b=true->X=oB c):(bif !b then oB false else X)=oB (b&&c):=by
 grind
theorem tZ{b c:Bool}{X:Option Out}(h:b=false->X=oB c):(bif b then oB false else X)=oB (!b&&c):=by
 grind
theorem gB{b c:Bool}{X:Option Out}(h:b=true->X=oB c):(bif b then X else oB false)=oB (b&&c):=by
 grind
section
variable {ι σ ρ:Type} {c:Nat->ι->(σ->Option ρ)->σ->Option ρ}
theorem It.all (st:Nat->σ) (n:Nat) (ok:Nat->Bool) {rA rB:ι->Option ρ}
  (h:∀ i,i<n->∀ aA a rec,c aA a rec (st i)=bif ok i then rec (st (i+1))else rB a) (hn:It c (st n) rA):It c (st 0) (λa=>bif bP n ok then rA a else rB a):=by
 have:=It.each (c:=c) st n ok (rA:=rA) (rB:=rB) (λi hi ho aA a rec=>by rw[h i hi,ho];rfl) (λi hi ho=>It.stop λaA a rec=>by rw[h i hi,ho];rfl) hn
 unfold bP
 cases hb:(List.range n).all ok with
 | true=>rw[hb,if_pos rfl] at this;simp_all
 | false=>rw[hb,if_neg (by simp)] at this;simp_all
/-- The same, where a round runs a loop of its own. -/
theorem It.allE (st:Nat->σ) (n:Nat) (ok:Nat->Bool) {rA rB:ι->Option ρ}
  (h:∀ i,i<n->∃ N,∀ aA,N<=aA->∀ a rec,c aA a rec (st i)=bif ok i then rec (st (i+1))else rB a) (hn:It c (st n) rA):It c (st 0) (λa=>bif bP n ok then rA a else rB a):=by
 have key:∀ m j,j+m=n->It c (st j) (λa=>bif(List.range m).all (λi=>ok (j+i))then rA a else rB a):=by
  intro m
  induction m with
  | zero=>simp_all
  | succ m ih=>
   intro j hj
   have ih':=ih (j+1) (by omega)
   obtain⟨N,hN⟩:=h j (by omega)
   obtain⟨M,hM⟩:=ih'
   refine⟨N+M+1,λaA k hf hk a=>?_⟩
   obtain⟨k,rfl⟩:∃ k',k=k'+1:=⟨k - 1,by omega⟩
   show c aA a (iter (c aA a) k) (st j)=_
   rw[hN aA (by omega),hM aA k (by omega) (by omega) a,List.range_succ_eq_map,List.all_cons,List.all_map]
   grind
 have:=key n 0 (by omega)
 simpa [bP] using this
/-- A loop that runs through, and what it gathers. -/
theorem It.run(st:Nat->σ)(n:Nat){r:ι->Option ρ}(h:∀ i,i<n->∀ aA a rec,c aA a rec (st i)=rec (st (i+1)))(hn:It c (st n) r):It c (st 0) r:=
 It.upto st n 0 (λi _ hi=>h i (by omega)) (by rw[Nat.zero_add];omega)
end
theorem It.allB {ι:Type} {c:Nat->ι->(Int->Option Out)->Int->Option Out} (n:Nat) (ok:Nat->Bool) (B:Bool)
  (h:∀ i,i<n->∀ aA a rec,c aA a rec (i:Int)=bif ok i then rec ((i+1:Nat):Int)else oB false) (hn:It c (n:Int) (λ_=>oB B)):It c (0:Int) (λ_=>oB (bP n ok&&B)):=by
 have:=It.all (c:=c) (rA:=λ_=>oB B) (rB:=λ_=>oB false) (λi=>(i:Int)) n ok h hn
 grind
theorem It.allBE {ι:Type} {c:Nat->ι->(Int->Option Out)->Int->Option Out} (n:Nat) (ok:Nat->Bool) (B:Bool)
  (h:∀ i,i<n->∃ N,∀ aA,N<=aA->∀ a rec,c aA a rec (i:Int)=bif ok i then rec ((i+1:Nat):Int)else oB false) (hn:It c (n:Int) (λ_=>oB B)):It c (0:Int) (λ_=>oB (bP n ok&&B)):=by
 have:=It.allE (c:=c) (rA:=λ_=>oB B) (rB:=λ_=>oB false) (λi=>(i:Int)) n ok h hn
 grind
theorem jY{i:Nat}(hi:i<9223372036854775807)(hi0:0<i):i64.wrap ((i:Int) - 1)=((i - 1:Nat):Int):=by rw[IntKind.wrap_i64];omega
theorem cV{σ ι:Type}{c:Nat->ι->(σ->Option Out)->σ->Option Out}{x:σ}{b:Bool}(h:It c x (λ_=>oB (b&&true))):It c x (λ_=>oB b):=by rw[Bool.and_true] at h;omega
-- what the checks decide
def cL(e:bI):Bool:=inB e.1 1 1000&&(inB e.2.1 0 1&&(inB e.2.2.1 0 100000&&(inB e.2.2.2.1 0 1000&&decide (((ByteArray.size e.2.2.2.2.1:Nat):Int)<=8))))
def bV(fs:List aR)(id:Int):Int:=match (List.range fs.length).find? (λi=>(gt fs i).1==id)with
 | some i=>(gt fs i).2.1
 | none=>0
def f5(fs:List aR)(i:Nat):Bool:=eF (gt fs i).1&&(yK (λj=> !decide ((gt fs (j+1)).1<=(gt fs j).1)) i&&inB (gt fs i).2.1 1 1000)
def jK(fs:List aR)(i:Nat):Bool:=eF (gt fs i).1&&(inB (gt fs i).2.1 1 1000&&yK (λj=> !decide ((gt fs (j+1)).1<=(gt fs j).1)) i)
def qJ(s:aE)(i:Nat):Bool:=eF (gt s.1 i).1&&(yK (λj=> !decide ((gt s.1 (j+1)).1<=(gt s.1 j).1)) i&&(cL (gt s.1 i).2&& !decide ((gt s.1 i).2.1<=bV s.2.1 (gt s.1 i).1)))
def qK(s:aE)(i:Nat):Bool:=eF (gt s.1 i).1&&(cL (gt s.1 i).2&&(!decide ((gt s.1 i).2.1<=bV s.2.1 (gt s.1 i).1)&&yK (λj=> !decide ((gt s.1 (j+1)).1<=(gt s.1 j).1)) i))
def aM(s:aE):Bool:=bP s.1.length (qJ s)&&bP s.2.1.length (f5 s.2.1)
theorem MK(s:aE):(bP s.2.1.length (jK s.2.1)&&bP s.1.length (qK s))=aM s:=by
 unfold aM
 rw[Bool.and_comm,nE (ok:=qK s) (ok':=qJ s) (λi _=>?_),nE (ok:=jK s.2.1) (ok':=f5 s.2.1) (λi _=>?_)]
 ·unfold jK f5;ac_rfl
 ·unfold qK qJ;ac_rfl
end Go.Abs
/- Plain laws: gathering loops, numbers as bytes, check sums, slices of states. -/
namespace Go.Abs
def bX{α:Type}(n:Nat)(g:Nat->List α):List α:=(List.range n).flatMap g
theorem xX{α:Type}(g:Nat->List α):bX 0 g=[]:=rfl
theorem d7{α:Type}(n:Nat)(g:Nat->List α):bX (n+1) g=bX n g++g n:=by unfold bX;rw[List.range_succ,List.flatMap_append];simp
theorem dH{α:Type}{g:Nat->List α}{L:Nat}:∀ {n:Nat},(∀ i,i<n->(g i).length<=L)->(bX n g).length<=n*L
 | 0,_=>by simp[xX]
 | n+1,h=>by
  rw[d7,List.length_append,Nat.add_mul]
  have:=dH (n:=n) λi hi=>h i (by omega)
  grind
theorem TM{α:Type}[Inhabited α](x:α)(xs:List α)(i:Nat):gt (x::xs) (i+1)=gt xs i:=by rfl
theorem LU{α:Type}[Inhabited α](x:α)(xs:List α):gt (x::xs) 0=x:=by rfl
theorem bZ{α:Type}[Inhabited α]{xs:List α}{i:Nat}(h:i<xs.length):gt xs i∈xs:=by rw[cS h];simp
theorem fR{α:Type}[Inhabited α]{xs:List α}{x:α}(h:x∈xs):∃ i,i<xs.length/\gt xs i=x:=by
 obtain⟨i,hi,e⟩:=List.mem_iff_getElem.1 h
 exact⟨i,hi,by rw[cS hi];omega⟩
theorem cI{α β:Type}[Inhabited α](f:α->List β):∀ xs:List α,bX xs.length (λi=>f (gt xs i))=xs.flatMap f
 | []=>rfl
 | x::xs=>by
  rw[List.flatMap_cons,<- cI f xs]
  unfold bX
  rw[List.length_cons,List.range_succ_eq_map,List.flatMap_cons,List.flatMap_map,LU]
  rfl
theorem R8{α:Type}[Inhabited α](p:α->Bool)(xs:List α):bP xs.length (λi=>p (gt xs i))=xs.all p:=by
 rw[Bool.eq_iff_iff,bJ,List.all_eq_true]
 constructor
 ·intro h x hx
  obtain⟨i,hi,rfl⟩:=fR hx
  simp_all
 ·exact λh i hi=>h _ (bZ hi)
theorem qW{α β:Type}[Inhabited α](p:α->Bool)(F:α->β)(z:β):∀ xs:List α,
  (match (List.range xs.length).find? (λi=>p (gt xs i))with | some i=>F (gt xs i) | none=>z)=(match xs.find? p with | some x=>F x | none=>z)
 | []=>rfl
 | x::xs=>by
  rw[List.length_cons,List.range_succ_eq_map,List.find?_cons,List.find?_cons,LU]
  cases hp:p x with
  | true=>rfl
  | false=>
   rw[<- qW p F z xs,List.find?_map]
   simp only[Function.comp_def,TM]
   cases List.find? (λi=>p (gt xs i)) (List.range xs.length)with
   | none=>rfl
   | some i=>rfl
theorem wB(fs:List aR)(id:Int):bV fs id=(match fs.find? (λf=>f.1==id)with | some f=>f.2.1 | none=>0):=by
 have h:=qW (λf:aR=>f.1==id) (λf:aR=>f.2.1) 0 fs
 unfold bV
 cases h1:(List.range fs.length).find? (λi=>(gt fs i).1==id)<;>cases h2:fs.find? (λf=>f.1==id)<;>simp only[h1,h2] at h ⊢<;>exact h
section
variable {ι α ρ:Type} {c:Nat->ι->(Int×List α->Option ρ)->Int×List α->Option ρ} {r:ι->Option ρ}
theorem It.accuE (pre:List α) (g:Nat->List α) (n L:Nat) (hg:∀ i,i<n->(g i).length<=L)
  (h:∀ i,i<n->∀ acc:List α,acc.length+(g i).length<=pre.length+n*L->∃ N,∀ aA,N<=aA->∀ a rec,c aA a rec ((i:Int),acc)=rec (((i+1:Nat):Int),acc++g i))
  (hn:It c ((n:Int),pre++bX n g) r):It c ((0:Int),pre) r:=by
 have key:∀ m j,j+m=n->It c ((j:Int),pre++bX j g) r:=by
  intro m
  induction m with
  | zero=>simp_all
  | succ m ih=>
   intro j hj
   have hl:(pre++bX j g).length+(g j).length<=pre.length+n*L:=by
    have h1:=dH (n:=j) (g:=g) (L:=L) λi hi=>hg i (by omega)
    have h2:=hg j (by omega)
    have h3:(j+1)*L<=n*L:=Nat.mul_le_mul_right L (by omega)
    rw[Nat.add_mul] at h3
    rw[List.length_append];omega
   obtain⟨N,hN⟩:=h j (by omega) _ hl
   have ih':=ih (j+1) (by omega)
   rw[d7,<- List.append_assoc] at ih'
   exact It.nextE (T:=λaA a rec=>c aA a rec ((j:Int),pre++bX j g)) (λ_ _ _=>rfl) ⟨N,hN⟩ ih'
 have:=key n 0 (by omega)
 rw[xX,List.append_nil] at this
 omega
theorem It.accu (pre:List α) (g:Nat->List α) (n L:Nat) (hg:∀ i,i<n->(g i).length<=L)
  (h:∀ i,i<n->∀ acc:List α,acc.length+(g i).length<=pre.length+n*L->∀ aA a rec,c aA a rec ((i:Int),acc)=rec (((i+1:Nat):Int),acc++g i))
  (hn:It c ((n:Int),pre++bX n g) r):It c ((0:Int),pre) r:=
 It.accuE pre g n L hg (λi hi acc hl=>⟨0,λaA _ a rec=>h i hi acc hl aA a rec⟩) hn
end
theorem It.runE{ι σ ρ:Type}{c:Nat->ι->(σ->Option ρ)->σ->Option ρ}{r:ι->Option ρ}(st:Nat->σ)(n:Nat)(h:∀ i,i<n->∃ N,∀ aA,N<=aA->∀ a rec,c aA a rec (st i)=rec (st (i+1)))(hn:It c (st n) r):It c (st 0) r:=
 It.uptoE st (T:=λi aA a rec=>c aA a rec (st i)) n 0 (λi _ _ _ _ _=>rfl) (λi _ hi=>h i (by omega)) (by rw[Nat.zero_add];omega)
theorem jW{β:Type}{b:Bool}{x y:β}(h:b=true):(bif b then x else y)=x:=by rw[h];rfl
theorem gR{β:Type}{b:Bool}{x y:β}(h:b=false):(bif b then x else y)=y:=by rw[h];rfl
def gT(a b:List aH):Bool:=(a.length:Int)==(b.length:Int)&&bP a.length (λi=>(gt a i).1==(gt b i).1)
theorem It.anyB {ι:Type} {c:Nat->ι->(Int->Option Out)->Int->Option Out} (n:Nat) (q:Nat->Bool)
  (h:∀ i,i<n->∀ aA a rec,c aA a rec (i:Int)=bif q i then oB true else rec ((i+1:Nat):Int)) (hn:∀ aA a rec,c aA a rec (n:Int)=oB false):It c (0:Int) (λ_=>oB (!bP n λi=> !q i)):=by
 have:=It.all (c:=c) (rA:=λ_=>oB false) (rB:=λ_=>oB true) (λi=>(i:Int)) n (λi=> !q i) (λi hi aA a rec=>by rw[h i hi];cases q i<;>rfl) (It.stop hn)
 grind
theorem iP{α:Type}(P:α->Bool):∀ xs:List α,xs.flatMap (λx=>bif P x then[x] else[])=xs.filter P
 | []=>rfl
 | x::xs=>by rw[List.flatMap_cons,List.filter_cons,iP P xs];cases P x<;>rfl
-- numbers as bytes
theorem T5{x:Int}(h1:0<=x)(h2:x<=255):IntKind.u8.wrap x=x:=by
 have:IntKind.u8.wrap x=x % 256:=by rfl
 rw[this];omega
def iU(n:Nat):List aH:=if h:n<128 then[((n:Int),())] else(((n % 128+128:Nat):Int),())::iU (n / 128)
  termination_by n
  decreasing_by omega
theorem GV:∀ (k n:Nat),n<128 ^ (k+1)->(iU n).length<=k+1
 | 0,n,h=>by unfold iU;rw[dif_pos (by omega)];simp
 | k+1,n,h=>by
  unfold iU
  split
  ·simp
  ·rw[List.length_cons]
   have:=GV k (n / 128) (by rw[Nat.pow_succ] at h;omega)
   omega
def aG(x:Int):List aH:=bif inB x 0 2147483647 then iU x.toNat else[]
theorem bB(x:Int):(aG x).length<=5:=by
 unfold aG
 cases h:inB x 0 2147483647 with
 | false=>simp
 | true=>rw[aQ] at h;exact GV 4 _ (by omega)
def gA(s:ByteArray):List aH:=fE s
def eE(s:ByteArray):List aH:=aG ((ByteArray.size s:Nat):Int)++gA s
theorem kY(s:ByteArray):(gA s).length=ByteArray.size s:=
 (List.length_map (f:=λb:UInt8=>(((b.toNat:Nat):Int),())) (as:=s.data.toList)).trans Array.length_toList
theorem MH{m:Nat}(h:m<128):IntKind.u8.wrap (m:Int)=m:=T5 (by omega) (by omega)
theorem NY(m:Nat)(h:m<=2147483647):IntKind.u8.wrap (i64.wrap ((m:Int).tmod 128+128))=((m % 128+128:Nat):Int):=by
 have e:(m:Int).tmod 128=((m % 128:Nat):Int):=by rw[Int.tmod_eq_emod_of_nonneg (by omega)];omega
 rw[e,D7 (by omega) (by omega),T5 (by omega) (by omega)];omega
theorem TW(m:Nat)(h:m<=2147483647):i64.wrap ((m:Int).tdiv 128)=((m / 128:Nat):Int):=by
 have e:(m:Int).tdiv 128=((m / 128:Nat):Int):=by rw[Int.tdiv_eq_ediv_of_nonneg (by omega)];omega
 rw[e,D7 (by omega) (by omega)]
theorem AU {c:Nat->Unit->(Int×List aH->Option Out)->Int×List aH->Option Out} (R:List aH->Option Out)
  (hlast:∀ m:Nat,m<128->∀ pre:List aH,pre.length<=100->∀ aA a rec,c aA a rec ((m:Int),pre)=R (pre++[(IntKind.u8.wrap (m:Int),())]))
  (hmore:∀ m:Nat,128<=m->∀ pre:List aH,pre.length<=100->∀ aA a rec,c aA a rec ((m:Int),pre)=rec (i64.wrap ((m:Int).tdiv 128),pre++[(IntKind.u8.wrap (i64.wrap ((m:Int).tmod 128+128)),())])):
  ∀ (k m:Nat) (pre:List aH),m<=2147483647->m<128 ^ (k+1)->pre.length+k<=100->It c ((m:Int),pre) (λ_=>R (pre++iU m))
 | k,m,pre,h1,h2,h3=>by
  rcases Nat.lt_or_ge m 128 with h | h
  ·refine It.stop λaA a rec=>?_
   rw[hlast m h pre (by omega),MH h]
   unfold iU;rw[dif_pos h]
  ·cases k with
   | zero=>omega
   | succ k=>
    have:=AU R hlast hmore k (m / 128) (pre++[(((m % 128+128:Nat):Int),())]) (by omega) (by rw[Nat.pow_succ] at h2;omega) (by rw[List.length_append,List.length_singleton];omega)
    have e:pre++[(((m % 128+128:Nat):Int),())]++iU (m / 128)=pre++iU m:=by
     rw[List.append_assoc]
     conv=>rhs;unfold iU
     rw[dif_neg (by omega)];rfl
    rw[e] at this
    exact It.next (λaA a rec=>by rw[hmore m h pre (by omega),NY m h1,TW m h1]) this
-- check sums
def uN(x:Int):Int:=bif(x.tmod 2)==1 then jQ .i64 (i64.wrap (x.tdiv 2)) 3988292384 else i64.wrap (x.tdiv 2)
def jO:Nat->Int->Int
 | 0,x=>x
 | k+1,x=>uN (jO k x)
def y3(bs:List aH):Nat->Int
 | 0=>4294967295
 | i+1=>jO 8 (jQ .i64 (y3 bs i) (i64.wrap (gt bs i).1))
def crc(bs:List aH):Int:=jQ .i64 (y3 bs bs.length) 4294967295
-- cP of states
def kF(ls:List aH)(x:Int):Bool:=ls.any λy=>y.1==x
theorem HK(ls:List aH)(x:Int):kF ls x= !bP ls.length λi=> !((gt ls i).1==x):=by
 rw[R8 (λy:aH=> !(y.1==x)) ls];unfold kF;rw[List.any_eq_not_all_not]
def QZ(ls:List aH)(x:Int):Int:=match (List.range ls.length).find? (λi=>x==(gt ls i).1)with
 | some i=>(i:Int)
 | none=> -1
theorem QY(ls:List aH)(x:Int):decide (QZ ls x>=0)=kF ls x:=by
 unfold QZ
 rw[HK]
 cases h:(List.range ls.length).find? (λi=>x==(gt ls i).1)with
 | none=>
  rw[List.find?_eq_none] at h
  have:bP ls.length (λi=> !((gt ls i).1==x))=true:=bJ.2 λi hi=>by
   grind
  rw[this];rfl
 | some i=>
  rw[List.find?_range_eq_some] at h
  obtain⟨h1,h2,_⟩:=h
  have:bP ls.length (λi=> !((gt ls i).1==x))=false:=by
   cases hh:bP ls.length (λi=> !((gt ls i).1==x))with
   | false=>rfl
   | true=>have:=bJ.1 hh i (List.mem_range.1 h2);simp_all
  rw[this];simp
def dP(id:Int):Int:=bif eF id then(crc (aG id)).tmod 4 else -1
def jS(s:aE)(ls:List aH):aE:=(s.1.filter λx=>kF ls (dP x.1),s.2.1.filter λf=>kF ls (dP f.1),())
def bG(x:bN):List aH:=aG x.1++aG x.2.1++aG x.2.2.1++aG x.2.2.2.1++aG x.2.2.2.2.1++eE x.2.2.2.2.2.1
def aY(f:aR):List aH:=aG f.1++aG f.2.1
def bO(s:aE):List aH:=aG (s.1.length:Int)++s.1.flatMap bG++aG (s.2.1.length:Int)++s.2.1.flatMap aY
def jN(s:aE)(leaf:Int):Int:=bif aM s&&inB leaf 0 3 then(crc (bO (jS s [(leaf,())]))).tmod 1024 else 0
def mX(ls:List aH):Int:=(crc (ls.flatMap λx=>aG x.1)).tmod 1024
def eC(s:aE):List aH:=[(jN s 0,()),(jN s 1,()),(jN s 2,()),(jN s 3,())]
def cM(s:aE):kN:=bif aM s then(eC s,mX (eC s),())else([],0,())
-- what a valid state is, as lists
theorem sZ{α:Type}[Inhabited α](k:α->Int)(xs:List α)(h:∀ j,j+1<xs.length->k (gt xs j)<k (gt xs (j+1))):xs.Pairwise (λx y=>k x<k y):=by
 rw[List.pairwise_iff_getElem]
 intro i j hi hj hij
 have:∀ d i,i+d+1<xs.length->k (gt xs i)<k (gt xs (i+d+1)):=by
  intro d
  induction d with
  | zero=>omega
  | succ d ih=>grind
 have:=this (j - i - 1) i (by omega)
 rw[show i+(j - i - 1)+1=j from by omega,cS hi,cS hj] at this
 omega
theorem mZ{α:Type}[Inhabited α]{k:α->Int}{xs:List α}(h:xs.Pairwise (λx y=>k x<k y))(j:Nat)(hj:j+1<xs.length):k (gt xs j)<k (gt xs (j+1)):=by
 rw[List.pairwise_iff_getElem] at h
 rw[cS hj,cS (by omega:j<xs.length)]
 simp_all
structure StateOk (s:aE):Prop where
 item:∀ x∈s.1,eF x.1=true/\cL x.2=true/\bV s.2.1 x.1<x.2.1
 items:s.1.Pairwise (λx y:bN=>x.1<y.1)
 floor:∀ f∈s.2.1,eF f.1=true/\inB f.2.1 1 1000=true
 floors:s.2.1.Pairwise (λx y:aR=>x.1<y.1)
theorem aP(s:aE):aM s=true↔StateOk s:=by
  unfold aM
  rw[Bool.and_eq_true,bJ,bJ]
  constructor
  · rintro ⟨h1,h2⟩
    unfold qJ at h1;unfold f5 at h2
    simp only[Bool.and_eq_true,Bool.not_eq_true',decide_eq_false_iff_not] at h1 h2
    refine⟨λx hx=>?_,sZ (λx:bN=>x.1) _ λj hj=>?_,λf hf=>?_,sZ (λx:aR=>x.1) _ λj hj=>?_⟩
    · obtain⟨i,hi,rfl⟩:=fR hx
      simp_all
    · have:=(h1 (j+1) hj).2.1
      unfold yK at this
      simp_all
    · obtain⟨i,hi,rfl⟩:=fR hf
      simp_all
    · have:=(h2 (j+1) hj).2.1
      unfold yK at this
      simp_all
  · rintro ⟨h1,h2,h3,h4⟩
    unfold qJ f5
    simp only[Bool.and_eq_true,Bool.not_eq_true',decide_eq_false_iff_not]
    refine⟨λi hi=>?_,λi hi=>?_⟩
    · obtain⟨a,b,c⟩:=h1 _ (bZ hi)
      refine⟨a,?_,b,by omega⟩
      cases i with
      | zero=>rfl
      | succ j => have:=mZ (k:=λx:bN=>x.1) h2 j hi
                  show(!decide _)=true
                  simp_all
    · obtain⟨a,b⟩:=h3 _ (bZ hi)
      refine⟨a,?_,b⟩
      cases i with
      | zero=>rfl
      | succ j => have:=mZ (k:=λx:aR=>x.1) h4 j hi
                  show(!decide _)=true
                  simp_all
theorem DC{α:Type}[Inhabited α]{k:α->Int}{xs:List α}(h:xs.Pairwise (λx y=>k x<k y))(hn:∀ x∈xs,eF (k x)=true):xs.length<=5:=by
 have:∀ i,i<xs.length->(i:Int)<=k (gt xs i):=by
  intro i
  induction i with
  | zero=>intro hi;have:=hn _ (bZ hi);unfold eF at this;rw[aQ] at this;omega
  | succ j ih=>intro hi;have:=ih (by omega);have:=mZ h j hi;omega
 rcases Nat.lt_or_ge 5 xs.length with h5 | h5
 ·have h6:=this 5 h5
  have:=hn _ (bZ h5);unfold eF at this;rw[aQ] at this;omega
 omega
theorem StateOk.len{s:aE}(h:StateOk s):s.1.length<=5/\s.2.1.length<=5:=⟨DC (k:=λx:bN=>x.1) h.items λx hx=>(h.item x hx).1,DC (k:=λx:aR=>x.1) h.floors λx hx=>(h.floor x hx).1⟩
theorem BV(fs:List aR)(P:Int->Bool){id:Int}(hP:P id=true):bV (fs.filter λf=>P f.1) id=bV fs id:=by
 rw[wB,wB,List.find?_filter]
 grind
theorem StateOk.slice{s:aE}(h:StateOk s)(ls:List aH):StateOk (jS s ls):=by
 refine⟨λx hx=>?_,h.items.filter _,λf hf=>h.floor f (List.mem_filter.1 hf).1,h.floors.filter _⟩
 obtain⟨h1,h2⟩:=List.mem_filter.1 hx
 obtain⟨a,b,c⟩:=h.item x h1
 refine⟨a,b,?_⟩
 show bV (s.2.1.filter λf=>kF ls (dP f.1)) x.1<_
 rw[BV s.2.1 (λi=>kF ls (dP i)) h2];omega
end Go.Abs
/- Plain laws: logs, vectors, tables, exchanges, nodes and worlds. -/
namespace Go.Abs
theorem sE(s:ByteArray):(eE s).length<=5+ByteArray.size s:=by
 unfold eE;rw[List.length_append,kY]
 have:=bB ((ByteArray.size s:Nat):Int);omega
theorem jH{x:bN}(h:cL x.2=true):(bG x).length<=38:=by
 have h8:ByteArray.size x.2.2.2.2.2.1<=8:=by
  unfold cL at h;grind
 have h1:=sE x.2.2.2.2.2.1
 have h2:=bB x.1;have h3:=bB x.2.1;have h4:=bB x.2.2.1;have h5:=bB x.2.2.2.1;have h6:=bB x.2.2.2.2.1
 unfold bG;grind
theorem f6(f:aR):(aY f).length<=10:=by
 have h2:=bB f.1;have h3:=bB f.2.1
 unfold aY;grind
theorem StateOk.size{s:aE}(h:StateOk s){x:bN}(hx:x∈s.1):ByteArray.size x.2.2.2.2.2.1<=8:=by
 have h:=(h.item x hx).2.1
 unfold cL at h;grind
def five(x:bN):List aH:=[(x.1,()),(x.2.1,()),(x.2.2.1,()),(x.2.2.2.1,()),(x.2.2.2.2.1,())]
theorem RA(x:bN)(acc:List aH):acc++bX 5 (λk=>aG (gt (five x) k).1)++eE x.2.2.2.2.2.1=acc++bG x:=by
 have:bX 5 (λk=>aG (gt (five x) k).1)=(five x).flatMap λy=>aG y.1:=cI (λy:aH=>aG y.1) (five x)
 rw[this];unfold five bG
 simp
theorem lL{ps:List bT}{L:Nat}(h:∀ r∈ps,r.1.length<=L):∀ i,i<ps.length->(gt ps i).1.length<=L:=λi hi=>h _ (bZ hi)
theorem pI{s:aE}(h:StateOk s):(bO s).length<=250:=by
 have h5:=h.len
 have h1:=bB (s.1.length:Int);have h2:=bB (s.2.1.length:Int)
 have h3:(s.1.flatMap bG).length<=s.1.length*38:=by
  rw[<- cI];exact dH λi hi=>jH (h.item _ (bZ hi)).2.1
 have h4:(s.2.1.flatMap aY).length<=s.2.1.length*10:=by
  rw[<- cI];exact dH λi hi=>f6 _
 unfold bO;grind
-- logs
def fB(l:iE):Bool:=inB l.1 1 8&&(!decide ((l.2.2.1.length:Int)>l.1)&&(inB l.2.1 0 100000&&(!decide (i64.wrap (l.2.1+(l.2.2.1.length:Int))>100000)&&bP l.2.2.1.length λi=>aM (gt l.2.2.1 i))))
def JF(l:iE):Bool:=(bP l.2.2.1.length λi=>aM (gt l.2.2.1 i))&&(inB l.1 1 8&&(decide ((l.2.2.1.length:Int)<=l.1)&&(inB l.2.1 0 100000&&decide (i64.wrap (l.2.1+(l.2.2.1.length:Int))<=100000))))
theorem E6(a b:Int):(!decide (a>b))=decide (a<=b):=by rw[Bool.eq_iff_iff];simp
theorem TH(l:iE):JF l=fB l:=by
 unfold fB JF;rw[E6,E6];ac_rfl
def cJ(l:iE):Int:=bif fB l then i64.wrap (l.2.1+(l.2.2.1.length:Int))else 0
-- vectors and tables
def eQ(v:List aH)(n:Int):Bool:=inB n 1 5&&((v.length:Int)==n&&bP v.length λi=>inB (gt v i).1 0 100000)
def IB(v:List aH)(n:Int):Bool:=(bP v.length λi=>inB (gt v i).1 0 100000)&&(inB n 1 5&&(v.length:Int)==n)
theorem SG(v:List aH)(n:Int):IB v n=eQ v n:=by unfold eQ IB;ac_rfl
def uH(r:bT):Bool:=(r.1.length:Int)==5&&bP r.1.length λi=>inB (gt r.1 i).1 0 1000
def zP(r:bT):Bool:=(bP r.1.length λi=>inB (gt r.1 i).1 0 1000)&&(r.1.length:Int)==5
def hX(t:List bT)(n:Int):Bool:=inB n 1 5&&((t.length:Int)==n&&bP t.length λk=>uH (gt t k))
def z5(t:List bT)(n:Int):Bool:=(bP t.length λk=>zP (gt t k))&&(inB n 1 5&&(t.length:Int)==n)
theorem MI(t:List bT)(n:Int):z5 t n=hX t n:=by
 unfold hX z5
 rw[nE (ok:=λk=>zP (gt t k)) (ok':=λk=>uH (gt t k)) λk _=>by unfold uH zP;ac_rfl]
 ac_rfl
def A7(v:List aH):Nat->Int
 | 0=>(gt v 0).1
 | j+1=>mxI true (A7 v j) (gt v (j+1)).1
theorem G9(v:List aH)(m:Int):∀ j,A7 v j<=m↔∀ i,i<=j->(gt v i).1<=m
 | 0=>⟨λh i hi=>by rw[show i=0 by omega];exact h,λh=>h 0 (Nat.le_refl 0)⟩
 | j+1=>by
  unfold A7 mxI
  have ih:=G9 v m j
  grind
def NH(v:List aH):Int:=A7 v (v.length - 1)
theorem TG{v:List aH}(hv:0<v.length)(m:Int):(!decide (NH v>m))=bP v.length λi=> !decide ((gt v i).1>m):=by
 rw[Bool.eq_iff_iff,bJ,E6,decide_eq_true_eq]
 unfold NH
 rw[G9]
 grind
-- exchanges
def d9(v:List eI)(k:Nat)(peer:Int)(inn:Bool):Bool:=(gt v k).1==peer&&nD (gt v k).2.2.1 inn
def DB(v:List eI)(i:Nat):Bool:=bP i λk=> !d9 v k (gt v i).1 (gt v i).2.2.1
def dL(v:List eI)(peer:Int)(inn:Bool):Int:=match (List.range v.length).find? (λk=>d9 v k peer inn)with
 | some k=>(k:Int)
 | none=> -1
theorem R3{a b:Bool}:nD a b=true↔a=b:=by cases a<;>cases b<;>decide
theorem GB{v:List eI}{i:Nat}(hi:i<v.length):(dL v (gt v i).1 (gt v i).2.2.1==(i:Int))=DB v i:=by
 have hs:d9 v i (gt v i).1 (gt v i).2.2.1=true:=by unfold d9;rw[Bool.and_eq_true];exact⟨by simp,xS _⟩
 rw[Bool.eq_iff_iff]
 unfold dL DB
 rw[bJ]
 cases h:(List.range v.length).find? (λk=>d9 v k (gt v i).1 (gt v i).2.2.1)with
 | none=>
  rw[List.find?_eq_none] at h
  simp_all
 | some k=>
  rw[List.find?_range_eq_some] at h
  grind
def oM(n:NodeT)(v:List eI)(i:Nat):Bool:=inB (gt v i).1 0 (i64.wrap (n.2.1 - 1))&&(!((gt v i).1==n.1)&&(inB (gt v i).2.1 0 100000&&(inB (gt v i).2.2.2.1 0 n.2.2.2.2.2.2.2.2.2.2.2.2.2.2.2.1&&DB v i)))
abbrev NodeT.sess(n:NodeT):List eI:=n.2.2.2.2.2.2.2.2.2.2.2.2.2.2.1
abbrev NodeT.slots(n:NodeT):Int:=n.2.2.2.2.2.2.2.2.2.2.2.2.2.1
abbrev NodeT.rises(n:NodeT):List kT:=n.2.2.2.2.2.2.2.2.2.2.2.2.2.2.2.2.2.2.1
abbrev NodeT.clock(n:NodeT):Int:=n.2.2.2.2.2.2.2.2.2.2.2.2.2.2.2.2.2.1
abbrev NodeT.limit(n:NodeT):Int:=n.2.2.2.2.2.2.2.2.2.2.2.2.2.2.2.2.1
abbrev NodeT.wait(n:NodeT):Int:=n.2.2.2.2.2.2.2.2.2.2.2.2.2.2.2.1
abbrev NodeT.num(n:NodeT):Int:=n.2.2.2.2.2.2.2.2.2.2.2.2.1
abbrev NodeT.seen(n:NodeT):List bT:=n.2.2.2.2.2.2.2.2.2.2.2.1
abbrev NodeT.acked(n:NodeT):List aH:=n.2.2.2.2.2.2.2.2.2.2.1
abbrev NodeT.got(n:NodeT):List aH:=n.2.2.2.2.2.2.2.2.2.1
abbrev NodeT.log(n:NodeT):iE:=(n.2.2.2.2.2.2.1,n.2.2.2.2.2.2.2.1,n.2.2.2.2.2.2.2.2.1,())
abbrev NodeT.tree(n:NodeT):kN:=(n.2.2.2.2.1,n.2.2.2.2.2.1,())
abbrev NodeT.state(n:NodeT):aE:=(n.2.2.1,n.2.2.2.1,())
def mW(n:NodeT):Bool:= !decide ((n.sess.length:Int)>n.slots)&&bP n.sess.length (oM n n.sess)
def i9(n:NodeT)(x:Int):Bool:=inB x 0 (i64.wrap (n.2.1 - 1))&&x != n.1
def tE(n:NodeT)(v:List eI)(i:Nat):Bool:=i9 n (gt v i).1&&(inB (gt v i).2.1 0 100000&&(inB (gt v i).2.2.2.1 0 n.wait&&dL v (gt v i).1 (gt v i).2.2.1==(i:Int)))
def vG(n:NodeT):Bool:=bP n.sess.length (tE n n.sess)&&(inB n.slots 1 4&&decide ((n.sess.length:Int)<=n.slots))
theorem PD(n:NodeT):vG n=(inB n.slots 1 4&&mW n):=by
 unfold mW vG
 rw[E6,nE (ok:=tE n n.sess) (ok':=oM n n.sess) λi hi=>?_]
 ·ac_rfl
 ·unfold oM tE i9
  rw[GB hi,show((gt n.sess i).1 != n.1)= !((gt n.sess i).1==n.1)from rfl,Bool.and_assoc]
def lJ(n:NodeT)(i:Nat):Bool:=inB (gt n.rises i).1 0 1000&&(inB (gt n.rises i).2.1 0 100000&&inB (gt n.rises i).2.2.1 0 n.clock)
def vN(n:NodeT):Bool:=bP n.rises.length (lJ n)&&(n.rises.length:Int)==5
def u3(n:NodeT):Bool:=gT n.tree.1 (cM n.state).1&&n.tree.2.1==(cM n.state).2.1
def oT(n:NodeT):Bool:=inB n.num 0 100000&&(inB n.clock 0 100000&&(inB n.slots 1 4&&(inB n.wait 1 20&&(inB n.limit 1 50&&((n.rises.length:Int)==5&&(bP n.rises.length (lJ n)&&mW n))))))
def CH(n:NodeT):Bool:=bP n.acked.length λi=> !decide ((gt n.acked i).1>cJ n.log)
def dD(n:NodeT):Bool:=inB n.2.1 1 5&&(inB n.1 0 (i64.wrap (n.2.1 - 1))&&(aM n.state&&(u3 n&&(fB n.log&&(eQ n.got n.2.1&&(eQ n.acked n.2.1&&
 ((gt n.got n.1.toNat).1==cJ n.log&&(hX n.seen n.2.1&&(CH n&&oT n)))))))))
def zN(n:NodeT):Bool:=inB n.2.1 1 5&&(inB n.1 0 (i64.wrap (n.2.1 - 1))&&(aM n.state&&(u3 n&&(fB n.log&&(eQ n.got n.2.1&&(eQ n.acked n.2.1&&
 ((gt n.got n.1.toNat).1==cJ n.log&&(!decide (NH n.acked>cJ n.log)&&(hX n.seen n.2.1&&(inB n.num 0 100000&&(inB n.clock 0 100000&&(inB n.wait 1 20&&(inB n.limit 1 50&&(vG n&&vN n))))))))))))))
theorem CX{v:List aH}{n:Int}(h:eQ v n=true):0<v.length:=by
 unfold eQ at h;simp only[Bool.and_eq_true,aQ,beq_iff_eq] at h;omega
theorem P1(n:NodeT):zN n=dD n:=by
 unfold zN dD
 cases h:eQ n.acked n.2.1 with
 | false=>rfl
 | true=>
  rw[TG (CX h),PD]
  unfold vN oT CH
  ac_rfl
-- worlds
def lP(w:aZ)(i:Nat):Bool:=dD (gt w.1 i)&&((gt w.1 i).2.1==(w.1.length:Int)&&(gt w.1 i).1==(i:Int))
def jF(w:aZ)(i:Nat):Bool:=inB (gt w.2.2.1 i).1 0 (i64.wrap ((w.1.length:Int) - 1))&&aM (gt w.2.2.1 i).2
def bS(w:aZ):Bool:=inB (w.1.length:Int) 1 5&&(!decide ((w.2.1.length:Int)>12)&&(!decide ((w.2.2.1.length:Int)>40)&&
 (bP w.1.length (lP w)&&(bP w.2.1.length (λi=>inB (gt w.2.1 i).1 0 (i64.wrap ((w.1.length:Int) - 1)))&&bP w.2.2.1.length (jF w)))))
-- sizes that a machine holds
structure SzS (s:aE):Prop where
 a:s.1.length<=aV
 b:s.2.1.length<=aV
structure SzN (n:NodeT):Prop where
 state:SzS n.state
 leaves:n.tree.1.length<=aV
 list:n.log.2.2.1.length<=aV
 logs:∀ i,i<n.log.2.2.1.length->SzS (gt n.log.2.2.1 i)
 got:n.got.length<=aV
 acked:n.acked.length<=aV
 seen:n.seen.length<=aV
 lines:∀ i,i<n.seen.length->(gt n.seen i).1.length<=aV
 sess:n.sess.length<=aV
 rises:n.rises.length<=aV
structure SzW (w:aZ):Prop where
 nodes:w.1.length<=aV
 node:∀ i,i<w.1.length->SzN (gt w.1 i)
 net:w.2.1.length<=aV
 said:w.2.2.1.length<=aV
 part:∀ i,i<w.2.2.1.length->SzS (gt w.2.2.1 i).2
end Go.Abs
/- Small rows have small sizes. -/
namespace Go.Abs
end Go.Abs
/- Plain laws: views, sides, what is cleared, what is the same here. -/
namespace Go.Abs
def kQ(s:aE):List bN:=bif aM s then s.1.filter (λx=>x.2.2.1==0)else[]
theorem CW{s:aE}(h:SzS s):(kQ s).length<=aV:=by
 unfold kQ
 cases aM s with
 | false=>simp
 | true=>exact Nat.le_trans (List.length_filter_le _ _) h.a
def xB(x y:bN):Bool:=gW x.1 y.1&&((gW x.2.1 y.2.1&&(gW x.2.2.1 y.2.2.1&&(gW x.2.2.2.1 y.2.2.2.1&&(gW x.2.2.2.2.1 y.2.2.2.2.1&&(RZ x.2.2.2.2.2.1 y.2.2.2.2.2.1&&true)))))&&true)
def qY(x y:aR):Bool:=gW x.1 y.1&&(gW x.2.1 y.2.1&&true)
def MP(a b:List bN):Bool:=(a.length:Int)==(b.length:Int)&&bP a.length λi=>xB (gt a i) (gt b i)
def fL(a b:aE):Bool:=(a.1.length:Int)==(b.1.length:Int)&&((a.2.1.length:Int)==(b.2.1.length:Int)&&(bP a.1.length (λi=>xB (gt a.1 i) (gt b.1 i))&&bP a.2.1.length λi=>qY (gt a.2.1 i) (gt b.2.1 i)))
theorem pK{a b:Int}:gW a b=true↔a=b:=by unfold gW;simp
theorem OC{a b:ByteArray}:(a==b)=true↔a=b:=by
 cases a with
 | mk x=>cases b with
  | mk y=>
   show ByteArray.beq ⟨x⟩ ⟨y⟩=true↔_
   simp[ByteArray.beq]
theorem B3{x y:bN}:xB x y=true↔x=y:=by
 obtain⟨a,b,c,d,e,s,u⟩:=x
 obtain⟨a',b',c',d',e',s',u'⟩:=y
 unfold xB gW RZ
 simp only[Bool.and_eq_true,beq_iff_eq,OC,Prod.mk.injEq,and_true]
theorem yZ{x y:aR}:qY x y=true↔x=y:=by
 obtain⟨a,b,u⟩:=x
 obtain⟨a',b',u'⟩:=y
 unfold qY gW
 simp
theorem J2{α:Type}[Inhabited α]{a b:List α}(hl:a.length=b.length)(h:∀ i,i<a.length->gt a i=gt b i):a=b:=
 List.ext_getElem hl λi h1 h2=>by have:=h i h1;rw[cS h1,cS h2] at this;omega
theorem jE{a b:aE}:fL a b=true↔a=b:=by
 obtain⟨a1,a2,u⟩:=a
 obtain⟨b1,b2,u'⟩:=b
 unfold fL
 simp only[Bool.and_eq_true,bJ,beq_iff_eq]
 constructor
 ·rintro ⟨h1,h2,h3,h4⟩
  have e1:a1=b1:=J2 (by omega) λi hi=>B3.1 (h3 i hi)
  have e2:a2=b2:=J2 (by omega) λi hi=>yZ.1 (h4 i hi)
  rw[e1,e2]
 ·intro h
  cases h
  exact⟨rfl,rfl,λi _=>B3.2 rfl,λi _=>yZ.2 rfl⟩
theorem D8{w:aZ}(h:bS w=true){i:Nat}(hi:i<w.1.length):dD (gt w.1 i)=true:=by
 unfold bS lP at h;simp only[Bool.and_eq_true,bJ] at h
 simp_all
theorem S1{s:aE}(h:aM s=true){i:Nat}(hi:i<s.1.length):(gt s.1 i).2.2.1=0\/(gt s.1 i).2.2.1=1:=by
 have:=(((aP s).1 h).item _ (bZ hi)).2.1
 unfold cL at this;simp only[Bool.and_eq_true,aQ] at this;omega
end Go.Abs
/- Plain laws: entries compared, states joined. -/
namespace Go.Abs
theorem KC{β:Type}{o:Option Out}{A B:List Kd}{r:Row A}{s:Row B}{f:Rows [A,B]×Rows []->Option β}(h:o=some ⟨[⟨A,r⟩,⟨B,s⟩],[]⟩):(o.bind (dE [A,B] [])).bind f=f ((r,s,()),()):=by
 rw[h];exact WC r s f
def eM:bI:=(0,0,0,0,⟨#[]⟩,())
def bH(s:aE)(id:Int):bI×Bool:=match (List.range s.1.length).find? (λi=>(gt s.1 i).1==id)with
 | some i=>((gt s.1 i).2,true)
 | none=>(eM,false)
theorem eK(s:aE)(id:Int):(∃ x∈s.1,x.1=id/\bH s id=(x.2,true))\/((∀ x∈s.1,x.1≠id)/\bH s id=(eM,false)):=by
 unfold bH
 cases h:(List.range s.1.length).find? (λi=>(gt s.1 i).1==id)with
 | none=>
  rw[List.find?_eq_none] at h
  refine .inr ⟨λx hx=>?_,rfl⟩
  obtain⟨i,hi,rfl⟩:=fR hx
  simp_all
 | some i=>
  rw[List.find?_range_eq_some] at h
  exact .inl ⟨_,bZ (List.mem_range.1 h.2.1),eq_of_beq h.1,rfl⟩
theorem fC(s:aE)(id:Int):(∃ x∈s.2.1,x.1=id/\bV s.2.1 id=x.2.1)\/((∀ x∈s.2.1,x.1≠id)/\bV s.2.1 id=0):=by
 unfold bV
 cases h:(List.range s.2.1.length).find? (λi=>(gt s.2.1 i).1==id)with
 | none=>
  rw[List.find?_eq_none] at h
  refine .inr ⟨λx hx=>?_,rfl⟩
  obtain⟨i,hi,rfl⟩:=fR hx
  simp_all
 | some i=>
  rw[List.find?_range_eq_some] at h
  exact .inl ⟨_,bZ (List.mem_range.1 h.2.1),eq_of_beq h.1,rfl⟩
-- entries compared
def l2(a b:Int):Int:=bif decide (a<b)then -1 else bif decide (a>b)then 1 else 0
def wF(s t:ByteArray):Int:=Lib.compareBytes s.data.toList t.data.toList
def orN(ls:List aH):Int:=match (List.range ls.length).find? (λi=>(gt ls i).1 != 0)with
 | some i=>(gt ls i).1
 | none=>0
def jC(a b:bI):Int:=if l2 a.1 b.1≠0 then l2 a.1 b.1 else if l2 a.2.1 b.2.1≠0 then l2 a.2.1 b.2.1 else if l2 a.2.2.1 b.2.2.1≠0 then l2 a.2.2.1 b.2.2.1 else if l2 a.2.2.2.1 b.2.2.2.1≠0 then l2 a.2.2.2.1 b.2.2.2.1 else wF a.2.2.2.2.1 b.2.2.2.2.1
theorem G2(ls:List aH):orN ls=(match ls.find? (λx:aH=>x.1 != 0)with | some x=>x.1 | none=>0):=by
 have h:=qW (λx:aH=>x.1 != 0) (λx:aH=>x.1) 0 ls
 unfold orN
 cases h1:(List.range ls.length).find? (λi=>(gt ls i).1 != 0)<;>cases h2:ls.find? (λx:aH=>x.1 != 0)<;>simp only[h1,h2] at h ⊢<;>exact h
theorem sG(x:Int)(ls:List aH):orN ((x,())::ls)=if x≠0 then x else orN ls:=by
 rw[G2,G2,List.find?_cons]
 grind
theorem TB(a b:bI):orN [(l2 a.1 b.1,()),(l2 a.2.1 b.2.1,()),(l2 a.2.2.1 b.2.2.1,()),(l2 a.2.2.2.1 b.2.2.2.1,()),(wF a.2.2.2.2.1 b.2.2.2.2.1,())]=jC a b:=by
 unfold jC
 rw[sG,sG,sG,sG,sG]
 have:(if wF a.2.2.2.2.1 b.2.2.2.2.1≠0 then wF a.2.2.2.2.1 b.2.2.2.2.1 else orN [])=wF a.2.2.2.2.1 b.2.2.2.2.1:=by
  by_cases h:wF a.2.2.2.2.1 b.2.2.2.2.1=0
  ·rw[h];rfl
  omega
 rw[this]
def OH(b:Bool):Int:=bif b then 1 else 0
theorem DY:∀ x y:List UInt8,(bif Op.bytesLess x y then(-1:Int)else OH (!(Op.bytesLess x y||x==y)))=Lib.compareBytes x y
 | [],[]=>rfl
 | [],_::_=>rfl
 | _::_,[]=>rfl
 | a ::x,b::y=>by
  have ih:=DY x y
  unfold Op.bytesLess Lib.compareBytes
  by_cases h1:a<b
  ·grind
  ·by_cases h2:b<a
   ·have hne:(a==b)=false:=by
     grind
    have hne':(a::x==b::y)=false:=by rw[List.cons_beq_cons,hne];rfl
    rw[if_neg h1,if_pos h2,hne,hne'];simp[h1,OH]
   ·have he:a=b:=by
     grind
    simp_all
end Go.Abs
/- Plain laws: joins, what was said, what lies beneath, what is over. -/
namespace Go.Abs
theorem BK(a b:Int):l2 b a= - l2 a b:=by
 unfold l2
 grind
theorem xK:∀ x y:List UInt8,Lib.compareBytes y x= - Lib.compareBytes x y
 | [],[]=>rfl
 | [],_::_=>rfl
 | _::_,[]=>rfl
 | a::x,b::y=>by
  unfold Lib.compareBytes
  by_cases h1:a<b
  ·grind
  ·by_cases h2:b<a
   ·simp_all
   ·simp[h1,h2,xK x y]
theorem zQ(x y:Int):(if -x≠0 then -x else -y)= -(if x≠0 then x else y):=by
 omega
theorem sY(a b:bI):jC b a= - jC a b:=by
 unfold jC
 rw[BK a.1 b.1,BK a.2.1 b.2.1,BK a.2.2.1 b.2.2.1,BK a.2.2.2.1 b.2.2.2.1,show wF b.2.2.2.2.1 a.2.2.2.2.1= - wF a.2.2.2.2.1 b.2.2.2.2.1 from xK _ _,zQ,zQ,zQ,zQ]
theorem xH{y:bI}(h:1<=y.1):jC eM y= -1:=by
 have e:l2 eM.1 y.1= -1:=by
  unfold l2;rw[decide_eq_true (show eM.1<y.1 from by show(0:Int)<y.1;omega)];rfl
 unfold jC;rw[e];rfl
def orZ(z:Int)(ls:List aH):Int:=match (List.range ls.length).find? (λi=>(gt ls i).1 != 0)with
 | some i=>(gt ls i).1
 | none=>z
theorem G1(z:Int)(ls:List aH):orZ z ls=(match ls.find? (λx:aH=>x.1 != 0)with | some x=>x.1 | none=>z):=by
 have h:=qW (λx:aH=>x.1 != 0) (λx:aH=>x.1) z ls
 unfold orZ
 cases h1:(List.range ls.length).find? (λi=>(gt ls i).1 != 0)<;>cases h2:ls.find? (λx:aH=>x.1 != 0)<;>simp only[h1,h2] at h ⊢<;>exact h
theorem vY(z x:Int)(ls:List aH):orZ z ((x,())::ls)=if x≠0 then x else orZ z ls:=by
 rw[G1,G1,List.find?_cons]
 grind
def JZ(a b:bI):List aH:=[(l2 a.1 b.1,()),(l2 a.2.1 b.2.1,()),(l2 a.2.2.1 b.2.2.1,()),(l2 a.2.2.2.1 b.2.2.2.1,())]
theorem PU(a b:bI):orZ (wF a.2.2.2.2.1 b.2.2.2.2.1) (JZ a b)=jC a b:=by
 unfold JZ jC
 rw[vY,vY,vY,vY];rfl
theorem N8(x y:ByteArray):(bif Op.bytesLess (ByteArray.toList x) (ByteArray.toList y)then(-1:Int)else OH (!(Op.bytesLess (ByteArray.toList x) (ByteArray.toList y)||ByteArray.toList x==ByteArray.toList y)))=wF x y:=by
 rw[ByteArray.toList_eq,ByteArray.toList_eq];exact DY _ _
/-- The cells of a state that a join leans on. -/
structure Pos (s:aE):Prop where
 item:∀ x∈s.1,1<=x.2.1
 floor:∀ f∈s.2.1,0<=f.2.1
theorem StateOk.pos{s:aE}(h:StateOk s):Pos s where
 item x hx:=by
  have:=(h.item x hx).2.1
  unfold cL at this;simp only[Bool.and_eq_true,aQ] at this;omega
 floor f hf:=by have:=(h.floor f hf).2;rw[aQ] at this;omega
def mxE(a b:bI):bI:=bif decide (jC a b<0)then b else a
def fZ(a b:aE)(i:Int):bI:=mxE (bH a i).1 (bH b i).1
def flr(a b:aE)(i:Int):Int:=mxI true (bV a.2.1 i) (bV b.2.1 i)
def eO(a b:aE)(i:Nat):List bN:=bif decide ((fZ a b i).1>flr a b i)then[((i:Int),fZ a b i)] else[]
def eD(a b:aE)(i:Nat):List aR:=bif decide (flr a b i>0)then[((i:Int),flr a b i,())] else[]
def dK(a b:aE):aE:=(bX 5 (eO a b),bX 5 (eD a b),())
theorem tO(a b:aE)(i:Nat):(eO a b i).length<=1:=by unfold eO;cases decide ((fZ a b i).1>flr a b i)<;>simp
theorem qQ(a b:aE)(i:Nat):(eD a b i).length<=1:=by unfold eD;cases decide (flr a b i>0)<;>simp
theorem tN(a b:aE):(dK a b).1.length<=5/\(dK a b).2.1.length<=5:=
 ⟨dH (n:=5) (L:=1) λi _=>tO a b i,dH (n:=5) (L:=1) λi _=>qQ a b i⟩
theorem m6(a b:aE):SzS (dK a b):=⟨Nat.le_trans (tN a b).1 (by decide),Nat.le_trans (tN a b).2 (by decide)⟩
theorem Q8{a b:aE}(ha:Pos a)(i:Int):0<=flr a b i:=by
 have h:0<=bV a.2.1 i:=by
  rcases fC a i with ⟨x,hx,_,e⟩ | ⟨_,e⟩
  ·rw[e];exact ha.floor x hx
  omega
 unfold flr mxI;grind
theorem TA{a b:aE}{i:Int}(ha:bH a i=(eM,false))(hb:bH b i=(eM,false)):fZ a b i=eM:=by
 unfold fZ;rw[ha,hb];rfl
theorem zI{a b:aE}{i:Int}{y:bI}(ha:bH a i=(eM,false))(hb:bH b i=(y,true))(hy:1<=y.1):fZ a b i=y:=by
 unfold fZ mxE;rw[ha,hb];rw[show jC (eM,false).1 (y,true).1= -1 from xH hy];rfl
theorem zH{a b:aE}{i:Int}{x:bI}(ha:bH a i=(x,true))(hb:bH b i=(eM,false))(hx:1<=x.1):fZ a b i=x:=by
 unfold fZ mxE;rw[ha,hb];rw[show jC (x,true).1 (eM,false).1=1 from by rw[show jC (x,true).1 (eM,false).1= - jC eM x from sY eM x,xH hx];rfl];rfl
theorem LC{a b:aE}{i:Int}{x y:bI}(ha:bH a i=(x,true))(hb:bH b i=(y,true)):fZ a b i=bif decide (jC y x>0)then y else x:=by
 unfold fZ mxE;rw[ha,hb]
 show(bif decide (jC x y<0)then y else x)=_
 rw[show decide (jC x y<0)=decide (jC y x>0)from ?_]
 rw[sY x y]
 simp
theorem gZ{a b:aE}{i:Nat}{e:bI}(he:fZ a b i=e)(h:e.1>flr a b i):eO a b i=[((i:Int),e)]:=by
 unfold eO;rw[he,decide_eq_true h];rfl
theorem g9{a b:aE}{i:Nat}{e:bI}(he:fZ a b i=e)(h:¬ e.1>flr a b i):eO a b i=[]:=by
 unfold eO;rw[he,decide_eq_false h];rfl
theorem qM{a b:aE}{i:Nat}(h:flr a b i>0):eD a b i=[((i:Int),flr a b i,())]:=by
 unfold eD;rw[decide_eq_true h];rfl
theorem uJ{a b:aE}{i:Nat}(h:¬ flr a b i>0):eD a b i=[]:=by
 unfold eD;rw[decide_eq_false h];rfl
theorem pE{s:aE}(hs:Pos s)(i:Int):(∃ x:bI,1<=x.1/\bH s i=(x,true))\/bH s i=(eM,false):=by
 rcases eK s i with ⟨x,hx,_,e⟩ | ⟨_,e⟩
 ·exact .inl ⟨x.2,hs.item x hx,e⟩
 simp_all
-- less
def TI(a b:aE):Bool:=aM a&&(aM b&&fL (dK a b) b)
-- over
def gone(s:aE)(id:Int):Int:=bif aM s then(bif(bH s id).2 then(bif(bH s id).1.2.1==0 then i64.wrap ((bH s id).1.1 - 1)else(bH s id).1.1)else bV s.2.1 id)else 0
-- what was said
def iK:aE:=([],[],())
def QS(g:Nat->aE):Nat->aE
 | 0=>iK
 | k+1=>dK (QS g k) (g k)
theorem lD:SzS iK:=⟨Nat.zero_le _,Nat.zero_le _⟩
def I2(w:aZ)(i:Nat):aE:=(gt w.2.2.1 i).2
def WR(w:aZ):aE:=bif bS w then QS (I2 w) w.2.2.1.length else iK
def QG(w:aZ)(node:Int):Nat->Int
 | 0=>0
 | k+1=>QG w node k+OH ((gt w.2.2.1 k).1==node)
def many(w:aZ)(node:Int):Int:=QG w node w.2.2.1.length
def JP(w:aZ)(ls:List aH):Nat->aE
 | 0=>iK
 | k+1=>bif inB (gt ls k).1 0 (i64.wrap ((w.2.2.1.length:Int) - 1))then dK (JP w ls k) (I2 w (gt ls k).1.toNat)else JP w ls k
def VD(w:aZ)(ls:List aH):aE:=bif bS w then JP w ls ls.length else iK
def FS(w:aZ)(s:aE):List aH:=bif bS w&&aM s then bX w.2.2.1.length (λi=>bif TI (I2 w i) s then[((i:Int),())] else[])else[]
theorem VF{s:aE}(hs:aM s=true)(id:Int):gone s id=(bif(bH s id).2 then(bif(bH s id).1.2.1==1 then(bH s id).1.1 else i64.wrap ((bH s id).1.1 - 1))else bV s.2.1 id):=by
 unfold gone;rw[hs]
 rcases eK s id with ⟨x,hx,_,e⟩ | ⟨_,e⟩
 ·rw[e]
  obtain⟨i,hi,rfl⟩:=fR hx
  show(bif(gt s.1 i).2.2.1==0 then _ else _)=bif(gt s.1 i).2.2.1==1 then _ else _
  rcases S1 hs hi with h | h<;>rw[h]<;>rfl
 simp_all
end Go.Abs
/- Plain laws: what the judges decide. -/
namespace Go.Abs
theorem HL{s:aE}(hs:aM s=false)(id:Int):gone s id=0:=by unfold gone;rw[hs];rfl
theorem CC{β:Type}{q r:Prop}[Decidable q][Decidable r]{x y:β}(h:q)(h':r):(bif decide q&&decide r then x else y)=x:=by
 rw[decide_eq_true h,decide_eq_true h'];rfl
-- own
-- views
-- heard
-- seen
theorem FK{s:aE}(h:StateOk s){f:aR}(hf:f∈s.2.1):bV s.2.1 f.1=f.2.1:=by
 rcases fC s f.1 with ⟨x,hx,h1,e⟩ | ⟨h1,_⟩
 ·have:x=f:=by
   obtain⟨i,hi,rfl⟩:=fR hx
   obtain⟨j,hj,rfl⟩:=fR hf
   have hp:=h.floors
   rw[List.pairwise_iff_getElem] at hp
   rcases Nat.lt_trichotomy i j with h2 | h2 | h2
   ·have:=hp i j hi hj h2;rw[<- cS hi,<- cS hj] at this;omega
   ·rw[h2]
   ·have:=hp j i hj hi h2;rw[<- cS hi,<- cS hj] at this;omega
  rw[e,this]
 grind
theorem TN{s:aE}(hs:aM s=true)(id:Int):0<=gone s id:=by
 have ok:=(aP s).1 hs
 unfold gone;rw[hs]
 rcases eK s id with ⟨x,hx,_,e⟩ | ⟨_,e⟩
 ·rw[e]
  have:=(ok.item x hx).2.1
  unfold cL at this;simp only[Bool.and_eq_true,aQ] at this
  show 0<=(bif x.2.2.1==0 then i64.wrap (x.2.1 - 1)else x.2.1)
  rw[D7 (by omega) (by omega)]
  grind
 ·rw[e]
  show 0<=bV s.2.1 id
  rcases fC s id with ⟨x,hx,_,e⟩ | ⟨_,e⟩
  ·rw[e];exact ok.pos.floor x hx
  omega
-- SR, LS, grown
def SR(w:aZ):Bool:=bS w&&bP w.1.length λi=>MP (kQ (gt w.1 i).state) (kQ (WR w))
def jB(s:aE)(id:Int):bI×Bool:=bH (kQ s,[],()) id
def LQ(w:aZ)(id:Int):Nat->Int
 | 0=>0
 | k+1=>LQ w id k+OH (jB (gt w.1 k).state id).2
def LS(w:aZ)(id:Int):Int:=bif bS w then LQ w id w.1.length else 0
end Go.Abs
/- Plain laws: differences of views applied, and what they are. -/
namespace Go.Abs
end Go.Abs
