/- A by-value reading of the model, and its soundness, part 1. -/
import Derived.Test.YtfhgecdbldmekaaGreatW0
import Derived.Deep.Upon
set_option linter.unusedVariables false
set_option linter.unusedSimpArgs false
set_option maxHeartbeats 2000000
/- Appends. -/
namespace Go.Abs
open Go
theorem RR.flat{w:World}:∀ (ks:List Kd) (r:Row ks) (us:List Value) (bb:List Nat),cP ks=false->RR w ks r us bb->bb=[]
 | [],_,_,_,_,h=>h.2
 | k::ks,r,us,bb,hs,⟨u,us',b,b',e1,e2,h1,h2⟩=>by
  unfold cP at hs
  simp only[List.any_cons,Bool.or_eq_false_iff] at hs
  have hb':=RR.flat ks r.2 us' b' (by unfold cP;simp_all) h2
  have hb:b=[]:=by
   cases k with
   | sl _=>simp_all
   | _=>exact h1.2
  rw[e2,hb,hb'];rfl
/-- What lies behind a list of rows. -/
structure RowsR (w:World) (ks:List Kd) (ys:List (Row ks)) (uss:List (List Value)) (bss:List (List Nat)):Prop where
 l1:uss.length=List.length ys
 l2:bss.length=List.length ys
 len:∀ us∈uss,List.length us=ks.length
 rr:∀ (i:Nat) (r:Row ks) (bb:List Nat) (us:List Value),ys[i]? =some r->bss[i]? =some bb->uss[i]? =some us->RR w ks r us bb
theorem RowsR.nil{w:World}{ks:List Kd}:RowsR w ks [] [] []:=⟨rfl,rfl,(λus h=>by grind),λi r bb us h=>by simp⟩
theorem OwnAt.rows{w:World}{ks:List Kd}{xs:List (Row ks)}{L:Loc}{bss:List (List Nat)}(h:OwnAt w ks xs L bss):∃ uss,RowsR w ks xs uss bss/\∀ b off cap,L= .at_ b off cap->∀ k u,(List.flatten uss)[k]? =some u->w.cell? ⟨b,off+k,none⟩=some u:=by
 cases L with
 | pin _ _ _=>exact h.elim
 | nil=>obtain⟨rfl,rfl⟩:=h;exact⟨[],RowsR.nil,λb off cap e=>by simp⟩
 | at_ b off cap=>
  obtain⟨cs,T,fz,hh,hf,hs,hc,hl,hr⟩:=h
  have hTR:TR w (.sl ks) xs (.slice (some ⟨b,off,none⟩) xs.length cap) (b::List.flatten bss)\/xs=[]:=by
   by_cases hx:xs=[]
   ·simp_all
   ·refine .inl ⟨_,cap,rfl,hc,.inr ⟨b,off,bss,rfl,hl,rfl,λi r bb hi hbb=>?_⟩⟩
    obtain⟨us,hrr,hu⟩:=hr i r bb hi hbb
    exact⟨us,hrr,RR.length _ _ _ _ hrr,λj u hj=>by rw[iZ hh];simp_all⟩
  have hex:∀ i:Nat,∃ us:List Value,∀ (hi:i<List.length xs),RR w ks xs[i] us (bss[i]'(by rw[hl];omega))/\us.length=ks.length/\∀ j u,us[j]? =some u->w.cell? ⟨b,off+i*ks.length+j,none⟩=some u:=by
   intro i
   by_cases hi:i<List.length xs
   ·obtain⟨us,h1,h2⟩:=hr i _ _ (List.getElem?_eq_getElem hi) (List.getElem?_eq_getElem (by rw[hl];omega))
    exact⟨us,λ_=>⟨h1,RR.length _ _ _ _ h1,λj u hj=>by rw[iZ hh];simp_all⟩⟩
   ·exact⟨[],λh=>absurd h hi⟩
  let f:=λi=>Classical.choose (hex i)
  have hf:=λi=>Classical.choose_spec (hex i)
  have hlen:∀ us∈(List.range (List.length xs)).map f,List.length us=ks.length:=by
   grind
  refine⟨(List.range (List.length xs)).map f,⟨by simp,hl,hlen,λi r bb us hi hb hu=>?_⟩,λb' off' cap' e k u hk2=>?_⟩
  ·grind
  ·cases e
   obtain⟨i,us,h1,h2,h3⟩:=BW _ hlen k u hk2
   have hlt:i<List.length xs:=by grind
   rw[List.getElem?_map,List.getElem?_range hlt] at h1
   simp at h1;subst h1
   have:=(hf i hlt).2.2 _ u h3
   rw[<- this];congr 2;omega
theorem RowsR.append{w:World}{ks:List Kd}{xs ys:List (Row ks)}{uss uss':List (List Value)}{bss bss':List (List Nat)}(h:RowsR w ks xs uss bss)(h':RowsR w ks ys uss' bss'):RowsR w ks (xs++ys) (uss++uss') (bss++bss'):=by
 refine⟨by simp[h.l1,h'.l1],by simp[h.l2,h'.l2],λus hus=>?_,λi r bb us hi hb hu=>?_⟩
 ·rcases List.mem_append.1 hus with hx | hx
  ·exact h.len us hx
  ·exact h'.len us hx
 ·have e1:=h.l1
  have e2:=h.l2
  by_cases c:i<List.length xs
  ·rw[List.getElem?_append_left c] at hi
   rw[List.getElem?_append_left (by omega)] at hb hu
   exact h.rr i r bb us hi hb hu
  ·rw[List.getElem?_append_right (by omega)] at hi hb hu
   rw[e2] at hb
   rw[e1] at hu
   exact h'.rr _ r bb us hi hb hu
theorem RowsR.mono{w w':World}{ks:List Kd}{xs:List (Row ks)}{uss:List (List Value)}{bss:List (List Nat)}(h:RowsR w ks xs uss bss)(hb:∀ bb∈bss,∀ b∈bb,w'.heap[b]? =w.heap[b]?):RowsR w' ks xs uss bss:=
 ⟨h.l1,h.l2,h.len,λi r bb us hi hbb hu=>RR.mono ks r us bb (hb bb (List.mem_of_getElem? hbb)) (h.rr i r bb us hi hbb hu)⟩
/-- Rows whose cells lie in a block. -/
theorem RowsR.own {w:World} {ks:List Kd} {xs:List (Row ks)} {uss:List (List Value)} {bss:List (List Nat)} (h:RowsR w ks xs uss bss) {b off cap:Nat} {cs:Array Value} {T:Nat} {fz:Nat×Nat} (hh:w.heap[b]? =some (.cells cs T fz))
  (hf:(fz.1=fz.2\/cs.size<=fz.1)) (hs:off+cap*ks.length<=cs.size) (hc:List.length xs<=cap) (hk:∀ k u,(List.flatten uss)[k]? =some u->cs[off+k]? =some u):OwnAt w ks xs (.at_ b off cap) bss:=by
 refine⟨cs,T,fz,hh,hf,hs,hc,h.l2,λi r bb hi hb=>?_⟩
 have hlt:=(List.getElem?_eq_some_iff.1 hi).1
 have hu:i<uss.length:=by rw[h.l1];omega
 refine⟨uss[i],h.rr i r bb _ hi hb (List.getElem?_eq_getElem hu),λj u hj=>?_⟩
 have:=hk _ u (BX uss h.len i j _ u (List.getElem?_eq_getElem hu) hj)
 rw[<- this];grind
section ops
variable {P:Program} {E:Env} (hT:TOk P E.ti)
variable {n0:Nat} {ab rb:Nat->Prop} {w0:World} {N:Fix} {t:Nat->AVal} {m:Mem} {a:Act} {w:World} {loc:Nat->Loc} {ow:Nat->Option Nat}
theorem RR.cell{w:World}:∀ (ks:List Kd) (r:Row ks) (us:List Value) (bb:List Nat),RR w ks r us bb->∀ u∈us,u.oneCell'=true
 | [],_,us,_,h,u,hu=>by rw[h.1] at hu;grind
 | k::ks,r,us,bb,⟨x,us',b,b',e1,e2,h1,h2⟩,u,hu=>by
  rw[e1] at hu
  rcases List.mem_cons.1 hu with rfl | hu
  ·exact TR.one _ _ _ _ h1
  ·exact RR.cell ks r.2 us' b' h2 u hu
/-- A slice by value as what is appended. -/
theorem wP{tx e':Nat}(hk:P.underlying tx=some (.slice e')){ks:List Kd}{ys:List (Row ks)}{u:Value}{bs:List Nat}(h:TR w (.sl ks) ys u bs):
  ∃ uss bss,RowsR w ks ys uss bss/\Src P ks.length tx u (List.length ys) (List.flatten uss) w/\((ys=[]/\bs=[])\/∃ b,bs=b::List.flatten bss):=by
 obtain⟨A,cap,rfl,hc,h⟩:=h.cells
 rcases h with ⟨rfl,rfl⟩ | ⟨b,off,bss,uss,rfl,hl,hul,rfl,hrr,hlen,hkk⟩
 ·refine⟨[],[],RowsR.nil,?_,.inl ⟨rfl,rfl⟩⟩
  cases A with
  | none=>exact Src.ofNil w hk cap
  | some a=>exact Src.ofSlice w hk a 0 cap [] (by simp) (λj u hj=>by simp_all) (λu hu=>by grind)
 ·have R1:RowsR w ks ys uss bss:=⟨hul,hl,hlen,hrr⟩
  refine⟨uss,bss,R1,Src.ofSlice w hk ⟨b,off,none⟩ _ cap _ (by rw[m9 uss hlen,hul]) (λj u hj=>by rw[Addr.add_lit];simp_all) (λu hu=>?_),.inr ⟨b,rfl⟩⟩
  obtain⟨us,hus,hu⟩:=List.mem_flatten.1 hu
  obtain⟨i,hi,e⟩:=List.mem_iff_getElem.1 hus
  have hx:i<List.length ys:=by omega
  have hb:i<bss.length:=by omega
  have:=hrr i _ _ us (List.getElem?_eq_getElem hx) (List.getElem?_eq_getElem hb) (by rw[List.getElem?_eq_getElem hi,e])
  exact RR.cell _ _ _ _ this u hu
end ops
end Go.Abs
/- Appends, second part. -/
namespace Go.Abs
open Go
section ops
variable {P:Program} {E:Env} (hT:TOk P E.ti)
variable {n0:Nat} {ab rb:Nat->Prop} {w0:World} {N:Fix} {t:Nat->AVal} {m:Mem} {a:Act} {w:World} {loc:Nat->Loc} {ow:Nat->Option Nat}
theorem zV(z:Array Value)(n:Nat):(Builtin.zeroCells z n).size=n*z.size:=by simp[Builtin.zeroCells]
theorem uC {tid u rt:Nat} {i j:TyI} (hu:P.underlying tid=some (.slice i.elem)) (T:TyOk P i.elem j) (hp:j.plain=true) {L:Loc} {xs ys:List (Row j.kinds)} {bssb bss:List (List Nat)} {uss2:List (List Value)}
  (hown:OwnAt w j.kinds xs L bssb) (hrow:RowsR w j.kinds ys uss2 bss) {v:Value} (hsrc:Src P j.kinds.length u v (List.length ys) (List.flatten uss2) w) (hle:List.length xs+List.length ys<=bound)
  (hout:∀ bb∈bssb++bss,∀ b∈bb,¬ L.has b/\b<w.heap.size) (hL:∀ b,L.has b->b<w.heap.size):
  ∃ w' L',(Builtin.append_ #[tid,u] rt #[L.val xs.length,v]).run P w= .ok (L'.val (List.length xs+List.length ys)) w'/\w'.os=w.os/\w'.tape=w.tape/\w'.output=w.output/\(w.heap.size<=w'.heap.size/\∀ b,b<w.heap.size->SizeLe w w' b)/\
   (∀ b,b<w.heap.size->¬ L.has b->w'.heap[b]? =w.heap[b]?)/\(∀ b,L'.has b->b<w'.heap.size/\(w.heap.size<=b\/L.has b))/\(∀ b,b<w'.heap.size->¬ L'.has b->w'.heap[b]? =w.heap[b]?)/\OwnAt w' j.kinds (xs++ys) L' (bssb++bss):=by
 obtain⟨zs,hz,hk,hl,hcells,inf,hinf,hzz,hsz,hby⟩:=T.zero hp
 have hkl:=T.kinds_len (mO hp)
 have hfit:=T.fit
 have hsrc':Src P inf.size u v (List.length ys) (List.flatten uss2) w:=by rw[hsz,<- hkl];omega
 have hnl:(List.flatten uss2).length=List.length ys*j.kinds.length:=by rw[m9 uss2 hrow.len,hrow.l1]
 unfold bound at hle
 obtain⟨ussb,hrowb,hcellb⟩:=hown.rows
 have hob:(List.flatten ussb).length=List.length xs*j.kinds.length:=by rw[m9 ussb hrowb.len,hrowb.l1]
 -- the cells of a new row
 have grow:∀ (base:Option Addr) (cap:Nat),cap<List.length xs+List.length ys->L.val xs.length= .slice base xs.length cap->
   ((Builtin.firstCells inf.size xs.length (.slice base xs.length cap)).run P w.drew= .ok (List.flatten ussb).toArray w.drew)->
   ∃ w' L',(Builtin.append_ #[tid,u] rt #[L.val xs.length,v]).run P w= .ok (L'.val (List.length xs+List.length ys)) w'/\w'.os=w.os/\w'.tape=w.tape/\w'.output=w.output/\(w.heap.size<=w'.heap.size/\∀ b,b<w.heap.size->SizeLe w w' b)/\
    (∀ b,b<w.heap.size->¬ L.has b->w'.heap[b]? =w.heap[b]?)/\(∀ b,L'.has b->b<w'.heap.size/\(w.heap.size<=b\/L.has b))/\(∀ b,b<w'.heap.size->¬ L'.has b->w'.heap[b]? =w.heap[b]?)/\OwnAt w' j.kinds (xs++ys) L' (bssb++bss):=by
  intro base cap hcap hval hold
  have hbytes:Builtin.nextslicecap (List.length xs+List.length ys) cap*inf.bytes<=281474976710656:=by
   refine growslice_fits hcap ?_
   rw[hby]
   have:(List.length xs+List.length ys)*j.bytes<=4294967296*4096:=Nat.mul_le_mul hle hfit
   omega
  have hrun:=run_append_grow_src w tid u rt i.elem inf (dQ j.agg zs) hu hinf hzz base xs.length cap (List.flatten ussb) hold v _ (List.flatten uss2) hsrc' hcap (by omega) hbytes
  rw[<- hval,hcells] at hrun
  have hgc:List.length xs+List.length ys<=grownCap w (List.length xs+List.length ys) cap i.elem:=by
   unfold grownCap Question.cut;simp
  generalize hG:grownCap w (List.length xs+List.length ys) cap i.elem=G at hrun hgc
  refine⟨_,.at_ w.heap.size 0 G,hrun,rfl,rfl,rfl,⟨by simp,λb hb=>SizeLe.same (fN hb)⟩,λb hb _=>fN hb,λb hb=>by simp only[Loc.has] at hb;simp_all,λb hb hn=>KM (w:=w.drew) hb hn,?_⟩
  refine RowsR.own (RowsR.append (hrowb.mono ?_) (hrow.mono ?_)) (oC w _) (.inl rfl) ?_ (by simp_all) λk x hk=>?_
  ·exact λbb hbb b hb=>fN (hout bb (List.mem_append_left _ hbb) b hb).2
  ·exact λbb hbb b hb=>fN (hout bb (List.mem_append_right _ hbb) b hb).2
  ·rw[Array.size_append,zV]
   simp only[List.size_toArray,List.length_append,hob,hnl,hl]
   rw[<- hkl,<- Nat.add_mul,<- Nat.add_mul]
   simp_all
  grind
 cases L with
 | pin _ _ _=>exact hown.elim
 | nil=>
  obtain⟨rfl,rfl⟩:=hown
  by_cases hy:ys=[]
  ·subst hy
   have hnews:List.flatten uss2=[]:=List.eq_nil_of_length_eq_zero (by rw[hnl];simp)
   rw[hnews] at hsrc'
   refine⟨w,.nil,run_append_nothing w tid u rt i.elem inf hu hinf none 0 0 (Nat.le_refl _) v hsrc',rfl,rfl,rfl,⟨Nat.le_refl _,λb _=>SizeLe.same rfl⟩,λ_ _ _=>rfl,(λb hb=>by grind),λ_ _ _=>rfl,?_⟩
   have:bss=[]:=List.eq_nil_of_length_eq_zero (by rw[hrow.l2];rfl)
   subst this
   exact⟨rfl,rfl⟩
  ·have hpos:0<List.length ys:=by grind
   have hempty:List.flatten ussb=[]:=List.eq_nil_of_length_eq_zero (by rw[hob];simp)
   refine grow none 0 (by omega) rfl ?_
   rw[hempty]
   rfl
 | at_ b off cap=>
  have hown':=hown
  obtain⟨cs,T2,fz,hh,hf,hs,hc,hbl,hr⟩:=hown
  by_cases hroom:List.length xs+List.length ys<=cap
  ·have hmul:(List.length xs+List.length ys)*j.kinds.length<=cap*j.kinds.length:=Nat.mul_le_mul_right _ hroom
   rw[Nat.add_mul] at hmul
   have hrun:=run_append_room_src w tid u rt i.elem inf hu hinf b off xs.length cap v _ (List.flatten uss2) hsrc' hroom (λk hk=>by
     rw[iZ hh];rw[hnl] at hk;rw[hsz,<- hkl];grind) (λk hk=>by
     rw[hnl] at hk
     unfold World.frozen?
     grind)
   obtain⟨k1,k2,k3,k4,k5⟩:=fQ b (List.flatten uss2) (off+xs.length*inf.size) w
   obtain⟨cs',e1,e2⟩:=gD b T2 fz (List.flatten uss2) (off+xs.length*inf.size) w cs hh (by rw[hnl,hsz,<- hkl];omega)
   have hcl:cs.toList.length=cs.size:=by simp
   have hsize:cs'.size=cs.size:=by
    have h1:cs'.toList.length=cs.toList.length:=by rw[e2];simp[eN];rw[<- List.length_flatten,hnl,hsz,<- hkl];omega
    omega
   refine⟨_,.at_ b off cap,hrun,k1,k2,k3,⟨by omega,λx _=>by
    by_cases c:x=b
    ·subst c;exact lW ⟨cs,T2,fz,hh,hf,by rw[hnl,hsz,<- hkl];omega⟩
    ·exact SizeLe.same (k5 x c)⟩,λx _ hx=>k5 x (λe=>by subst e;exact hx rfl),λx hx=>by simp_all,λx _ hx=>k5 x (λe=>by subst e;exact hx rfl),?_⟩
   have hmono:∀ bb∈bssb++bss,∀ x∈bb,(w.setCells b (off+xs.length*inf.size) (List.flatten uss2)).heap[x]? =w.heap[x]? :=λbb hbb x hx=>k5 x λe=>(hout bb hbb x hx).1 (by rw[e];rfl)
   refine RowsR.own (RowsR.append (hrowb.mono λbb hbb=>hmono bb (List.mem_append_left _ hbb)) (hrow.mono λbb hbb=>hmono bb (List.mem_append_right _ hbb))) e1 (by rw[hsize];omega) (by rw[hsize];omega) (by simp_all) λk x hk=>?_
   have hget:cs'[off+k]? =(eN cs.toList (off+xs.length*inf.size) (List.flatten uss2))[off+k]? :=by rw[<- e2,Array.getElem?_toList]
   rw[hget,fF _ _ _ (by rw[hnl,hsz,<- hkl];omega)]
   rw[List.flatten_append] at hk
   rw[hsz,<- hkl,hnl]
   by_cases c:k<List.length xs*j.kinds.length
   ·rw[List.getElem?_append_left (by omega)] at hk
    rw[if_neg (by omega)]
    have:=hcellb b off cap rfl k x hk
    rw[iZ hh] at this
    simp_all
   ·rw[List.getElem?_append_right (by omega),hob] at hk
    grind
  ·refine grow (some ⟨b,off,none⟩) cap (by omega) rfl ?_
   exact run_firstCells_some w.drew inf.size xs.length ⟨b,off,none⟩ xs.length cap _ (by rw[hob,hsz,<- hkl]) (λk x hk=>by
    rw[Addr.add_lit]
    simp_all)

theorem MM (R:Rel n0 ab rb w0 N t m a w loc ow) {ks:List Kd} {tag:Tag} {q:AVal} {ys:List (Row ks)} {wr:List (Nat×Ent)} {p:Bool} {tr:List Nat} (h:Does m (UU ks tag q) (ys,wr,p) tr) {u:Value}
  (hv:VR m loc (Ok n0 ab m loc w) w q u) {tx:Nat} (hk1:tag= .string->P.underlying tx=some .string) (hk2:tag= .slice->∃ e',P.underlying tx=some (.slice e')):
  ∃ uss bss,RowsR w ks ys uss bss/\Src P ks.length tx u (List.length ys) (List.flatten uss) w/\Made n0 (Ok n0 ab m loc w) m loc ow wr p (List.flatten bss):=by
 have flat:∀ {uss:List (List Value)} {bss:List (List Nat)},RowsR w ks ys uss bss->cP ks=false->List.flatten bss=[]:=by
  intro uss bss hr hs
  rw[List.flatten_eq_nil_iff]
  intro bb hbb
  obtain⟨i,hi,e⟩:=List.mem_iff_getElem.1 hbb
  have hx:i<List.length ys:=by have:=hr.l2;omega
  have hu:i<uss.length:=by have:=hr.l1;omega
  exact RR.flat ks _ _ _ hs (hr.rr i _ bb _ (List.getElem?_eq_getElem hx) (by rw[List.getElem?_eq_getElem hi,e]) (List.getElem?_eq_getElem hu))
 unfold UU at h
 split at h
 ·rename_i s
  obtain⟨ys',hc,h⟩:=h
  obtain⟨e,_⟩:=h
  cases e
  obtain⟨e,rfl⟩:=lT hc
  subst e
  have:=VR.str hv;subst this
  refine⟨(s:ByteArray).data.toList.map λb=>[Value.int .u8 b.toNat],List.replicate (ByteArray.size s) [],⟨?_,?_,?_,?_⟩,?_,?_⟩
  ·exact(List.length_map ..).trans (List.length_map ..).symm
  ·exact(List.length_replicate ..).trans (jM s).symm
  ·simp
  ·intro i r bb us hi hb hu
   have hi':=(tY s i).symm.trans hi
   rw[List.getElem?_replicate] at hb
   rw[List.getElem?_map] at hu
   split at hb
   ·cases hb
    cases hx:(s:ByteArray).data.toList[i]? with
    | none=>rw[hx] at hu;grind
    | some y=>
     rw[hx] at hu hi';cases hu;cases hi'
     exact⟨_,[],[],[],rfl,rfl,⟨rfl,rfl⟩,rfl,rfl⟩
   simp_all
  ·have e1:List.flatten ((s:ByteArray).data.toList.map λb=>[Value.int .u8 b.toNat])=byteCells s:=by
    unfold byteCells
    generalize (s:ByteArray).data.toList=l
    induction l with
    | nil=>rfl
    | cons x l ih=>rw[List.map_cons,List.flatten_cons,ih];rfl
   rw[e1]
   have:=Src.ofString w (hk1 rfl) s
   rwa [<- jM s] at this
  ·have:List.flatten (List.replicate (ByteArray.size s) ([]:List Nat))=[]:=by simp
   rw[this];exact Made.nil
 ·obtain⟨e,_⟩:=h
  cases e
  obtain⟨e',hk⟩:=hk2 rfl
  have:u= .slice none 0 0:=hv
  subst this
  exact⟨[],[],RowsR.nil,Src.ofNil w hk 0,Made.nil⟩
 ·rename_i ks' ys'
  obtain⟨ys2,hc,h⟩:=h
  obtain⟨e,_⟩:=h
  cases e
  obtain⟨e,rfl⟩:=lT hc
  subst e
  obtain⟨e',hk⟩:=hk2 rfl
  obtain⟨bs,hTR,hok⟩:=hv
  obtain⟨uss,bss,hr,hsrc,hbs⟩:=wP hk hTR
  refine⟨uss,bss,hr,hsrc,(λq hq=>by grind),λb hb=> .inl ?_,λhp=>?_,λ_ q hq=>by grind⟩
  ·rcases hbs with ⟨hy,rfl⟩ | ⟨b0,rfl⟩
   ·have:bss=[]:=List.eq_nil_of_length_eq_zero (by rw[hr.l2];simp_all)
    simp_all
   grind
  grind
 ·rename_i id
  obtain⟨tr',_,h'⟩:=h;replace h:=h';clear h'
  have hE:=R.ents id
  simp only[VR,VR1,LR] at hv
  unfold EntR at hE
  cases hm:m id with
  | arr ks' xs d o'=>
   rw[hm] at hE h hv
   dsimp only at hv h
   obtain⟨ys2,hc,h'⟩:=h;replace h:=h';clear h'
   obtain⟨e,_⟩:=h
   cases e
   obtain⟨e,rfl⟩:=lT hc
   subst e
   obtain⟨e',hk⟩:=hk2 rfl
   obtain⟨bssb,hown,hok,hblk,hdeep⟩:=hE
   obtain⟨bs,hTR,hbs1⟩:=n9 hown
   subst hv
   obtain⟨uss,bss,hr,hsrc,hbs⟩:=wP hk hTR
   have hsame:List.flatten bss=List.flatten bssb\/List.flatten bss=[]:=by
    rcases hbs with ⟨hy,rfl⟩ | ⟨b0,rfl⟩
    ·right
     have:bss=[]:=List.eq_nil_of_length_eq_zero (by rw[hr.l2];simp_all)
     rw[this];rfl
    grind
   refine⟨uss,bss,hr,hsrc,?_,λb hb=> .inl ?_,λhp=>?_,λhp q hq=>?_⟩
   ·intro q hq
    simp_all
   ·rcases hsame with e | e
    ·rw[e] at hb
     obtain⟨bb,hbb,hb⟩:=List.mem_flatten.1 hb
     grind
    simp_all
   ·by_cases hs:cP ks'=true
    ·rw[if_pos hs] at hp
     simp only[Bool.and_eq_true] at hp
     obtain⟨rfl,rfl⟩:=hp
     obtain⟨d1,d2,d3⟩:=hdeep rfl rfl
     rcases hsame with e | e
     ·rw[e]
      refine⟨d2,λb hb=>?_⟩
      obtain⟨bb,hbb,hb⟩:=List.mem_flatten.1 hb
      refine⟨(d1 bb hbb b hb).2,_,by rw[if_pos hs];exact List.mem_singleton.2 rfl,(d1 bb hbb b hb).1⟩
     grind
    grind
   ·by_cases hs:cP ks'=true
    ·rw[if_pos hs] at hp hq
     simp only[Bool.and_eq_true] at hp
     obtain⟨rfl,rfl⟩:=hp
     simp only[List.mem_singleton] at hq
     subst hq
     exact⟨by rw[hm];rfl,_,_,hm⟩
    simp_all
  | _=>rw[hm] at h;exact h.elim
 ·rename_i id l hh
  split at h
  ·exact h.elim
  rename_i hs
  have hs':cP ks=false:=by simp_all
  obtain⟨tr',_,h'⟩:=h;replace h:=h';clear h'
  have hE:=R.ents id
  simp only[VR,VR1,LR] at hv
  unfold EntR at hE
  cases hm:m id with
  | arr ks' xs d o'=>
   rw[hm] at hE h hv
   dsimp only at hv h
   obtain⟨ys2,hc,h'⟩:=h;replace h:=h';clear h'
   obtain⟨e,_⟩:=h
   cases e
   obtain⟨e,rfl⟩:=lT hc
   subst e
   obtain⟨e',hk⟩:=hk2 rfl
   obtain⟨bssb,hown,hok,hblk,hdeep⟩:=hE
   obtain⟨bs,hTR,hbs1⟩:=n9 hown
   obtain⟨q1,q2,rfl⟩:=hv
   obtain⟨A,cap,e1,hcap,_⟩:=hTR.cells
   rw[e1] at hTR ⊢
   obtain⟨bs',hT2,_⟩:=hTR.sub q1 q2
   have hlen:List.length ((xs.take hh).drop l)=hh - l:=by simp_all
   have hT3:TR w (.sl ks') ((xs.take hh).drop l) (RK (.slice A xs.length cap) ks'.length l hh) bs':=hT2
   obtain⟨uss,bss,hr,hsrc,hbs⟩:=wP hk hT3
   refine⟨uss,bss,hr,hsrc,?_⟩
   rw[flat hr hs']
   exact Made.nil
  | _=>rw[hm] at h;exact h.elim
 ·exact h.elim
end ops
end Go.Abs
/- Appends, last part; the other builtins. -/
namespace Go.Abs
open Go
section ops
variable {P:Program} {E:Env} (hT:TOk P E.ti)
variable {n0:Nat} {ab rb:Nat->Prop} {w0:World} {N:Fix} {t:Nat->AVal} {m:Mem} {a:Act} {w:World} {loc:Nat->Loc} {ow:Nat->Option Nat}
theorem DP{i:Nat}{wr:List (Nat×Ent)}(h:j0 i wr=false):∀ q∈wr,q.1≠i:=by
 intro q hq e
 have:j0 i wr=true:=(iX i wr).2 ⟨q,hq,e⟩
 rw[this] at h;grind
include hT
theorem M4 (R:Rel n0 ab rb w0 N t m a w loc ow) {d tid u rt:Nat} {x y:AVal} {xv yv:Value} {e:Eff} {tr:List Nat} (h:Does m (H3 E d tid u x y) e tr)
  (hx:VR m loc (Ok n0 ab m loc w) w x xv) (hy:VR m loc (Ok n0 ab m loc w) w y yv):
  ∃ v w',(Builtin.append_ #[tid,u] rt #[xv,yv]).run P w= .ok v w'/\Post n0 ab rb w0 N t m a e v w':=by
 obtain⟨i,T,_,h'⟩:=cB hT h;replace h:=h';clear h'
 obtain⟨i2,T2,_,h'⟩:=cB hT h;replace h:=h';clear h'
 have hu:=T.und
 have hu2:=T2.und
 split at h
 case h_2=>exact h.elim
 rename_i htag
 rw[htag] at hu
 dsimp only at hu
 obtain⟨j,T',_,h'⟩:=cB hT h;replace h:=h';clear h'
 split at h
 case isFalse=>exact h.elim
 rename_i hp
 obtain⟨⟨ys,wr,p⟩,t1,t2,_,h1,h2⟩:=Does.bind _ _ h
 clear h
 dsimp only at h2
 obtain⟨hm,tr',_,h'⟩:=gN h2;replace h2:=h';clear h'
 split at h2
 ·exact h2.elim
 rename_i hidw
 have hidw':j0 (d*32) wr=false:=by simp_all
 obtain⟨uss,bss,hr,hsrc,made⟩:=MM R h1 hy (λe=>by rw[e] at hu2;omega) (λe=>by rw[e] at hu2;simp_all)
 have R1:=R.close wr made.took
 have hok1:=made.close R
 have hnone:bQ m wr (d*32)= .none:=by rw[cE _ _ _ (DP hidw')];omega
 have hnb:∀ b∈(if p then List.flatten bss else[]),∃ j,ow b=some j/\dU (bQ m wr j)=false:=by
  intro b hb
  cases hpp:p with
  | false=>rw[hpp] at hb;grind
  | true=>
   rw[hpp] at hb
   obtain⟨_,q,hq,ho⟩:=(made.own hpp).2 b hb
   refine⟨q.1,ho,?_⟩
   obtain⟨ks,xs,dd,o,_,e2⟩:=made.took q hq
   rw[mN wr made.took q hq,e2];rfl
 split at h2
 ·rcases h2 with ⟨hle,h'⟩ | ⟨_,h'⟩
  case inr=>exact h'.elim
  obtain⟨rfl,_⟩:=h'
  have hle':List.length ys<=bound:=by simp_all
  have:xv= .slice none 0 0:=hx
  subst this
  obtain⟨w',L',hrun,g1,g2,g3,⟨g4,gz⟩,g5,g6,gf,g7⟩:=uC (rt:=rt) (xs:=[]) (L:= .nil) (bssb:=[]) hu T' hp ⟨rfl,rfl⟩ hr hsrc (by simp_all) (λbb hbb b hb=>⟨(λe=>by cases e),(hok1 b (List.mem_flatten.2 ⟨bb,by simp_all,hb⟩)).1⟩) (λb hb=>by cases hb)
  obtain⟨loc',ow',R',e'⟩:=R1.renew none hnone (λi hi=>by grind) (w':=w') gz
   ⟨g1.trans R.keep.os,g2.trans R.keep.tape,g3.trans R.keep.output,Nat.le_trans R.keep.size g4,λb hb hn=>(g5 b (Nat.lt_of_lt_of_le hb R.keep.size) (λe=>by cases e)).trans (R.keep.block b hb hn)⟩ g4 (λb hb _=>g5 b hb (λe=>by cases e))
   (l:=L') gf (λb hb=>by
    obtain⟨k1,k2⟩:=g6 b hb
    have:=R.le
    rcases k2 with k2 | k2
    ·omega
    ·cases k2) g7 (λbb hbb b hb=>hok1 b (List.mem_flatten.2 ⟨bb,by simp_all,hb⟩)) _ hnb (deep:=p) (λhpp=>by
    obtain⟨k1,k2⟩:=made.own hpp
    refine⟨by simp_all,λbb hbb b hb=>?_⟩
    have hbf:b∈List.flatten bss:=List.mem_flatten.2 ⟨bb,by simp_all,hb⟩
    grind)
  refine⟨_,w',hrun,loc',ow',?_,?_⟩
  ·show Rel n0 ab rb w0 N t (bQ m (wr++[(d*32,_)])) a w' loc' ow'
   rw[dX]
   have e0:(λj=>if none=some j then Ent.dead else bQ m wr j)=bQ m wr:=by simp
   rw[e0] at R'
   exact R'
  ·show VR (bQ m (wr++[(d*32,.arr j.kinds ys p true)])) _ _ _ _ _
   rw[dX]
   show VR (cD (bQ m wr) (d*32) _) _ _ _ _ _
   simp only[VR,VR1,LR,aX]
   rw[e',bL]
   simp
 ·rename_i b0
  split at h2
  ·exact h2.elim
  rename_i hbw
  have hbw':j0 b0 wr=false:=by simp_all
  obtain⟨tr2,_,h'⟩:=h2;replace h2:=h';clear h'
  have hE:=R1.ents b0
  simp only[VR,VR1,LR] at hx
  have hm0:bQ m wr b0=m b0:=cE _ _ _ (DP hbw')
  unfold EntR at hE
  rw[hm0] at hE
  cases hmb:m b0 with
  | arr ks xs deep opn=>
   rw[hmb] at hE h2 hx hm0
   dsimp only at hx h2
   split at h2
   case h_2=>exact h2.elim
   rename_i ks1 xs1 deep1 heq
   cases heq
   obtain⟨xs',hc,h'⟩:=h2;replace h2:=h';clear h'
   obtain⟨ec,rfl⟩:=lT hc
   subst ec
   rcases h2 with ⟨hle,h'⟩ | ⟨_,h'⟩
   case inr=>exact h'.elim
   obtain⟨rfl,_⟩:=h'
   have hle':List.length xs+List.length ys<=bound:=by simp_all
   obtain⟨bssb,hown,hok,hblk,hdeep⟩:=hE
   subst hx
   have hokb:∀ bb∈bssb++bss,∀ b∈bb,Ok n0 ab (bQ m wr) loc w b:=by
    intro bb hbb b hb
    rcases List.mem_append.1 hbb with hbb | hbb
    ·grind
    ·exact hok1 b (List.mem_flatten.2 ⟨bb,hbb,hb⟩)
   have hmut0:dU (bQ m wr b0)=true:=by rw[hm0];rfl
   obtain⟨w',L',hrun,g1,g2,g3,⟨g4,gz⟩,g5,g6,gf,g7⟩:=uC (rt:=rt) hu T' hp hown hr hsrc hle' (λbb hbb b hb=>by
     have h3:=hokb bb hbb b hb
     exact⟨λe=>h3.2.1 ⟨b0,hmut0,e⟩,h3.1⟩) (λb hb=>(hblk b hb).2.1)
   obtain⟨loc',ow',R',e'⟩:=R1.renew (some b0) hnone (λi hi=>by grind) (w':=w') gz
    ⟨g1.trans R.keep.os,g2.trans R.keep.tape,g3.trans R.keep.output,Nat.le_trans R.keep.size g4,λb hb hn=>(g5 b (Nat.lt_of_lt_of_le hb R.keep.size) (λe=>by
     have h3:=(hblk b e).1
     rw[R.hn0] at h3;omega)).trans (R.keep.block b hb hn)⟩ g4 (λb hb hn=>g5 b hb (hn b0 rfl))
    (l :=L') gf (λb hb=>by
     obtain⟨k1,k2⟩:=g6 b hb
     have:=R.le
     grind) g7 hokb _ hnb (deep:=deep&&p) (λhdp=>by
     simp only[Bool.and_eq_true] at hdp
     obtain⟨hdp,hpp⟩:=hdp
     obtain⟨k1,k2⟩:=made.own hpp
     obtain⟨d1,d2,d3⟩:=hdeep hdp rfl
     rw[List.flatten_append]
     refine⟨List.nodup_append.2 ⟨d2,k1,?_⟩,λbb hbb b hb=>?_⟩
     ·intro b hb b' hb' e
      subst e
      obtain⟨bb,hbb,hb⟩:=List.mem_flatten.1 hb
      grind
     ·rcases List.mem_append.1 hbb with hbb | hbb
      ·grind
      ·have hbf:b∈List.flatten bss:=List.mem_flatten.2 ⟨bb,hbb,hb⟩
       grind)
   rw[uY] at R'
   have e1:∀ X,bQ m (wr++[(b0,.dead),(d*32,X)])=cD (cD (bQ m wr) b0 .dead) (d*32) X:=λX=>dX _ _ _
   refine⟨_,w',hrun,loc',ow',?_,?_⟩
   ·simp_all
   ·show VR (bQ m (wr++[(b0,.dead),(d*32,.arr j.kinds (xs++ys) (deep&&p) true)])) _ _ _ _ _
    rw[e1]
    simp only[VR,VR1,LR,aX]
    rw[e',bL,List.length_append]
  | _=>rw[hmb] at h2;exact h2.elim
 ·exact h2.elim
omit hT
theorem OwnAt.take{ks:List Kd}{xs:List (Row ks)}{L:Loc}{bss:List (List Nat)}(h:OwnAt w ks xs L bss){k:Nat}(hk:k<=List.length xs):OwnAt w ks (xs.take k) L (bss.take k):=by
 cases L with
 | pin _ _ _=>exact h.elim
 | nil=>obtain⟨rfl,rfl⟩:=h;exact⟨by simp,by simp⟩
 | at_ b off cap=>
  obtain⟨cs,T,fz,h1,h2,h3,h4,h5,h6⟩:=h
  refine⟨cs,T,fz,h1,h2,h3,by rw[List.length_take];omega,by rw[List.length_take,List.length_take];omega,λi r bb hi hbb=>?_⟩
  rw[List.getElem?_take] at hi hbb
  simp_all
theorem RowsR.drop{ks:List Kd}{ys:List (Row ks)}{uss:List (List Value)}{bss:List (List Nat)}(h:RowsR w ks ys uss bss)(k:Nat):RowsR w ks (ys.drop k) (uss.drop k) (bss.drop k) where
 l1:=by rw[List.length_drop,List.length_drop,h.l1]
 l2:=by rw[List.length_drop,List.length_drop,h.l2]
 len us hu:=h.len us (List.mem_of_mem_drop hu)
 rr i r bb us h1 h2 h3:=by
  rw[List.getElem?_drop] at h1 h2 h3
  exact h.rr _ r bb us h1 h2 h3
theorem DT:∀ (uss:List (List Value)) (n k:Nat),(∀ us∈uss,List.length us=n)->List.flatten (uss.drop k)=(List.flatten uss).drop (k*n)
 | [],n,k,_=>by simp
 | us::uss,n,0,_=>by simp
 | us::uss,n,k+1,h=>by
  have h1:=h us (List.mem_cons_self ..)
  rw[List.drop_succ_cons,DT uss n k λu hu=>h u (List.mem_cons_of_mem _ hu),List.flatten_cons,Nat.add_mul,Nat.one_mul,Nat.add_comm,<- List.drop_drop]
  simp_all
theorem N5{L:Loc}{ks:List Kd}{xs:List (Row ks)}{bss:List (List Nat)}(h:OwnAt w ks xs L bss){k:Nat}(hk:k<=List.length xs)(wd:Nat):RK (L.val (List.length xs)) wd 0 k=L.val k:=by
 cases L with
 | pin _ _ _=>exact h.elim
 | nil=>
  obtain⟨rfl,_⟩:=h
  have:k=0:=by simp_all
  subst this;rfl
 | at_ b off cap=>
  show Value.slice (if cap=0 then _ else _) (k - 0) (cap - 0)=_
  have:(some ⟨b,off,none⟩:Option Addr).map (·.add (0*wd))=some ⟨b,off,none⟩:=by simp[Addr.add]
  rw[this];simp[Loc.val]
include hT
theorem M3 (R:Rel n0 ab rb w0 N t m a w loc ow) {d tid u rt id l hh:Nat} {y:AVal} {xv yv:Value} {e:Eff} {tr:List Nat} (h:Does m (L3 E d tid u id l hh y) e tr)
  (hx:VR m loc (Ok n0 ab m loc w) w (.one (.vw id l hh)) xv) (hy:VR m loc (Ok n0 ab m loc w) w y yv):
  ∃ v w',(Builtin.append_ #[tid,u] rt #[xv,yv]).run P w= .ok v w'/\Post n0 ab rb w0 N t m a e v w':=by
 obtain⟨i,T,_,h'⟩:=cB hT h;replace h:=h';clear h'
 obtain⟨i2,T2,_,h'⟩:=cB hT h;replace h:=h';clear h'
 have hu:=T.und
 have hu2:=T2.und
 split at h
 case h_2=>exact h.elim
 rename_i id' l' h' htag htag2
 rw[htag] at hu
 rw[htag2] at hu2
 dsimp only at hu hu2
 split at h
 case isFalse=>exact h.elim
 rename_i hid
 simp only[Bool.and_eq_true,Nat.beq_eq] at hid
 obtain⟨e1,e2⟩:=hid
 replace e1:id'=id:=by omega
 replace e2:l=0:=by omega
 subst e1 e2
 obtain⟨j,T',_,hn⟩:=cB hT h;replace h:=hn;clear hn
 split at h
 case isFalse=>exact h.elim
 rename_i hp
 obtain⟨hm,tr',_,hn⟩:=gN h;replace h:=hn;clear hn
 obtain⟨tr2,_,hn⟩:=h;replace h:=hn;clear hn
 have hE:=R.ents id'
 simp only[VR,VR1,LR] at hx hy
 unfold EntR at hE
 cases hmb:m id' with
 | arr ks xs deep opn=>
  rw[hmb] at hE h hx hy
  dsimp only at hx hy h
  cases deep with
  | false=>exact h.elim
  | true=>
  cases opn with
  | false=>exact h.elim
  | true=>
  obtain⟨xs',hc,hn⟩:=h;replace h:=hn;clear hn
  obtain⟨ec,rfl⟩:=lT hc
  subst ec
  rcases h with ⟨hle,hn⟩ | ⟨_,hn⟩
  case inr=>exact hn.elim
  obtain⟨rfl,_⟩:=hn
  simp only[Bool.and_eq_true,decide_eq_true_eq] at hle
  obtain⟨c1,c2,c3,c4⟩:=hle
  obtain⟨bssb,hown,hok,hblk,hdeep⟩:=hE
  obtain⟨_,x2,rfl⟩:=hx
  obtain⟨_,_,rfl⟩:=hy
  obtain⟨ussb,hrowb,hcellb⟩:=hown.rows
  have hown1:=hown.take x2
  have hrow:=hrowb.drop l'
  have hlt:(xs.take hh).length=hh:=by rw[List.length_take];omega
  rw[N5 hown x2]
  have hbl:bssb.length=List.length xs:=hrowb.l2
  -- what is appended
  have hsrc:Src P j.kinds.length u (RK ((loc id').val (List.length xs)) j.kinds.length l' h') (List.length (xs.drop l')) (List.flatten (ussb.drop l')) w:=by
   have hfl:=DT ussb j.kinds.length l' hrowb.len
   have hfn:(List.flatten ussb).length=List.length xs*j.kinds.length:=by rw[m9 ussb hrowb.len,hrowb.l1]
   have hone:∀ v∈List.flatten (ussb.drop l'),v.oneCell'=true:=by
    intro v hv
    obtain⟨us,hus,hv⟩:=List.mem_flatten.1 hv
    obtain⟨q,hq,e⟩:=List.mem_iff_getElem.1 hus
    have h1:=hrow.l1
    have h2:=hrow.l2
    have:=hrow.rr q _ _ us (List.getElem?_eq_getElem (by omega)) (List.getElem?_eq_getElem (by omega)) (by rw[List.getElem?_eq_getElem hq,e])
    exact RR.cell _ _ _ _ this v hv
   have hlen:(List.flatten (ussb.drop l')).length=List.length (xs.drop l')*j.kinds.length:=by rw[m9 _ hrow.len,hrow.l1]
   cases hl:loc id' with
   | pin _ _ _=>rw[hl] at hown;exact hown.elim
   | nil=>
    rw[hl] at hown
    obtain⟨rfl,_⟩:=hown
    have e0:l'=0:=by simp_all
    have e1:ussb=[]:=List.eq_nil_of_length_eq_zero (by rw[hrowb.l1];rfl)
    subst e0 e1 c3
    exact Src.ofNil w hu2 0
   | at_ b off cap=>
    rw[hl] at hown
    obtain⟨_,_,_,_,_,_,hcap,_⟩:=hown
    have hn:List.length (xs.drop l')=h' - l':=by rw[List.length_drop];omega
    show Src P j.kinds.length u (.slice (if cap=l' then _ else(some ⟨b,off,none⟩:Option Addr).map (·.add (l'*j.kinds.length))) (h' - l') (cap - l')) _ _ w
    rw[<- hn]
    by_cases hcl:cap=l'
    ·have h0:xs.drop l'=[]:=List.drop_eq_nil_of_le (by omega)
     have h1:ussb.drop l'=[]:=List.drop_eq_nil_of_le (by rw[hrowb.l1];omega)
     rw[if_pos hcl,h0,h1]
     exact Src.ofSlice w hu2 ⟨b,off,none⟩ 0 _ [] (by simp) (λq v hq=>by simp_all) (λv hv=>by grind)
    ·rw[if_neg hcl]
     refine Src.ofSlice w hu2 ((⟨b,off,none⟩:Addr).add (l'*j.kinds.length)) _ _ _ hlen (λq v hq=>?_) hone
     rw[hfl,List.getElem?_drop] at hq
     have:=hcellb b off cap hl _ v hq
     have ea:((⟨b,off,none⟩:Addr).add (l'*j.kinds.length)).add q=⟨b,off+(l'*j.kinds.length+q),none⟩:=by
      rw[Addr.add_lit,Addr.add_lit,Nat.add_assoc]
     rw[ea];omega
  have hokb:∀ bb∈bssb.take hh++bssb.drop l',∀ b∈bb,Ok n0 ab m loc w b:=by
   grind
  have hmut0:dU (m id')=true:=by rw[hmb];rfl
  obtain⟨w',L',hrun,g1,g2,g3,⟨g4,gz⟩,g5,g6,gf,g7⟩:=uC (rt:=rt) hu T' hp hown1 hrow hsrc (by rw[hlt,List.length_drop];omega) (λbb hbb b hb=>by
    have h3:=hokb bb hbb b hb
    exact⟨λe=>h3.2.1 ⟨id',hmut0,e⟩,h3.1⟩) (λb hb=>(hblk b hb).2.1)
  obtain⟨d1,d2,d3⟩:=hdeep rfl rfl
  obtain⟨loc',ow',R',e'⟩:=R.renew (some id') hm (λi hi=>by simp_all) (w':=w') gz
   ⟨g1.trans R.keep.os,g2.trans R.keep.tape,g3.trans R.keep.output,Nat.le_trans R.keep.size g4,λb hb hn=>(g5 b (Nat.lt_of_lt_of_le hb R.keep.size) (λe=>by
    have h3:=(hblk b e).1
    rw[R.hn0] at h3;omega)).trans (R.keep.block b hb hn)⟩ g4 (λb hb hn=>g5 b hb (hn id' rfl))
   (l :=L') gf (λb hb=>by
    obtain⟨k1,k2⟩:=g6 b hb
    have:=R.le
    grind) g7 hokb [] (λb hb=>by grind) (deep:=true) (λ_=>by
    rw[List.flatten_append]
    have hsub:(bssb.take hh++bssb.drop l').Sublist bssb:=by
     have h1:(bssb.take hh++bssb.drop l').Sublist (bssb.take l'++bssb.drop l'):=by
      refine List.Sublist.append ?_ (List.Sublist.refl _)
      have:bssb.take hh=(bssb.take l').take hh:=by rw[List.take_take];simp_all
      rw[this];grind
     rwa [List.take_append_drop] at h1
    grind)
  rw[uY] at R'
  rw[hlt] at hrun
  refine⟨_,w',hrun,loc',ow',R',?_⟩
  show VR (cD (cD m id' .dead) (d*32) (.arr j.kinds (xs.take hh++xs.drop l') true true)) _ _ _ _ _
  simp only[VR,VR1,LR,aX]
  rw[e',bL,List.length_append,hlt]
 | _=>rw[hmb] at h;exact h.elim
theorem PN (R:Rel n0 ab rb w0 N t m a w loc ow) {d tid u rt:Nat} {x y:AVal} {xv yv:Value} {e:Eff} {tr:List Nat} (h:Does m (FV E d tid u x y) e tr)
  (hx:VR m loc (Ok n0 ab m loc w) w x xv) (hy:VR m loc (Ok n0 ab m loc w) w y yv):
  ∃ v w',(Builtin.append_ #[tid,u] rt #[xv,yv]).run P w= .ok v w'/\Post n0 ab rb w0 N t m a e v w':=by
 unfold FV at h
 split at h
 ·exact M3 hT R h hx hy
 ·exact M4 hT R h hx hy
end ops
end Go.Abs
/- Stores into elements of a row that is pinned. -/
namespace Go.Abs
open Go
theorem yG{w:World}:∀ (ks:List Kd) (r r':Row ks) (off:Nat) (k:Kd) (x:k.T) (us:List Value) (bb:List Nat),hO ks r off k x=some r'->RR w ks r us bb->
  ∃ u0 x0 b1 b b2,us[off]? =some u0/\ks[off]? =some k/\bb=b1++b++b2/\kH ks r off k=some x0/\TR w k x0 u0 b/\
   ∀ w' u,(∀ y∈b1++b2,w'.heap[y]? =w.heap[y]?)->TR w' k x u b->RR w' ks r' (us.set off u) (b1++b++b2)
 | [],_,_,_,_,_,_,_,h,_=>by cases h
 | k'::ks,r,r',0,k,x,us,bb,h,⟨u,us',b,b',e1,e2,h1,h2⟩=>by
  unfold hO at h
  obtain⟨y,hy,rfl⟩:=Option.map_eq_some_iff.1 h
  obtain⟨rfl,rfl⟩:=jL hy
  refine⟨u,r.1,[],b,b',by rw[e1];rfl,rfl,by rw[e2];rfl,by unfold kH kR;rw[dif_pos rfl],h1,λw' u' hw ht=>?_⟩
  exact⟨u',us',b,b',by rw[e1];rfl,rfl,ht,RR.mono _ _ _ _ (λy hy=>hw y (by simp_all)) h2⟩
 | k'::ks,r,r',o+1,k,x,us,bb,h,⟨u,us',b,b',e1,e2,h1,h2⟩=>by
  unfold hO at h
  obtain⟨y,hy,rfl⟩:=Option.map_eq_some_iff.1 h
  obtain⟨u0,x0,b1,b2,b3,k1,k2,k3,k4,k5,k6⟩:=yG ks r.2 y o k x us' b' hy h2
  refine⟨u0,x0,b++b1,b2,b3,by rw[e1];simp_all,by simp_all,by rw[e2,k3];simp,k4,k5,λw' u' hw ht=>?_⟩
  have ih:=k6 w' u' (λy hy=>hw y (by
   simp_all)) ht
  exact⟨u,us'.set o u',b,b1++b2++b3,by rw[e1];rfl,by simp,TR.mono _ _ _ _ (λy hy=>hw y (by grind)) h1,ih⟩
theorem xJ{w:World}{b pos T:Nat}{cs:Array Value}{fz:Nat×Nat}(hh:w.heap[b]? =some (.cells cs T fz))(hp:pos<cs.size)(u:Value)(p:Nat):
  (w.setCells b pos [u]).cell? ⟨b,p,none⟩=if p=pos then some u else w.cell? ⟨b,p,none⟩:=by
 obtain⟨cs',e1,e2⟩:=gD b T fz [u] pos w cs hh (by grind)
 rw[iZ e1,iZ hh,<- Array.getElem?_toList,e2,fF _ _ _ (by grind)]
 grind
/-- A row of pinned elements, with an element's cell written. -/
theorem PinR.store {w:World} {ks:List Kd} {xs:List (Row ks)} {hv:Value} {hd:Nat->Nat->Value} {bl:List Nat} (h:PinR w ks xs hv hd bl) {j off:Nat} {r r':Row ks} (hr:xs[j]? =some r)
  {k:Kd} {x:k.T} (hf:j7 k=true) (hs:hO ks r off k x=some r') {u:Value} {bs:List Nat} (hu:TR w k x u bs) {b o n c:Nat} (hb:hv= .slice (some ⟨b,o,none⟩) n c):
  b∈bl/\PinR (w.setCells b (o+j*ks.length+off) [u]) ks (xs.set j r') hv hd bl/\cO (w.setCells b (o+j*ks.length+off) [u]) b/\
   ∃ cs T fz,w.heap[b]? =some (.cells cs T fz)/\(fz.1=fz.2\/cs.size<=fz.1)/\o+j*ks.length+off+1<=cs.size:=by
 obtain⟨⟨A,cap,e4,hcap,hT'⟩,hH,hnd,hW⟩:=h
 subst hb
 have hjx:j<List.length xs:=(List.getElem?_eq_some_iff.1 hr).1
 rcases hT' with ⟨hx,_⟩ | ⟨b',off',bss,e5,hbl,rfl,hrow⟩
 ·rw[hx] at hr;simp_all
 subst e5
 cases e4
 have hjb:j<bss.length:=by omega
 obtain⟨us,hrr,hn,hus⟩:=hrow j r bss[j] hr (List.getElem?_eq_getElem hjb)
 obtain⟨u0,x0,b1,b2,b3,k1,k2,k3,k4,k5,k6⟩:=yG ks r r' off k x us _ hs hrr
 obtain⟨cs,T,fz,hh,hfz⟩:=hW b (List.mem_cons_self ..)
 have hlt:off<ks.length:=(List.getElem?_eq_some_iff.1 k2).1
 have hpos:o+j*ks.length+off<cs.size:=by
  have:=hus off u0 k1
  rw[iZ hh] at this
  grind
 have hnd':=List.nodup_cons.1 hnd
 obtain⟨q1,q2,q3,q4,q5⟩:=fQ b [u] (o+j*ks.length+off) w
 have hsame:∀ y∈List.flatten bss,(w.setCells b (o+j*ks.length+off) [u]).heap[y]? =w.heap[y]? :=λy hy=>q5 y λe=>hnd'.1 (e▸hy)
 obtain⟨cs',e1,e2⟩:=gD b T fz [u] (o+j*ks.length+off) w cs hh (by grind)
 have hcs:cs'.size=cs.size:=by
  have h1:cs'.toList.length=cs.toList.length:=by rw[e2];simp[eN];omega
  omega
 have hwr:cO (w.setCells b (o+j*ks.length+off) [u]) b:=⟨cs',T,fz,e1,by rw[hcs];omega⟩
 refine⟨List.mem_cons_self ..,⟨⟨_,c,by rw[List.length_set],by rw[List.length_set];omega,.inr ⟨b,o,bss,rfl,by rw[List.length_set];omega,rfl,λi r2 bb hi hbb=>?_⟩⟩,?_,hnd,λy hy=>?_⟩,hwr,cs,T,fz,hh,hfz,by omega⟩
 ·have hbm:=List.mem_of_getElem? hbb
  by_cases hij:i=j
  ·subst hij
   rw[List.getElem?_set_self hjx] at hi
   cases hi
   rw[List.getElem?_eq_getElem hjb] at hbb
   cases hbb
   have hb2:b2=[]:=(TR.flat k x0 u0 b2 hf k5).1
   obtain⟨hbs,hany⟩:=TR.flat k x u bs hf hu
   refine⟨us.set off u,?_,by rw[List.length_set];omega,λq v hq=>?_⟩
   ·have:=k6 (w.setCells b (o+i*ks.length+off) [u]) u (λy hy=>hsame y (List.mem_flatten.2 ⟨_,hbm,by
     rw[k3]
     simp_all⟩)) (by rw[hb2,<- hbs];simp_all)
    rw[k3];omega
   ·rw[xJ hh hpos]
    grind
  ·rw[List.getElem?_set_ne (λe=>hij e.symm)] at hi
   obtain⟨us2,hrr2,hn2,hus2⟩:=hrow i r2 bb hi hbb
   refine⟨us2,RR.mono _ _ _ _ (λy hy=>hsame y (List.mem_flatten.2 ⟨_,hbm,hy⟩)) hrr2,hn2,λq v hq=>?_⟩
   rw[xJ hh hpos,if_neg]
   ·simp_all
   ·have hq2:q<ks.length:=by rw[<- hn2];grind
    have:=wU (k:=q) (l:=off) (s:=ks.length) (n:=1) hij hq2 (by omega)
    omega
 ·intro b' o' l' c' e i q ks' hi hq
  cases e
  rw[List.length_set] at hi
  rw[xJ hh hpos,if_neg]
  ·exact hH b o _ _ rfl i q ks' hi hq
  ·have hq2:q<ks.length:=(List.getElem?_eq_some_iff.1 hq).1
   by_cases hij:i=j
   ·subst hij
    intro e
    have:q=off:=by omega
    subst this
    rw[hq] at k2
    cases k2;cases hf
   ·have:=wU (k:=q) (l:=off) (s:=ks.length) (n:=1) hij hq2 (by omega)
    omega
 ·by_cases c:y=b
  ·simp_all
  ·obtain⟨cs2,T2,fz2,g1,g2⟩:=hW y hy
   exact⟨cs2,T2,fz2,(q5 y c).trans g1,g2⟩
theorem yF{w:World}:∀ (ks:List Kd) (r:Row ks) (off:Nat) (k:Kd) (x:k.T) (us:List Value) (bb:List Nat),kH ks r off k=some x->RR w ks r us bb->
  ∃ u b1 b b2,us[off]? =some u/\ks[off]? =some k/\bb=b1++b++b2/\TR w k x u b/\
   ∀ w' x' r',hO ks r off k x'=some r'->(∀ y∈b1++b2,w'.heap[y]? =w.heap[y]?)->TR w' k x' u b->RR w' ks r' us bb
 | [],_,_,_,_,_,_,h,_=>by cases h
 | k'::ks,r,0,k,x,us,bb,h,⟨u,us',b,b',e1,e2,h1,h2⟩=>by
  obtain⟨rfl,rfl⟩:=jL h
  refine⟨u,[],b,b',by rw[e1];rfl,rfl,by rw[e2];rfl,h1,λw' x' r' hs hw ht=>?_⟩
  unfold hO at hs
  obtain⟨y,hy,rfl⟩:=Option.map_eq_some_iff.1 hs
  obtain⟨_,rfl⟩:=jL hy
  exact⟨u,us',b,b',e1,e2,ht,RR.mono _ _ _ _ (λy hy=>hw y (by simp_all)) h2⟩
 | k'::ks,r,o+1,k,x,us,bb,h,⟨u,us',b,b',e1,e2,h1,h2⟩=>by
  obtain⟨u2,b1,b2,b3,k1,k2,k3,k4,k5⟩:=yF ks r.2 o k x us' b' h h2
  refine⟨u2,b++b1,b2,b3,by rw[e1];simp_all,by simp_all,by rw[e2,k3];simp,k4,λw' x' r' hs hw ht=>?_⟩
  unfold hO at hs
  obtain⟨y,hy,rfl⟩:=Option.map_eq_some_iff.1 hs
  exact⟨u,us',b,b',e1,e2,TR.mono _ _ _ _ (λy hy=>hw y (by grind)) h1,k5 w' x' y hy (λy hy=>hw y (by
   simp_all)) ht⟩
theorem PinR.len{w:World}{ks:List Kd}{xs:List (Row ks)}{hv:Value}{hd:Nat->Nat->Value}{bl:List Nat}(h:PinR w ks xs hv hd bl):∃ A c,hv= .slice A (List.length xs) c:=by
 obtain⟨⟨A,c,e,_⟩,_⟩:=h
 simp_all
/-- A slice that lies in a pinned element, handed over. -/
theorem PinR.sub {w:World} {K:List Kd} {X:List (Row K)} {hv:Value} {hd:Nat->Nat->Value} {bl:List Nat} (h:PinR w K X hv hd bl) {i off:Nat} {r0:Row K} (hr:X[i]? =some r0)
  {ks:List Kd} {y:Kd.T (.sl ks)} (hg:kH K r0 off (.sl ks)=some y):
  ∃ b,(∀ z∈b,z∈bl)/\b.Nodup/\TR w (.sl ks) y (hd i off) b/\∀ w' y' r1,hO K r0 off (.sl ks) y'=some r1->TR w' (.sl ks) y' (hd i off) b->(∀ z∈bl,z∉b->w'.heap[z]? =w.heap[z]?)->
   (∀ z∈b,cO w' z)->PinR w' K (X.set i r1) hv hd bl:=by
 obtain⟨⟨A,cap,e4,hcap,hT'⟩,hH,hnd,hW⟩:=h
 have hjx:i<List.length X:=(List.getElem?_eq_some_iff.1 hr).1
 rcases hT' with ⟨hx,_⟩ | ⟨b0,o,bss,e5,hbl,rfl,hrow⟩
 ·rw[hx] at hr;simp_all
 subst e5 e4
 have hjb:i<bss.length:=by omega
 obtain⟨us,hrr,hn,hus⟩:=hrow i r0 bss[i] hr (List.getElem?_eq_getElem hjb)
 obtain⟨u,b1,b,b2,k1,k2,k3,k4,k5⟩:=yF K r0 off _ y us _ hg hrr
 have hu:hd i off=u:=by
  have h1:=hH b0 o _ _ rfl i off ks hjx k2
  rw[hus off u k1] at h1
  simp_all
 rw[hu]
 have hnd':=List.nodup_cons.1 hnd
 have hfl:=hnd'.2
 rw[sU _ _ hjb,k3] at hfl
 have hin:∀ z∈b,z∈List.flatten bss:=λz hz=>List.mem_flatten.2 ⟨_,List.getElem_mem hjb,by rw[k3];grind⟩
 have hsplit:∀ z∈b,z∉List.flatten (bss.take i)/\z∉b1/\z∉b2/\z∉List.flatten (bss.drop (i+1)):=by
  grind
 have hbnd:b.Nodup:=by
  grind
 refine⟨b,λz hz=>List.mem_cons_of_mem _ (hin z hz),hbnd,k4,λw' y' r1 hs ht hw hwr=>?_⟩
 have hb0:w'.heap[b0]? =w.heap[b0]? :=hw b0 (List.mem_cons_self ..) λhh=>hnd'.1 (hin b0 hh)
 have hcell:∀ p,w'.cell? ⟨b0,p,none⟩=w.cell? ⟨b0,p,none⟩:=λp=>World.cell?_of_block (w:=w) hb0
 refine⟨⟨_,cap,by rw[List.length_set],by rw[List.length_set];omega,.inr ⟨b0,o,bss,rfl,by rw[List.length_set];omega,rfl,λq r2 bb hi hbb=>?_⟩⟩,?_,hnd,λz hz=>?_⟩
 ·by_cases hij:q=i
  ·subst hij
   rw[List.getElem?_set_self hjx] at hi
   cases hi
   rw[List.getElem?_eq_getElem hjb] at hbb
   cases hbb
   refine⟨us,k5 w' y' _ hs (λz hz=>?_) ht,hn,λj v hj=>by rw[hcell];simp_all⟩
   refine hw z (List.mem_cons_of_mem _ (List.mem_flatten.2 ⟨_,List.getElem_mem hjb,by
    rw[k3]
    grind⟩)) λhh=>?_
   simp_all
  ·rw[List.getElem?_set_ne (λe=>hij e.symm)] at hi
   obtain⟨us2,hrr2,hn2,hus2⟩:=hrow q r2 bb hi hbb
   have hbm:=List.mem_of_getElem? hbb
   refine⟨us2,RR.mono _ _ _ _ (λz hz=>hw z (List.mem_cons_of_mem _ (List.mem_flatten.2 ⟨_,hbm,hz⟩)) λhh=>?_) hrr2,hn2,λj v hj=>by rw[hcell];simp_all⟩
   obtain⟨hqlt,hqe⟩:=List.getElem?_eq_some_iff.1 hbb
   obtain⟨t1,_,_,t4⟩:=hsplit z hh
   rcases Nat.lt_or_gt_of_ne hij with h | h
   ·exact t1 (List.mem_flatten.2 ⟨bb,by rw[<- hqe];exact List.mem_take_iff_getElem.2 ⟨q,by omega,rfl⟩,hz⟩)
   ·refine t4 (List.mem_flatten.2 ⟨bb,?_,hz⟩)
    rw[<- hqe]
    refine List.mem_drop_iff_getElem.2 ⟨q - (i+1),by omega,?_⟩
    congr 1;omega
 ·intro b' o' l' c' e q j ks' hi hq
  cases e
  rw[List.length_set] at hi
  rw[hcell]
  exact hH b0 o _ _ rfl q j ks' hi hq
 ·by_cases c:z∈b
  ·simp_all
  ·obtain⟨cs,T,fz,g1,g2⟩:=hW z hz
   exact⟨cs,T,fz,(hw z hz c).trans g1,g2⟩
section rel
variable {n0:Nat} {ab rb:Nat->Prop} {w0:World} {N:Fix} {t:Nat->AVal} {m:Mem} {a:Act} {w:World} {loc:Nat->Loc} {ow:Nat->Option Nat}
theorem Rel.storePin (R:Rel n0 ab rb w0 N t m a w loc ow) {id:Nat} {ks:List Kd} {xs:List (Row ks)} (hm:m id= .pin ks xs) {j off:Nat} {r r':Row ks} (hr:xs[j]? =some r)
  {k:Kd} {x:k.T} (hf:j7 k=true) (hs:hO ks r off k x=some r') {u:Value} {bs:List Nat} (hu:TR w k x u bs) {b o n c:Nat} {hd:Nat->Nat->Value} {bl:List Nat} (hl:loc id= .pin (.slice (some ⟨b,o,none⟩) n c) hd bl):
  Rel n0 ab rb w0 N t (cD m id (.pin ks (xs.set j r'))) a (w.setCells b (o+j*ks.length+off) [u]) loc ow/\
   ∃ cs T fz,w.heap[b]? =some (.cells cs T fz)/\(fz.1=fz.2\/cs.size<=fz.1)/\o+j*ks.length+off+1<=cs.size:=by
 have hE:=R.ents id
 unfold EntR at hE
 rw[hm] at hE
 obtain⟨hv,hd',bl',e,hp,hw⟩:=hE
 rw[hl] at e;cases e
 obtain⟨g1,g2,g3,g4⟩:=hp.store hr hf hs hu rfl
 obtain⟨q1,q2,q3,q4,q5⟩:=fQ b [u] (o+j*ks.length+off) w
 refine⟨R.write (b:=b) (by rw[hm];rfl) (by rw[hl];exact g1) rfl (by rw[hm];exact .inr (.inr ⟨⟨_,rfl,List.length_set ..⟩,rfl⟩)) q1 q2 q3 q4 q5 g3 (lW g4) (λ_ h=>by cases h) ow (λ_ _ _ _ h=>h) (λx j h=>R.owlt x j h) λ_ _=>?_,g4⟩
 unfold EntR
 rw[aX]
 grind
/-- A store into a slice that lies in a pinned element. -/
theorem Rel.storeSub (R:Rel n0 ab rb w0 N t m a w loc ow) {id:Nat} {ks:List Kd} {xs:List (Row ks)} (hm:m id= .pin ks xs) {p off:Nat} {r:Row ks} (hr:xs[p]? =some r) {ks':List Kd} {ys:List (Row ks')}
  (hys:kH ks r off (.sl ks')=some ys) {j o:Nat} {r' r2:Row ks'} (hr':ys[j]? =some r') {k:Kd} {x:k.T} (hf:j7 k=true) (hs:hO ks' r' o k x=some r2) {r1:Row ks} (hs1:hO ks r off (.sl ks') (List.set ys j r2)=some r1)
  {u:Value} {bs:List Nat} (hu:TR w k x u bs) {b o2 n c:Nat} {hv:Value} {hd:Nat->Nat->Value} {bl:List Nat} (hl:loc id= .pin hv hd bl) (hh:hd p off= .slice (some ⟨b,o2,none⟩) n c):
  Rel n0 ab rb w0 N t (cD m id (.pin ks (xs.set p r1))) a (w.setCells b (o2+j*ks'.length+o) [u]) loc ow/\
   ∃ cs T fz,w.heap[b]? =some (.cells cs T fz)/\(fz.1=fz.2\/cs.size<=fz.1)/\o2+j*ks'.length+o+1<=cs.size:=by
 have hE:=R.ents id
 unfold EntR at hE
 rw[hm] at hE
 obtain⟨hv',hd',bl',e,hp,hw⟩:=hE
 rw[hl] at e;cases e
 obtain⟨bn,hsub,hnd,hTR,hrest⟩:=hp.sub hr hys
 obtain⟨hd2,hH2⟩:=HJ hTR
 have hn:PinR w ks' ys (hd p off) hd2 bn:=⟨hTR,hH2,hnd,λz hz=>hp.2.2.2 z (hsub z hz)⟩
 obtain⟨g1,g2,g3,g4⟩:=hn.store hr' hf hs hu hh
 obtain⟨q1,q2,q3,q4,q5⟩:=fQ b [u] (o2+j*ks'.length+o) w
 have hnew:=hrest (w.setCells b (o2+j*ks'.length+o) [u]) _ r1 hs1 g2.1 (λz _ hzn=>q5 z λe=>hzn (e▸g1)) g2.2.2.2
 refine⟨R.write (b:=b) (by rw[hm];rfl) (by rw[hl];exact hsub b g1) rfl (by rw[hm];exact .inr (.inr ⟨⟨_,rfl,List.length_set ..⟩,rfl⟩)) q1 q2 q3 q4 q5 g3 (lW g4) (λ_ h=>by cases h) ow (λ_ _ _ _ h=>h) (λx j h=>R.owlt x j h) λ_ _=>?_,g4⟩
 unfold EntR
 rw[aX]
 grind
theorem ER(b:Nat)(u:Value)(us:List Value)(o:Nat)(w:World):w.setCells b o (u::us)=(w.setCells b o [u]).setCells b (o+1) us:=rfl
theorem CN{w:World}{b o:Nat}{u:Value}(h:w.cell? ⟨b,o,none⟩=some u){cs:Array Value}{T:Nat}{fz:Nat×Nat}(hh:w.heap[b]? =some (.cells cs T fz)):w.setCells b o [u]=w:=by
 rw[iZ hh] at h
 show w.setCell ⟨b,o,none⟩ u=w
 unfold World.setCell
 have e:w.heap.modify b (fun
   | .cells c elem frozen=> .cells (if(none:Option Nat).isSome then c else c.setIfInBounds o u) elem frozen
   | o=>o)=w.heap:=by
  apply Array.ext_getElem?
  intro i
  rw[Array.getElem?_modify]
  by_cases c:b=i
  ·subst c
   rw[if_pos rfl,hh]
   show some (Obj.cells (cs.setIfInBounds o u) T fz)=_
   have:cs.setIfInBounds o u=cs:=by
    grind
   rw[this]
  simp_all
 exact congrArg (λh=>{ w with heap:=h }) e
/-- What the leaves of a store into a pinned element tell. -/
def PV(hd:Nat->Nat->Value)(id j:Nat):Nat->List Leaf->List Value->Prop
 | _,[],us=>us=[]
 | off,.v k x::ls,us=>∃ u us',us=u::us'/\(j7 k=true->∃ bs,∀ w:World,TR w k x u bs)/\PV hd id j (off+1) ls us'
 | off,.psl id' j' o'::ls,us=>∃ u us',us=u::us'/\(id'=id->j'=j->o'=off->u=hd j off)/\PV hd id j (off+1) ls us'
 | off,_::ls,us=>∃ u us',us=u::us'/\PV hd id j (off+1) ls us'
theorem TR.any{w:World}:∀ {k:Kd} {x:k.T} {u:Value} {bs:List Nat},j7 k=true->TR w k x u bs->∀ w':World,TR w' k x u bs
 | .int _,_,_,_,_,h,_=>h
 | .bool,_,_,_,_,h,_=>h
 | .str,_,_,_,_,h,_=>h
 | .fn,_,_,_,_,h,_=>h
 | .sl _,_,_,_,hf,_,_=>by cases hf
theorem PV.of{ok:Nat->Prop}{id j:Nat}{ks:List Kd}{xs:List (Row ks)}(hm:m id= .pin ks xs){hv:Value}{hd:Nat->Nat->Value}{bl:List Nat}(hl:loc id= .pin hv hd bl):∀ (ls:List Leaf) (off:Nat) (us:List Value),LRs m loc ok w ls us->PV hd id j off ls us
 | [],_,us,h=>h
 | l::ls,off,us,⟨u,us',e,h,hs⟩=>by
  have ih:=PV.of (j:=j) hm hl ls (off+1) us' hs
  cases l with
  | v k x=>
   obtain⟨bs,hT,_⟩:=h
   exact⟨u,us',e,λhf=>⟨bs,λw'=>TR.any hf hT w'⟩,ih⟩
  | psl id' j' o'=>
   refine⟨u,us',e,λe1 e2 e3=>?_,ih⟩
   subst e1 e2 e3
   simp only[LR,hm] at h
   grind
  | nil=>exact⟨u,us',e,ih⟩
  | own _=>exact⟨u,us',e,ih⟩
  | ptr _ _=>exact⟨u,us',e,ih⟩
  | eptr _ _ _=>exact⟨u,us',e,ih⟩
  | pptr _ _ _ _ _ _=>exact⟨u,us',e,ih⟩
  | vw _ _ _=>exact⟨u,us',e,ih⟩
  | rptr _ _ _=>exact⟨u,us',e,ih⟩
  | any=>exact⟨u,us',e,ih⟩
  | hdr _=>exact⟨u,us',e,ih⟩
theorem MB(m:Mem)(id:Nat)(e e':Ent):cD (cD m id e) id e'=cD m id e':=by
 funext i
 by_cases c:i=id
 ·subst c;rw[aX,aX]
 ·rw[a9 _ _ c,a9 _ _ c,a9 _ _ c]
theorem SH{m:Mem}{id:Nat}{e:Ent}(h:m id=e):cD m id e=m:=by
 funext i
 by_cases c:i=id
 ·subst c;rw[aX,h]
 ·rw[a9 _ _ c]
/-- Cells of a pinned element, stored one after another. -/
theorem Rel.pinSet{ks:List Kd}{id j b o n c:Nat}{hd:Nat->Nat->Value}{bl:List Nat}(hl:loc id= .pin (.slice (some ⟨b,o,none⟩) n c) hd bl){m0:Mem}:
  ∀ (ls:List Leaf) {m:Mem} {w:World} {xs:List (Row ks)} (R:Rel n0 ab rb w0 N t m a w loc ow) (hm:m id= .pin ks xs) {off:Nat} {r r':Row ks} (hr:xs[j]? =some r) {tr:List Nat} (h:Does m0 (Abs.pinSet ks id j r off ls) r' tr)
   {us:List Value} (hu:PV hd id j off ls us) (hne:ls≠[]),
   Rel n0 ab rb w0 N t (cD m id (.pin ks (xs.set j r'))) a (w.setCells b (o+j*ks.length+off) us) loc ow/\
    ∃ cs T fz,w.heap[b]? =some (.cells cs T fz)/\(fz.1=fz.2\/cs.size<=fz.1)/\o+j*ks.length+off+us.length<=cs.size
 | [],_,_,_,_,_,_,_,_,_,_,_,_,_,hne=>absurd rfl hne
 | l ::ls,m,w,xs,R,hm,off,r,r',hr,tr,h,us,hu,_=>by
  have hjx:j<List.length xs:=(List.getElem?_eq_some_iff.1 hr).1
  -- one cell
  have one:∃ r1 u us',us=u::us'/\PV hd id j (off+1) ls us'/\(∃ tr',Does m0 (Abs.pinSet ks id j r1 (off+1) ls) r' tr')/\
    Rel n0 ab rb w0 N t (cD m id (.pin ks (xs.set j r1))) a (w.setCells b (o+j*ks.length+off) [u]) loc ow/\
    ∃ cs T fz,w.heap[b]? =some (.cells cs T fz)/\(fz.1=fz.2\/cs.size<=fz.1)/\o+j*ks.length+off+1<=cs.size:=by
   cases l with
   | v k x=>
    obtain⟨u,us',e,hf,hp⟩:=hu
    unfold Abs.pinSet at h
    split at h
    case isFalse=>exact h.elim
    rename_i hfl
    obtain⟨r1,hs,h'⟩:=h
    obtain⟨bs,hT⟩:=hf hfl
    obtain⟨R',g⟩:=R.storePin hm hr hfl hs (hT w) hl
    grind
   | psl id' j' o'=>
    obtain⟨u,us',e,hf,hp⟩:=hu
    unfold Abs.pinSet at h
    split at h
    case isFalse=>exact h.elim
    rename_i hid
    simp only[Bool.and_eq_true,Nat.beq_eq] at hid
    rcases h with ⟨hj,h⟩ | ⟨_,h⟩
    case inr=>exact h.elim
    replace hj:=of_decide_eq_true hj
    split at h
    case h_2=>exact h.elim
    rename_i ks' hk
    have hu':u=hd j off:=hf (by omega) hj (by omega)
    have hE:=R.ents id
    unfold EntR at hE
    rw[hm] at hE
    obtain⟨hv',hd',bl',e4,hp4,hw4⟩:=hE
    rw[hl] at e4;cases e4
    obtain⟨⟨A,cap,e5,hcap,hT'⟩,hH,hnd,hW⟩:=hp4
    have hcell:=hH b o _ _ rfl j off ks' hjx hk
    rcases hT' with ⟨hx,_⟩ | ⟨b',off',bss,e6,hbl,rfl,hrow⟩
    ·rw[hx] at hjx;simp_all
    cases e5
    cases e6
    obtain⟨cs,T,fz,hh,hfz⟩:=hW b (List.mem_cons_self ..)
    have hsame:w.setCells b (o+j*ks.length+off) [u]=w:=CN (by rw[hcell,hu']) hh
    have hpos:o+j*ks.length+off<cs.size:=by
     rw[iZ hh] at hcell
     grind
    have hset:xs.set j r=xs:=by
     obtain⟨h1,h2⟩:=List.getElem?_eq_some_iff.1 hr
     rw[<- h2];simp
    exact⟨r,u,us',e,hp,⟨_,h⟩,by rw[hsame,hset,SH hm];omega,cs,T,fz,hh,hfz,by omega⟩
   | nil=>exact h.elim
   | own _=>exact h.elim
   | ptr _ _=>exact h.elim
   | eptr _ _ _=>exact h.elim
   | pptr _ _ _ _ _ _=>exact h.elim
   | vw _ _ _=>exact h.elim
   | rptr _ _ _=>exact h.elim
   | any=>exact h.elim
   | hdr _=>exact h.elim
  obtain⟨r1,u,us',rfl,hp,⟨tr',h'⟩,R1,cs,T,fz,hh,hfz,hle⟩:=one
  cases ls with
  | nil=>
   obtain⟨rfl,_⟩:r'=r1/\tr'=[]:=h'
   have hp:us'=[]:=hp
   grind
  | cons l2 ls=>
   obtain⟨R2,cs2,T2,fz2,hh2,_,hle2⟩:=Rel.pinSet hl (l2::ls) R1 (aX ..) (r:=r1) (by rw[List.getElem?_set_self hjx]) h' hp (by simp)
   rw[MB,List.set_set] at R2
   obtain⟨cs',e1,e2⟩:=gD b T fz [u] (o+j*ks.length+off) w cs hh (by omega)
   have hcs:cs'.size=cs.size:=by
    have h1:cs'.toList.length=cs.toList.length:=by rw[e2];simp[eN];omega
    omega
   rw[e1] at hh2;cases hh2
   refine⟨by rw[ER];omega,cs,T,fz,hh,hfz,by grind⟩
end rel
end Go.Abs
/- Stores; one operation that calls nothing. -/
namespace Go.Abs
open Go
section ops
variable {P:Program} {E:Env} (hT:TOk P E.ti)
variable {n0:Nat} {ab rb:Nat->Prop} {w0:World} {N:Fix} {t:Nat->AVal} {m:Mem} {a:Act} {w:World} {loc:Nat->Loc} {ow:Nat->Option Nat}
theorem LRs.cells{ok:Nat->Prop}:∀ (ls:List Leaf) (us:List Value),LRs m loc ok w ls us->∀ u∈us,u.oneCell'=true
 | [],us,h,u,hu=>by rw[h] at hu;grind
 | l::ls,us,⟨x,us',e,h,hs⟩,u,hu=>by
  rw[e] at hu
  rcases List.mem_cons.1 hu with rfl | hu
  ·exact LR.cell _ _ h
  ·exact LRs.cells ls us' hs u hu
include hT
theorem S2(R:Rel n0 ab rb w0 N t m a w loc ow){tid:Nat}{x y:Operand}{e:Eff}{tr:List Nat}(h:Does m (ty E tid λi=>IM i (cA t x) (cA t y)) e tr):
  ∃ w',(Instr.storeAt tid (a.eval x) (a.eval y)).run P w= .ok () w'/\Post n0 ab rb w0 N t m a e undef w':=by
 obtain⟨i,T,_,h'⟩:=cB hT h;replace h:=h';clear h'
 have hx:=R.eval x
 have hy:=R.eval y
 generalize cA t x=q at h hx
 generalize a.eval x=u at hx
 generalize cA t y=p at h hy
 generalize a.eval y=v at hy
 unfold IM eY at h
 split at h
 case h_2=>exact h.elim
 rename_i new hnew
 obtain⟨us,hc,hLs,_⟩:=hy.leaves hnew
 have hul:us.length=new.length:=LRs.length _ _ hLs
 dsimp only at h
 by_cases hlen:new.length=i.size/\0<i.size
 case neg=>rw[if_neg hlen] at h;exact h.elim
 rw[if_pos hlen] at h
 obtain⟨hlen,hpos⟩:=hlen
 split at h
 ·rename_i id off
  obtain⟨tr',_,h'⟩:=h;replace h:=h';clear h'
  have hE:=R.ents id
  simp only[VR,VR1,LR] at hx
  unfold EntR at hE
  cases hm:m id with
  | var ls=>
   rw[hm] at hE h hx
   dsimp only at hx h
   split at h
   case isFalse=>exact h.elim
   rename_i hle
   obtain⟨rfl,_⟩:=h
   obtain⟨b,cs,T2,fz,hl,hh,hf,hls,hw⟩:=hE
   obtain⟨b',hl',rfl⟩:=hx
   rw[hl] at hl';cases hl'
   have hcs:=LRs.length _ _ hls
   have R':=R.storeVar hm hLs hle hl
   refine⟨_,?_,loc,ow,R',rfl⟩
   have:=gU (P:=P) T (b:=b) (o:=off) hc (by omega) (LRs.cells _ _ hLs) hh hf (by simp_all)
   simpa [Instr.storeAt,Instr.sureAddr,Result.andThen] using this
  | _=>rw[hm] at h;simp_all
 ·rename_i id j off
  obtain⟨tr',_,h'⟩:=h;replace h:=h';clear h'
  simp only[VR,VR1,LR] at hx
  cases hm:m id with
  | arr ks xs deep opn=>
   rw[hm] at h hx
   dsimp only at hx h
   split at h
   case h_2=>simp_all
   case h_3=>exact h.elim
   rename_i ks1 xs1 deep1 heq
   cases heq
   obtain⟨r,hr,h'⟩:=h;replace h:=h';clear h'
   obtain⟨⟨r',wr,p'⟩,t1,t2,_,h1,h2⟩:=Does.bind _ _ h
   dsimp only at h2
   split at h2
   ·exact h2.elim
   rename_i hid
   obtain⟨rfl,_⟩:=h2
   obtain⟨hj,b,o,c,hl,rfl⟩:=hx
   have hne:new≠[]:=λe=>by rw[e] at hlen;simp_all
   obtain⟨ow',R',cs,T2,fz,hh,hf,hle⟩:=R.storeArr hm hr h1 hLs hne (by simp_all) hl
   refine⟨_,?_,loc,ow',R',rfl⟩
   have:=gU (P:=P) T (b:=b) (o:=o+j*ks.length+off) hc (by omega) (LRs.cells _ _ hLs) hh hf hle
   simpa [Instr.storeAt,Instr.sureAddr,Result.andThen] using this
  | pin ks xs=>
   rw[hm] at h hx
   dsimp only at hx h
   split at h
   case h_2=>
    obtain⟨r,hr,h'⟩:=h;replace h:=h';clear h'
    obtain⟨r',t1,t2,_,h1,h2⟩:=Does.bind _ _ h
    obtain⟨rfl,_⟩:=h2
    obtain⟨hj,b,o,n,c,hd,bl,hl,rfl⟩:=hx
    have hne:new≠[]:=λe=>by rw[e] at hlen;simp_all
    obtain⟨R',cs,T2,fz,hh,hf,hle⟩:=Rel.pinSet hl new R hm hr h1 (PV.of hm hl new off us hLs) hne
    refine⟨_,?_,loc,ow,R',rfl⟩
    have:=gU (P:=P) T (b:=b) (o:=o+j*ks.length+off) hc (by omega) (LRs.cells _ _ hLs) hh hf hle
    simpa [Instr.storeAt,Instr.sureAddr,Result.andThen] using this
   rename_i k y
   split at h
   case isFalse=>exact h.elim
   rename_i hfl
   obtain⟨r,hr,r',hr',h'⟩:=h;replace h:=h';clear h'
   obtain⟨rfl,_⟩:=h
   obtain⟨hj,b,o,n,c,hd,bl,hl,rfl⟩:=hx
   obtain⟨v0,us',rfl,⟨bs,hTR,_⟩,hnil⟩:=hLs
   have hnil':us'=[]:=hnil
   subst hnil'
   obtain⟨R',cs,T2,fz,hh,hf,hle⟩:=R.storePin hm hr hfl hr' hTR hl
   refine⟨_,?_,loc,ow,R',rfl⟩
   have:=gU (P:=P) T (b:=b) (o:=o+j*ks.length+off) hc (by omega) (λu hu=>by
    rcases List.mem_cons.1 hu with rfl | hu
    ·exact TR.one _ _ _ _ hTR
    simp_all) hh hf hle
   simpa [Instr.storeAt,Instr.sureAddr,Result.andThen] using this
  | _=>rw[hm] at h;exact h.elim
 ·rename_i id p off wd j o
  obtain⟨tr',_,h'⟩:=h;replace h:=h';clear h'
  simp only[VR,VR1,LR] at hx
  cases hm:m id with
  | pin ks xs=>
   rw[hm] at h hx
   dsimp only at hx h
   split at h
   case h_2=>exact h.elim
   rename_i ks1 xs1 k y heq hright
   cases heq
   split at h
   case isFalse=>exact h.elim
   rename_i hfl
   obtain⟨r,hr,h'⟩:=h;replace h:=h';clear h'
   dsimp only at h
   split at h
   case h_2=>exact h.elim
   rename_i ks' hks
   split at h
   case isFalse=>exact h.elim
   rename_i hwd
   obtain⟨ys,hys,r',hr',r2,hr2,r1,hr1,h'⟩:=h;replace h:=h';clear h'
   obtain⟨rfl,_⟩:=h
   obtain⟨hv,hd,bl,b,o2,n,c,hl,hh2,rfl⟩:=hx
   obtain⟨v0,us',rfl,⟨bs,hTR,_⟩,hnil⟩:=hLs
   have hnil':us'=[]:=hnil
   subst hnil'
   subst hwd
   obtain⟨R',cs,T2,fz,hh,hf,hle⟩:=R.storeSub hm hr hys hr' hfl hr2 hr1 hTR hl hh2
   refine⟨_,?_,loc,ow,R',rfl⟩
   have:=gU (P:=P) T (b:=b) (o:=o2+j*ks'.length+o) hc (by omega) (λu hu=>by
    rcases List.mem_cons.1 hu with rfl | hu
    ·exact TR.one _ _ _ _ hTR
    simp_all) hh hf hle
   simpa [Instr.storeAt,Instr.sureAddr,Result.andThen] using this
  | _=>rw[hm] at h;exact h.elim
 ·exact h.elim
omit hT in
theorem zT{α β:Type}(f:α->β)(xs:Array α):xs.map f=(xs.toList.map f).toArray:=by
 grind
/-- What an operation that calls nothing does. -/
def Done(P:Program)(n0:Nat)(ab rb:Nat->Prop)(w0:World)(N:Fix)(t:Nat->AVal)(m:Mem)(a:Act)(w:World)(o:Oper)(e:Eff):Prop:=
 ∃ v w',((execOp a.eval o).run P w= .ok (.value v) w'\/((execOp a.eval o).run P w= .ok .skip w'/\v=undef))/\Post n0 ab rb w0 N t m a e v w'
omit hT in
theorem Done.value{o:Oper}{e:Eff}{s:Sem Value}(he:execOp a.eval o=(do pure (Next.value (<- s))))(h:∃ v w',s.run P w= .ok v w'/\Post n0 ab rb w0 N t m a e v w'):Done P n0 ab rb w0 N t m a w o e:=by
 obtain⟨v,w',h,hp⟩:=h
 exact⟨v,w', .inl (by rw[he];simp_all),hp⟩
omit hT in
theorem Done.pure (R:Rel n0 ab rb w0 N t m a w loc ow) {o:Oper} {e:Eff} {s:Sem Value} (he:execOp a.eval o=(do pure (Next.value (<- s))))
  (h:∃ v,s.run P w= .ok v w/\e.wr=[]/\VR m loc (Ok n0 ab m loc w) w e.v v):Done P n0 ab rb w0 N t m a w o e:=by
 obtain⟨v,h1,h2,h3⟩:=h
 exact Done.value he ⟨v,w,h1,Post.same R h2 h3⟩
def zG(o:Oper):Bool:=match o.op with
 | .call c=>match c.callee with
  | .builtin _=>true
  | _=>false
 | _=>true
theorem TC(hD:9<=P.depth)(R:Rel n0 ab rb w0 N t m a w loc ow){rts:Nat->Option (List Nat)}{o:Oper}{e:Eff}{tr:List Nat}(h:Does m (opR E rts o (cA t)) e tr)(hp:zG o=true):
  Done P n0 ab rb w0 N t m a w o e:=by
 rw[I3] at h
 unfold opD at h
 unfold zG at hp
 try dsimp only at h
 split at h
 ·rename_i x ho
  obtain⟨rfl,_⟩:=h
  exact⟨a.eval x,w,.inl (by simp[execOp,ho]),Post.same R rfl (R.eval x)⟩
 ·rename_i x ho
  obtain⟨rfl,_⟩:=h
  exact⟨a.eval x,w,.inl (by simp[execOp,ho]),Post.same R rfl (R.eval x)⟩
 ·rename_i c x y ho
  have hv:=R.eval c
  generalize hq:cA t c=q at h hv
  generalize hu:a.eval c=u at hv
  unfold asBool at h
  split at h
  case h_2=>exact h.elim
  rename_i b
  have:=VR.bool hv;subst this
  rcases h with ⟨hb,h⟩ | ⟨hb,h⟩
  ·obtain⟨rfl,_⟩:=h
   subst hb
   exact⟨a.eval x,w,.inl (by simp[execOp,ho,hu,Go.asBool,Result.andThen]),Post.same R rfl (R.eval x)⟩
  ·obtain⟨rfl,_⟩:=h
   subst hb
   exact⟨a.eval y,w,.inl (by simp[execOp,ho,hu,Go.asBool,Result.andThen]),Post.same R rfl (R.eval y)⟩
 ·rename_i tid ho
  exact Done.value (by simp only[execOp,ho];try rfl) (S7 hT R h)
 ·rename_i tid x ho
  exact Done.value (by simp only[execOp,ho];try rfl) (V1 R h)
 ·rename_i tid ps ho
  have h':Does m (KK E tid (ps.toList.map λp=>(p.1,cA t p.2))) e tr:=h
  refine Done.pure R (s:=Instr.build tid (ps.map λp=>(p.1,a.eval p.2))) (by simp only[execOp,ho];try rfl) ?_
  have:=S6 hT R h'
  rw[zT];omega
 ·rename_i tid n ps ho
  refine Done.value (s:=Instr.buildSlice tid n (ps.map λp=>(p.1,a.eval p.2))) (by simp only[execOp,ho];try rfl) ?_
  have:=E0 hT R h
  rw[zT];omega
 ·rename_i tid x ho
  exact Done.pure R (by simp only[execOp,ho];try rfl) (PM hT R h)
 ·rename_i tid x y ho
  obtain⟨w',h1,h2⟩:=S2 hT R h
  exact⟨undef,w', .inr ⟨by simp[execOp,ho,h1,Result.andThen],rfl⟩,h2⟩
 ·rename_i x ho
  have hv:=R.eval x
  generalize hq:cA t x=q at h hv
  generalize hu:a.eval x=u at hv
  have key:∀ p,u= .pointer (some p)->(execOp a.eval o).run P w= .ok (.value u) w:=by
   intro p hp;subst hp;simp[execOp,ho,hu]
  split at h
  ·obtain⟨rfl,_⟩:=h
   have hv':=hv
   simp only[VR,VR1,LR] at hv
   split at hv
   ·obtain⟨b,_,e1⟩:=hv
    exact⟨u,w,.inl (key _ e1),Post.same R rfl hv'⟩
   simp_all
  ·obtain⟨rfl,_⟩:=h
   have hv':=hv
   simp only[VR,VR1,LR] at hv
   split at hv
   ·obtain⟨_,b,o,c,_,e1⟩:=hv
    exact⟨u,w,.inl (key _ e1),Post.same R rfl hv'⟩
   ·obtain⟨_,b,o,n,c,hd,bl,_,e1⟩:=hv
    exact⟨u,w,.inl (key _ e1),Post.same R rfl hv'⟩
   ·obtain⟨b,o,e1⟩:=hv
    exact⟨u,w,.inl (key _ e1),Post.same R rfl hv'⟩
   simp_all
  ·obtain⟨rfl,_⟩:=h
   have hv':=hv
   simp only[VR,VR1,LR] at hv
   split at hv
   ·obtain⟨_,_,_,b,o2,n,c,_,_,e1⟩:=hv
    exact⟨u,w,.inl (key _ e1),Post.same R rfl hv'⟩
   ·obtain⟨b,o,e1⟩:=hv
    exact⟨u,w,.inl (key _ e1),Post.same R rfl hv'⟩
   ·obtain⟨b,o,e1⟩:=hv
    exact⟨u,w,.inl (key _ e1),Post.same R rfl hv'⟩
   simp_all
  ·obtain⟨rfl,_⟩:=h
   have hv':=hv
   simp only[VR,VR1,LR] at hv
   obtain⟨b,o,us,bs,e1,_⟩:=hv
   exact⟨u,w,.inl (key _ e1),Post.same R rfl hv'⟩
  ·exact h.elim
 ·rename_i op tid x y ph ho
  obtain⟨v,t1,t2,_,h1,h2⟩:=Does.bind _ _ h
  obtain⟨rfl,_⟩:=h2
  obtain⟨u,k1,k2⟩:=V2 hT hD R h1
  exact Done.pure R (by simp only[execOp,ho];try rfl) ⟨u,k1,rfl,k2⟩
 ·rename_i op tid x ho
  obtain⟨v,t1,t2,_,h1,h2⟩:=Does.bind _ _ h
  obtain⟨rfl,_⟩:=h2
  obtain⟨u,k1,k2⟩:=WM R h1
  exact Done.pure R (by simp only[execOp,ho];try rfl) ⟨u,k1,rfl,k2⟩
 ·rename_i src dst x ho
  exact Done.value (by simp only[execOp,ho];try rfl) (M2 hT R h)
 ·rename_i tid l c ho
  exact Done.value (by simp only[execOp,ho];try rfl) (GR hT R h)
 ·rename_i tid x lo hi mx ho
  split at h
  ·exact h.elim
  rename_i hmx
  have:mx=none:=by cases mx<;>simp_all
  subst this
  obtain⟨v,k1,k2⟩:=S3 hT R h
  exact Done.value (by simp only[execOp,ho];rfl) ⟨v,w,k1,k2⟩
 ·rename_i tid x f ho
  exact Done.pure R (by simp only[execOp,ho];try rfl) (GT hT R h)
 ·rename_i tid x f ho
  exact Done.pure R (by simp only[execOp,ho];try rfl) (S5 hT R h)
 ·rename_i tid x f ho
  exact Done.pure R (by simp only[execOp,ho];try rfl) (GS hT R h)
 ·rename_i tid x f ho
  exact Done.pure R (by simp only[execOp,ho];try rfl) (S4 hT R h)
 ·rename_i x n ho
  have hv:=R.eval x
  generalize hq:cA t x=q at h hv
  generalize hu:a.eval x=u at hv
  split at h
  case h_2=>exact h.elim
  rename_i vs
  split at h
  case h_2=>exact h.elim
  rename_i v hn
  obtain⟨rfl,_⟩:=h
  obtain⟨us,rfl,hl,hk⟩:=hv
  have hlt:n<us.length:=by grind
  have hu1:=hk n v us[n] hn (List.getElem?_eq_getElem hlt)
  refine Done.pure R (by simp only[execOp,ho];rfl) ⟨us[n],?_,rfl,?_⟩
  ·rw[hu];simp[Instr.extract,List.getElem?_eq_getElem hlt]
  ·cases v with
   | tup vs'=>exact hu1.elim
   | _=>exact hu1
 ·rename_i c ho
  split at h
  ·rename_i b hb
   have hexec:∀ (s:Sem Value),(∀ cs,builtin b c.argTypes o.type cs (c.args.map a.eval)=(do pure (Next.value (<- s))))->execOp a.eval o=(do pure (Next.value (<- s))):=by
    intro s hs
    simp only[execOp,ho,resolve,hb,pure_bind,invoke]
    simp_all
   have hxs:c.args.map a.eval=(c.args.toList.map a.eval).toArray:=zT _ _
   have hts:c.argTypes=c.argTypes.toList.toArray:=by simp
   rw[hxs,hts] at hexec
   generalize c.args.toList=os at h hexec
   generalize c.argTypes.toList=ts at h hexec
   unfold H1 at h
   split at h
   ·rename_i x hx
    match os,hx with
    | [x0],hx=>
     simp only[List.map_cons,List.map_nil,List.cons.injEq,and_true] at hx
     subst hx
     split at h
     ·rename_i tid
      exact Done.pure R (hexec (Builtin.len_ #[tid] o.type #[a.eval x0]) (λcs=>rfl)) (V0 hT R h)
     ·exact h.elim
   ·rename_i x y hx
    match os,hx with
    | [x0,y0],hx=>
     simp only[List.map_cons,List.map_nil,List.cons.injEq,and_true] at hx
     obtain⟨rfl,rfl⟩:=hx
     split at h
     ·rename_i tid u
      exact Done.value (hexec (Builtin.append_ #[tid,u] o.type #[a.eval x0,a.eval y0]) (λcs=>rfl)) (PN hT R h (R.eval x0) (R.eval y0))
     ·exact h.elim
   ·rename_i x r hx
    match os,hx with
    | x0::os,hx=>
     simp only[List.map_cons,List.cons.injEq] at hx
     obtain⟨rfl,rfl⟩:=hx
     refine Done.pure R (hexec ((os.map a.eval).foldlM Builtin.max2 (a.eval x0)) (λcs=>by rfl)) ?_
     exact UC true _ _ _ _ _ _ h (R.eval x0) (by simp) (λi y z hy hz=>by
      rw[List.getElem?_map] at hy hz
      cases hi:os[i]? with
      | none=>rw[hi] at hy;grind
      | some p=>rw[hi] at hy hz;cases hy;cases hz;exact R.eval p)
   ·rename_i x r hx
    match os,hx with
    | x0::os,hx=>
     simp only[List.map_cons,List.cons.injEq] at hx
     obtain⟨rfl,rfl⟩:=hx
     refine Done.pure R (hexec ((os.map a.eval).foldlM Builtin.min2 (a.eval x0)) (λcs=>by rfl)) ?_
     exact UC false _ _ _ _ _ _ h (R.eval x0) (by simp) (λi y z hy hz=>by
      rw[List.getElem?_map] at hy hz
      cases hi:os[i]? with
      | none=>rw[hi] at hy;grind
      | some p=>rw[hi] at hy hz;cases hy;cases hz;exact R.eval p)
   ·exact h.elim
  ·simp_all
  simp_all
 ·exact h.elim
end ops
end Go.Abs
/- What is told of a call; arguments. -/
namespace Go.Abs
open Go
def CI(agg:Bool)(us:List Value)(v:Value):Prop:=(agg=true/\v= .agg us.toArray)\/(agg=false/\us=[v])
def Whole(w:World)(b:Nat)(us:List Value):Prop:=∃ cs T fz,w.heap[b]? =some (.cells cs T fz)/\(fz.1=fz.2\/cs.size<=fz.1)/\cs.toList=us
def WT(w:World):Arg->Value->List Nat->List Nat->Prop
 | .val agg c,v,bs,rbs=>rbs=[]/\∃ us,CI agg us v/\RR w c.ks c.row us bs
 | .own _ _,_,_,_=>False
 | .ref c,v,bs,rbs=>∃ b us,rbs=[b]/\v= .pointer (some ⟨b,0,none⟩)/\Whole w b us/\RR w c.ks c.row us bs
def y8(w:World):List Arg->List Value->List Nat->List Nat->Prop
 | [],vs,bs,rbs=>vs=[]/\bs=[]/\rbs=[]
 | x::xs,vs,bs,rbs=>∃ v vs' b b' r r',vs=v::vs'/\bs=b++b'/\rbs=r++r'/\WT w x v b r/\y8 w xs vs' b' r'
/-- A row whose slices lie in blocks of their own. -/
def FR(w:World):(ks:List Kd)->Row ks->List Value->List Nat->List Nat->Prop
 | [],_,us,ts,ins=>us=[]/\ts=[]/\ins=[]
 | .sl ks::r,x,us,ts,ins=>∃ l bss us' ts' ins',us=Loc.val l (List.length x.1)::us'/\OwnAt w ks x.1 l bss/\ts=l.blk.toList++ts'/\ins=List.flatten bss++ins'/\FR w r x.2 us' ts' ins'
 | k::r,x,us,ts,ins=>∃ u us',us=u::us'/\TR w k x.1 u []/\FR w r x.2 us' ts ins
def T0(fr:Bool)(w:World)(ks:List Kd)(x:Row ks)(us:List Value)(ts ins:List Nat):Prop:=
 if fr then FR w ks x us ts ins else ts=[]/\RR w ks x us ins
def tA(fr:Bool)(w:World):List (Bool×List Kd)->List CRow->List Value->List Nat->List Nat->Prop
 | [],cs,vs,ts,ins=>cs=[]/\vs=[]/\ts=[]/\ins=[]
 | (agg,ks)::rt,cs,vs,ts,ins=>∃ c cs' v vs' us t t' i i',cs=c::cs'/\vs=v::vs'/\ts=t++t'/\ins=i++i'/\CI agg us v/\T0 fr w c.ks c.row us t i/\tA fr w rt cs' vs' t' i'
def L7(w:World):List Nat->List CRow->List Nat->Prop
 | [],cs,bs=>cs=[]/\bs=[]
 | b::r,cs,bs=>∃ c cs' us x x',cs=c::cs'/\bs=x++x'/\Whole w b us/\RR w c.ks c.row us x/\L7 w r cs' x'
def rS(vs:List Value):Value:=match vs with
 | [v]=>v
 | vs=> .tuple vs.toArray
/-- What a call leaves. -/
structure Left (fr:Bool) (rt:List (Bool×List Kd)) (out:Out) (bs rbs:List Nat) (w:World) (v:Value) (w':World):Prop where
 keep:Keep (·∈rbs) w w'
 sz:∀ b,b<w.heap.size->SizeLe w w' b
 free:∀ b,w.heap.size<=b->b<w'.heap.size->cO w' b
 res:∃ vs ts ins B,v=rS vs/\tA fr w' rt out.res vs ts ins/\L7 w' rbs out.refs B/\
  (∀ b∈B,b<w'.heap.size/\b∉rbs/\(w.heap.size<=b\/b∈bs)/\b∉ts)/\
  (∀ b∈ins,b<w'.heap.size/\b∉rbs/\(w.heap.size<=b\/(fr=false/\b∈bs))/\b∉ts)/\
  (∀ b∈ts,w.heap.size<=b/\b<w'.heap.size)/\(fr=true->ts.Nodup/\ins.Nodup)
/-- What a call leaves whose results' slices are its own, but not what lies behind their cells. -/
def VS(rt:List (Bool×List Kd))(out:Out)(bs:List Nat)(w:World)(v:Value)(w':World):Prop:=
 ∃ vs ts ins,v=rS vs/\tA true w' rt out.res vs ts ins/\ts.Nodup/\(∀ b∈ts,w.heap.size<=b/\b<w'.heap.size)/\
  ∀ b∈ins,b<w'.heap.size/\b∉ts/\(w.heap.size<=b\/b∈bs)
def VU(P:Program)(ti:Ti)(rts:Nat->Option (List Nat))(fresh:Nat->Bool)(g:Nat)(as:List Arg)(out:Out):Prop:=
 (∃ fn,P.funcs[g]? =some fn/\fn.name≠ "runtime.NumGoroutine" /\fn.body.isNone=false)/\
 ∀ rt,(rts g).bind (dI { ti:=ti,n:=0,call:=λ_ _=>none,fresh:=fresh,owns:=λ_=>false,h:=⟨false,[],[],false,false,[],[],[],[]⟩ })=some rt->
 ∀ vs bs rbs w,y8 w as vs bs rbs->(∀ b∈bs,b<w.heap.size/\b∉rbs)->(∀ b∈rbs,b<w.heap.size)->rbs.Nodup->
  Calls P g vs.toArray w λe w'=>∃ v,e= .returned v/\Left (fresh g) rt out bs rbs w v w'/\(fresh (g+1000000)=false->VS rt out bs w v w')
/-- A row told cell by cell, with the blocks behind each cell. -/
def RC(w:World):(ks:List Kd)->Row ks->List Value->List (List Nat)->Prop
 | [],_,us,bs=>us=[]/\bs=[]
 | k::ks,r,us,bs=>∃ u us' b b',us=u::us'/\bs=b::b'/\TR w k r.1 u b/\RC w ks r.2 us' b'
/-- The same row after a call: the slices lie where they lay. -/
def SE(w w':World):(ks:List Kd)->Row ks->List Value->List (List Nat)->Prop
 | [],_,us,bs=>us=[]/\bs=[]
 | k::ks,r,us,bs=>∃ u us' b b',us=u::us'/\bs=b::b'/\TR w' k r.1 u b/\
   (∀ ks' A n c,k= .sl ks'->u= .slice A n c->∀ hd,D5 w ks' n u hd->D5 w' ks' n u hd)/\SE w w' ks r.2 us' b'
/-- The arguments that come for writing: their cells, and the blocks behind them. -/
def D6(w:World):List Arg->List Value->List (List Value×List (List Nat))->Prop
 | [],vs,ds=>vs=[]/\ds=[]
 | .val agg c::as,vs,ds=>∃ v vs' us,vs=v::vs'/\CI agg us v/\RR w c.ks c.row us []/\D6 w as vs' ds
 | .own agg c::as,vs,ds=>∃ v vs' us r ds',vs=v::vs'/\ds=(us,r)::ds'/\CI agg us v/\RC w c.ks c.row us r/\D6 w as vs' ds'
 | .ref _::_,_,_=>False
def H9(w w':World):List Arg->List (List Value×List (List Nat))->List CRow->Prop
 | [],_,cs=>cs=[]
 | .val _ _::as,ds,cs=>H9 w w' as ds cs
 | .own _ c::as,(us,r)::ds,cs=>∃ x cs',cs=⟨c.ks,x⟩::cs'/\SE w w' c.ks x us r/\H9 w w' as ds cs'
 | _,_,_=>False
def uR(ds:List (List Value×List (List Nat))):List Nat:=ds.flatMap λd=>List.flatten d.2
structure LeftP (rt:List (Bool×List Kd)) (as:List Arg) (out:Out) (ds:List (List Value×List (List Nat))) (w:World) (v:Value) (w':World):Prop where
 keep:Keep (·∈uR ds) w w'
 sz:∀ b,b<w.heap.size->SizeLe w w' b
 free:∀ b,w.heap.size<=b->b<w'.heap.size->cO w' b
 wr:∀ b∈uR ds,cO w' b
 res:∃ us,v=rS us/\tA false w' rt out.res us [] []
 own:H9 w w' as ds out.refs
def UL(P:Program)(ti:Ti)(rts:Nat->Option (List Nat))(g:Nat)(as:List Arg)(out:Out):Prop:=
 (∃ fn,P.funcs[g]? =some fn/\fn.name≠ "runtime.NumGoroutine" /\fn.body.isNone=false)/\
 ∀ rt,(rts g).bind (dI { ti:=ti,n:=0,call:=λ_ _=>none,fresh:=λ_=>false,owns:=λ_=>false,h:=⟨false,[],[],false,false,[],[],[],[]⟩ })=some rt->
 ∀ vs ds w,D6 w as vs ds->(∀ b∈uR ds,b<w.heap.size/\cO w b)->(uR ds).Nodup->
  Calls P g vs.toArray w λe w'=>∃ v,e= .returned v/\LeftP rt as out ds w v w'
/-- What is told of a call, however its arguments come. -/
def lZ(P:Program)(ti:Ti)(rts:Nat->Option (List Nat))(fresh:Nat->Bool)(g:Nat)(as:List Arg)(out:Out):Prop:=
 if noOwn as=true then VU P ti rts fresh g as out else UL P ti rts g as out
section args
variable {P:Program} {E:Env} (hT:TOk P E.ti)
variable {n0:Nat} {ab rb:Nat->Prop} {w0:World} {N:Fix} {t:Nat->AVal} {m:Mem} {a:Act} {w:World} {loc:Nat->Loc} {ow:Nat->Option Nat}
def RefL(m:Mem)(loc:Nat->Loc):List (Nat×List Kd)->List Nat->Prop
 | [],rbs=>rbs=[]
 | (id,_)::ps,rbs=>∃ b r,rbs=b::r/\(∃ ls,m id= .var ls)/\loc id= .at_ b 0 0/\RefL m loc ps r
theorem nV:∀ (ts:List Nat) (xs:List AVal) (as:List Arg) (wr:List (Nat×Ent)) (ps:List (Nat×List Kd)) (tr:List Nat),Does m (y6 E ts xs) (as,wr,ps) tr->noOwn as=true
 | [],[],as,wr,ps,tr,h=>by obtain⟨e,_⟩:=h;cases e;rfl
 | t ::ts,x::xs,as,wr,ps,tr,h=>by
  unfold y6 ty at h
  split at h
  case h_2=>exact h.elim
  rename_i i hi
  dsimp only at h
  split at h
  ·split at h
   case h_2=>exact h.elim
   rename_i id
   obtain⟨tr',_,h'⟩:=h;replace h:=h';clear h'
   cases hm:m id with
   | var ls=>
    rw[hm] at h
    dsimp only at h
    split at h
    case h_2=>exact h.elim
    obtain⟨⟨r,w1,p1⟩,t1,t2,_,h1,h2⟩:=Does.bind _ _ h
    obtain⟨⟨as',w2,ps'⟩,t3,t4,_,h3,h4⟩:=Does.bind _ _ h2
    dsimp only at h4
    split at h4
    ·exact h4.elim
    obtain⟨e,_⟩:=h4
    cases e
    exact nV ts xs as' w2 ps' t3 h3
   | _=>
    rw[hm] at h
    dsimp only at h
    first
     | exact h.elim
     | (split at h<;>exact h.elim)
  ·unfold eY at h
   split at h
   case h_2=>exact h.elim
   obtain⟨⟨r,w1,p1⟩,t1,t2,_,h1,h2⟩:=Does.bind _ _ h
   obtain⟨⟨as',w2,ps'⟩,t3,t4,_,h3,h4⟩:=Does.bind _ _ h2
   obtain⟨e,_⟩:=h4
   cases e
   exact nV ts xs as' w2 _ t3 h3
 | [],_::_,_,_,_,_,h=>h.elim
 | _::_,[],_,_,_,_,h=>h.elim
theorem RefL.mem:∀ (ps:List (Nat×List Kd)) (rbs:List Nat),RefL m loc ps rbs->∀ b∈rbs,∃ p∈ps,(∃ ls,m p.1= .var ls)/\loc p.1= .at_ b 0 0
 | [],_,h,b,hb=>by rw[h] at hb;grind
 | (id,_)::ps,_,⟨b',r,e,h1,h2,h3⟩,b,hb=>by
  rw[e] at hb
  rcases List.mem_cons.1 hb with rfl | hb
  ·simp_all
  ·obtain⟨p,hp,h⟩:=RefL.mem ps r h3 b hb
   grind
theorem RefL.nodup(R:Rel n0 ab rb w0 N t m a w loc ow):∀ (ps:List (Nat×List Kd)) (rbs:List Nat),RefL m loc ps rbs->(ps.map (·.1)).Nodup->rbs.Nodup
 | [],_,h,_=>by rw[h];simp
 | (id,_)::ps,_,⟨b',r,e,⟨ls,h1⟩,h2,h3⟩,hn=>by
  rw[List.map_cons,List.nodup_cons] at hn
  rw[e,List.nodup_cons]
  refine⟨λhb=>?_,RefL.nodup R ps r h3 hn.2⟩
  obtain⟨p,hp,⟨ls',h4⟩,h5⟩:=RefL.mem ps r h3 b' hb
  have o1:=(R.owner (id:=id) (b:=b') (by rw[h1];rfl) (by rw[h2];rfl)).1
  have o2:=(R.owner (id:=p.1) (b:=b') (by rw[h4];rfl) (by rw[h5];rfl)).1
  rw[o1] at o2
  simp_all
theorem rX{ok:Nat->Prop}{x:AVal}{ls:List Leaf}{u:Value}(h:VR m loc ok w x u)(e:x.leaves=some ls):∃ us,CI x.isAgg us u/\LRs m loc ok w ls us:=by
 obtain⟨us,_,h1,h2⟩:=h.leaves e
 refine⟨us,?_,h1⟩
 rcases h2 with ⟨h2,l,rfl,_⟩ | ⟨h2,rfl⟩
 ·exact .inr ⟨rfl,h2⟩
 ·exact .inl ⟨rfl,h2⟩
include hT
theorem xU(R:Rel n0 ab rb w0 N t m a w loc ow):∀ (ts:List Nat) (xs:List AVal) (as:List Arg) (wr:List (Nat×Ent)) (ps:List (Nat×List Kd)) (tr:List Nat),Does m (y6 E ts xs) (as,wr,ps) tr->
  ∀ vs:List Value,vs.length=xs.length->(∀ (i:Nat) (x:AVal) (v:Value),xs[i]? =some x->vs[i]? =some v->VR m loc (Ok n0 ab m loc w) w x v)->
  ∃ bs rbs,y8 w as vs bs rbs/\Made n0 (Ok n0 ab m loc w) m loc ow wr false bs/\RefL m loc ps rbs/\(ps.map (·.1)).Nodup
 | [],[],as,wr,ps,tr,h,vs,hl,_=>by
  obtain⟨e,_⟩:=h
  cases e
  exact⟨[],[],⟨List.eq_nil_of_length_eq_zero hl,rfl,rfl⟩,Made.nil,rfl,List.nodup_nil⟩
 | ty::ts,x::xs,as,wr,ps,tr,h,v::vs,hl,hv=>by
  unfold y6 at h
  obtain⟨i,T,_,h'⟩:=cB hT h;replace h:=h';clear h'
  have hx:=hv 0 x v rfl rfl
  have ih:=λas wr ps tr h=>xU R ts xs as wr ps tr h vs (by simp_all) (λi x v h1 h2=>hv (i+1) x v (by simp_all) (by simp_all))
  split at h
  ·split at h
   case h_2=>exact h.elim
   rename_i id
   obtain⟨tr',_,h'⟩:=h;replace h:=h';clear h'
   have hE:=R.ents id
   simp only[VR,VR1,LR] at hx
   unfold EntR at hE
   cases hm:m id with
   | var ls=>
    rw[hm] at hE h hx
    dsimp only at hx h
    obtain⟨j,T',_,h'⟩:=cB hT h;replace h:=h';clear h'
    obtain⟨⟨r,w1,p1⟩,t1,t2,_,h1,h2⟩:=Does.bind _ _ h
    obtain⟨⟨as',w2,ps'⟩,t3,t4,_,h3,h4⟩:=Does.bind _ _ h2
    dsimp only at h4
    split at h4
    ·exact h4.elim
    rename_i hany
    obtain⟨e,_⟩:=h4
    cases e
    obtain⟨b,cs,T2,fz,hloc,hh,hf,hls,hw⟩:=hE
    obtain⟨b',hl',rfl⟩:=hx
    rw[hloc] at hl';cases hl'
    obtain⟨b1,q1,m1⟩:=R.rowAt j.kinds ls r w1 p1 t1 h1 cs.toList hls
    obtain⟨bs,rbs,k1,k2,k3,k4⟩:=ih as' w2 ps' t3 h3
    refine⟨b1++bs,b::rbs,⟨_,vs,b1,bs,[b],rbs,rfl,rfl,rfl,⟨b,cs.toList,rfl,rfl,⟨cs,T2,fz,hh,hf,rfl⟩,q1⟩,k1⟩,?_,⟨b,rbs,rfl,⟨ls,hm⟩,hloc,k3⟩,?_⟩
    ·have:=Made.append R m1 k2
     simp_all
    simp_all
   | _=>rw[hm] at h;simp_all
  ·unfold eY at h
   split at h
   case h_2=>exact h.elim
   rename_i ls hls
   obtain⟨⟨r,w1,p1⟩,t1,t2,_,h1,h2⟩:=Does.bind _ _ h
   obtain⟨⟨as',w2,ps'⟩,t3,t4,_,h3,h4⟩:=Does.bind _ _ h2
   obtain⟨e,_⟩:=h4
   cases e
   obtain⟨us,hs,hL⟩:=rX hx hls
   obtain⟨b1,q1,m1⟩:=R.rowAt i.kinds ls r w1 p1 t1 h1 us hL
   obtain⟨bs,rbs,k1,k2,k3,k4⟩:=ih as' w2 _ t3 h3
   refine⟨b1++bs,rbs,⟨v,vs,b1,bs,[],rbs,rfl,rfl,rfl,⟨rfl,us,hs,q1⟩,k1⟩,?_,k3,k4⟩
   have:=Made.append R m1 k2
   simp_all
 | ty::ts,x::xs,as,wr,ps,tr,h,[],hl,hv=>by grind
 | [],_::_,_,_,_,_,h,_,_,_=>h.elim
 | _::_,[],_,_,_,_,h,_,_,_=>h.elim
omit hT in
theorem Made.lt(R:Rel n0 ab rb w0 N t m a w loc ow){wr:List (Nat×Ent)}{p:Bool}{bs:List Nat}(h:Made n0 (Ok n0 ab m loc w) m loc ow wr p bs):∀ b∈bs,b<w.heap.size:=by
 intro b hb
 exact(h.close R b hb).1
omit hT in
theorem Made.not_ref(R:Rel n0 ab rb w0 N t m a w loc ow){wr:List (Nat×Ent)}{p:Bool}{bs:List Nat}(h:Made n0 (Ok n0 ab m loc w) m loc ow wr p bs){ps:List (Nat×List Kd)}{rbs:List Nat}(hr:RefL m loc ps rbs):∀ b∈bs,b∉rbs:=by
 intro b hb hx
 obtain⟨q,_,⟨ls,h1⟩,h2⟩:=hr.mem _ _ b hx
 have hok:=(h.close R b hb).2.1
 refine hok ⟨q.1,?_,by rw[h2];rfl⟩
 rw[cE]
 ·rw[h1];rfl
 ·intro q' hq' e
  obtain⟨ks,xs,d,o,h3,_⟩:=h.took q' hq'
  rw[e,h1] at h3;grind
end args
end Go.Abs
/- A state after a call. -/
namespace Go.Abs
open Go
structure Ad where
 id:Nat
 ks:List Kd
 xs:List (Row ks)
 l:Loc
 bss:List (List Nat)
structure Rf where
 id:Nat
 b:Nat
 ls:List Leaf
def Ad.ent(d:Ad):Nat×Ent:=(d.id,.arr d.ks d.xs true true)
def Rf.ent(f:Rf):Nat×Ent:=(f.id,.var f.ls)
section rel
variable {n0:Nat} {ab rb:Nat->Prop} {w0:World} {N:Fix} {t:Nat->AVal} {m:Mem} {a:Act} {w:World} {loc:Nat->Loc} {ow:Nat->Option Nat}
theorem mE:∀ (l:List (Nat×Ent)) (m:Mem),(∀ p∈l,∀ q∈l,p.1=q.1->p=q)->∀ p∈l,bQ m l p.1=p.2
 | [],_,_,p,hp=>by cases hp
 | (i,e)::r,m,hu,p,hp=>by
  rw[fW]
  by_cases hx:∃ q∈r,q.1=p.1
  ·obtain⟨q,hq,e1⟩:=hx
   have:q=p:=hu q (List.mem_cons_of_mem _ hq) p hp e1
   subst this
   exact mE r _ (λp hp q hq=>hu p (List.mem_cons_of_mem _ hp) q (List.mem_cons_of_mem _ hq)) q hq
  ·have hne:∀ q∈r,q.1≠p.1:=λq hq e=>hx ⟨q,hq,e⟩
   rw[cE _ _ _ hne]
   rcases List.mem_cons.1 hp with rfl | hp
   ·exact aX _ _ _
   ·exact absurd rfl (hne p hp)
theorem Rel.called_mem (AD:List Ad) (RF:List Rf)
  (hids:∀ d∈AD,∀ d'∈AD,d.id=d'.id->d=d') (hnone:∀ d∈AD,m d.id= .none) (hrids:∀ f∈RF,∀ f'∈RF,f.id=f'.id->f=f')
  (hrf:∀ f∈RF,∃ ls,m f.id= .var ls):∀ d∈AD,bQ m (RF.map Rf.ent++AD.map Ad.ent) d.id=(Ad.ent d).2:=by
 have hu:∀ p∈RF.map Rf.ent++AD.map Ad.ent,∀ q∈RF.map Rf.ent++AD.map Ad.ent,p.1=q.1->p=q:=by
  intro p hp q hq e
  rcases List.mem_append.1 hp with hp | hp<;>rcases List.mem_append.1 hq with hq | hq<;>obtain⟨x,hx,rfl⟩:=List.mem_map.1 hp<;>obtain⟨y,hy,rfl⟩:=List.mem_map.1 hq
  ·rw[hrids x hx y hy e]
  ·obtain⟨ls,h1⟩:=hrf x hx
   have h2:=hnone y hy
   have e':x.id=y.id:=e
   rw[e',h2] at h1;cases h1
  ·obtain⟨ls,h1⟩:=hrf y hy
   have h2:=hnone x hx
   have e':x.id=y.id:=e
   rw[<- e',h2] at h1;cases h1
  ·rw[hids x hx y hy e]
 exact λd hd=>mE _ _ hu d.ent (List.mem_append_right _ (List.mem_map.2 ⟨d,hd,rfl⟩))
open Classical in
theorem Rel.called (R:Rel n0 ab rb w0 N t m a w loc ow) {w':World} {rbs:List Nat} (hk:Keep (·∈rbs) w w') (hsz:∀ b,b<w.heap.size->SizeLe w w' b) (AD:List Ad) (RF:List Rf)
  (hids:∀ d∈AD,∀ d'∈AD,d.id=d'.id->d=d') (hnone:∀ d∈AD,m d.id= .none) (hrids:∀ f∈RF,∀ f'∈RF,f.id=f'.id->f=f')
  (hrf:∀ f∈RF,(∃ ls,m f.id= .var ls)/\loc f.id= .at_ f.b 0 0) (hrbs:∀ b∈rbs,∃ f∈RF,f.b=b)
  (hown:∀ d∈AD,OwnAt w' d.ks d.xs d.l d.bss) (hts:∀ d∈AD,∀ b,d.l.blk=some b->w.heap.size<=b/\b<w'.heap.size)
  (hfree:∀ b,w.heap.size<=b->b<w'.heap.size->cO w' b) (hins:∀ d∈AD,∀ b∈List.flatten d.bss,w.heap.size<=b/\b<w'.heap.size/\∀ d'∈AD,d'.l.blk≠some b)
  (hdt:∀ d∈AD,∀ d'∈AD,∀ b,d.l.blk=some b->d'.l.blk=some b->d.id=d'.id)
  (hdi:∀ d∈AD,∀ d'∈AD,∀ b,b∈List.flatten d.bss->b∈List.flatten d'.bss->d.id=d'.id) (hnd:∀ d∈AD,(List.flatten d.bss).Nodup)
  (hcell:∀ f∈RF,∃ (us:List Value) (x:List Nat),Whole w' f.b us/\(∀ (m:Mem) (loc:Nat->Loc) (ok:Nat->Prop),(∀ b∈x,ok b)->LRs m loc ok w' f.ls us)/\
   ∀ b∈x,b<w'.heap.size/\(w.heap.size<=b\/Ok n0 ab m loc w b)/\∀ d∈AD,d.l.blk≠some b):
  ∃ loc' ow',Rel n0 ab rb w0 N t (bQ m (RF.map Rf.ent++AD.map Ad.ent)) a w' loc' ow'/\(∀ d∈AD,loc' d.id=d.l)/\
   (∀ b,b<w'.heap.size->(w.heap.size<=b\/Ok n0 ab m loc w b)->(∀ d∈AD,d.l.blk≠some b)->Ok n0 ab (bQ m (RF.map Rf.ent++AD.map Ad.ent)) loc' w' b):=by
 generalize hM:bQ m (RF.map Rf.ent++AD.map Ad.ent)=M
 have hu:∀ p∈RF.map Rf.ent++AD.map Ad.ent,∀ q∈RF.map Rf.ent++AD.map Ad.ent,p.1=q.1->p=q:=by
  intro p hp q hq e
  rcases List.mem_append.1 hp with hp | hp<;>rcases List.mem_append.1 hq with hq | hq<;>obtain⟨x,hx,rfl⟩:=List.mem_map.1 hp<;>obtain⟨y,hy,rfl⟩:=List.mem_map.1 hq
  ·rw[hrids x hx y hy e]
  ·obtain⟨⟨ls,h1⟩,_⟩:=hrf x hx
   have h2:=hnone y hy
   have e':x.id=y.id:=e
   rw[e',h2] at h1;cases h1
  ·obtain⟨⟨ls,h1⟩,_⟩:=hrf y hy
   have h2:=hnone x hx
   have e':x.id=y.id:=e
   rw[<- e',h2] at h1;cases h1
  ·rw[hids x hx y hy e]
 have hMa:∀ d∈AD,M d.id= .arr d.ks d.xs true true:=λd hd=>by
  rw[<- hM];exact mE _ _ hu d.ent (List.mem_append_right _ (List.mem_map.2 ⟨d,hd,rfl⟩))
 have hMr:∀ f∈RF,M f.id= .var f.ls:=λd hd=>by
  rw[<- hM];exact mE _ _ hu d.ent (List.mem_append_left _ (List.mem_map.2 ⟨d,hd,rfl⟩))
 have hMo:∀ j,(∀ d∈AD,d.id≠j)->(∀ f∈RF,f.id≠j)->M j=m j:=λj h1 h2=>by
  rw[<- hM];refine cE _ _ _ λq hq=>?_
  rcases List.mem_append.1 hq with hq | hq<;>obtain⟨x,hx,rfl⟩:=List.mem_map.1 hq
  ·exact h2 x hx
  ·exact h1 x hx
 let loc':Nat->Loc:=λj=>if h:∃ d∈AD,d.id=j then h.choose.l else loc j
 have hla:∀ d∈AD,loc' d.id=d.l:=by
  intro d hd
  have h:∃ d'∈AD,d'.id=d.id:=⟨d,hd,rfl⟩
  show(if h:∃ d'∈AD,d'.id=d.id then h.choose.l else loc d.id)=d.l
  rw[dif_pos h,hids _ h.choose_spec.1 d hd h.choose_spec.2]
 have hlo:∀ j,(∀ d∈AD,d.id≠j)->loc' j=loc j:=λj h=>dif_neg fun⟨d,hd,e⟩=>h d hd e
 let ow':Nat->Option Nat:=λb=>if h:∃ d∈AD,d.l.blk=some b\/b∈List.flatten d.bss then some h.choose.id else ow b
 have howa:∀ d∈AD,∀ b,(d.l.blk=some b\/b∈List.flatten d.bss)->ow' b=some d.id:=by
  intro d hd b hb
  have h:∃ d∈AD,d.l.blk=some b\/b∈List.flatten d.bss:=⟨d,hd,hb⟩
  show(if h:∃ d∈AD,d.l.blk=some b\/b∈List.flatten d.bss then some h.choose.id else ow b)=some d.id
  rw[dif_pos h]
  obtain⟨h1,h2⟩:=h.choose_spec
  generalize h.choose=d' at h1 h2
  congr 1
  rcases h2 with h2 | h2<;>rcases hb with hb | hb
  ·exact hdt d' h1 d hd b h2 hb
  ·exact absurd h2 ((hins d hd b hb).2.2 d' h1)
  ·exact absurd hb ((hins d' h1 b h2).2.2 d hd)
  ·exact hdi d' h1 d hd b h2 hb
 have howo:∀ b,b<w.heap.size->ow' b=ow b:=by
  intro b hb
  refine dif_neg ?_
  rintro ⟨d,hd,h | h⟩
  ·have:=(hts d hd b h).1;omega
  ·have:=(hins d hd b h).1;omega
 have hmut:∀ j b,dU (M j)=true->(loc' j).has b->(∃ d∈AD,d.id=j/\d.l.blk=some b)\/(dU (m j)=true/\(loc j).has b/\∀ d∈AD,d.id≠j):=by
  intro j b h1 h2
  by_cases hj:∃ d∈AD,d.id=j
  ·obtain⟨d,hd,rfl⟩:=hj
   rw[hla d hd] at h2
   exact .inl ⟨d,hd,rfl,((hown d hd).blk b).1 h2⟩
  ·have hj':∀ d∈AD,d.id≠j:=λd hd e=>hj ⟨d,hd,e⟩
   rw[hlo j hj'] at h2
   refine .inr ⟨?_,h2,hj'⟩
   by_cases hf:∃ f∈RF,f.id=j
   ·obtain⟨f,hf,rfl⟩:=hf
    obtain⟨⟨ls,h3⟩,_⟩:=hrf f hf
    rw[h3];rfl
   ·rw[hMo j hj' λf h e=>hf ⟨f,h,e⟩] at h1;exact h1
 have hnew:∀ b,b<w'.heap.size->(w.heap.size<=b\/Ok n0 ab m loc w b)->(∀ d∈AD,d.l.blk≠some b)->Ok n0 ab M loc' w' b:=by
  intro b h1 h2 h3
  have hle:=R.le
  refine⟨h1,?_,?_⟩
  ·rintro ⟨j,hj,hb⟩
   rcases hmut j b hj hb with ⟨d,hd,_,h4⟩ | ⟨h4,h5,_⟩
   ·exact h3 d hd h4
   ·rcases h2 with h2 | h2
    ·have:=(R.owner h4 h5).2;omega
    ·exact h2.2.1 ⟨j,h4,h5⟩
  ·rcases h2 with h2 | h2
   ·exact .inl (by omega)
   ·exact h2.2.2
 have hheap:∀ b,b<w.heap.size->(∀ f∈RF,f.b≠b)->w'.heap[b]? =w.heap[b]? :=λb h1 h2=>hk.block b h1 λh=>by
  obtain⟨f,hf,e⟩:=hrbs b h
  exact h2 f hf e
 have h1:∀ b,Ok n0 ab m loc w b->Ok n0 ab M loc' w' b/\w'.heap[b]? =w.heap[b]? :=by
  intro b hb
  refine⟨hnew b (Nat.lt_of_lt_of_le hb.1 hk.size) (.inr hb) λd hd e=>?_,hheap b hb.1 λf hf e=>?_⟩
  ·have:=(hts d hd b e).1;have:=hb.1;omega
  ·obtain⟨⟨ls,h3⟩,h4⟩:=hrf f hf
   subst e
   exact hb.2.1 ⟨f.id,by rw[h3];rfl,by rw[h4];rfl⟩
 have h2:∀ j,Goes (m j) (M j) (loc j) (loc' j):=by
  intro j
  by_cases hj:∃ d∈AD,d.id=j
  ·obtain⟨d,hd,rfl⟩:=hj
   rw[hnone d hd];trivial
  ·have hj':∀ d∈AD,d.id≠j:=λd hd e=>hj ⟨d,hd,e⟩
   rw[hlo j hj']
   by_cases hf:∃ f∈RF,f.id=j
   ·obtain⟨f,hf,rfl⟩:=hf
    obtain⟨⟨ls,h3⟩,_⟩:=hrf f hf
    rw[h3,hMr f hf]
    exact⟨⟨_,rfl⟩,rfl⟩
   ·rw[hMo j hj' λf h e=>hf ⟨f,h,e⟩];exact Goes.refl _ _
 have hpj:∀ j,fM (M j)=true->(fM (m j)=true/\loc' j=loc j)\/(∀ b,(loc' j).has b->n0<=b)/\OJ w' (M j) (loc' j):=by
  intro j hj
  have h3:∀ d∈AD,d.id≠j:=λd hd e=>by subst e;rw[hMa d hd] at hj;cases hj
  have h4:∀ f∈RF,f.id≠j:=λf hf e=>by subst e;rw[hMr f hf] at hj;cases hj
  rw[hMo j h3 h4] at hj
  exact .inl ⟨hj,hlo j h3⟩
 have hpk:∀ j,fM (m j)=true->fM (M j)=true:=by
  intro j hj
  have h3:∀ d∈AD,d.id≠j:=λd hd e=>by subst e;rw[hnone d hd] at hj;cases hj
  have h4:∀ f∈RF,f.id≠j:=λf hf e=>by
   subst e
   obtain⟨⟨ls,h3⟩,_⟩:=hrf f hf
   rw[h3] at hj;cases hj
  rw[hMo j h3 h4];exact hj
 refine⟨loc',ow',R.update ⟨hk.os.trans R.keep.os,hk.tape.trans R.keep.tape,hk.output.trans R.keep.output,Nat.le_trans R.keep.size hk.size,λb hb hn=>?_⟩ hk.size h1 h2 (λj=>?_) (λb j hj=>?_) (λj b hj hb=>?_) (λb _ hb=>?_) (λj _ hj=>hpj j hj) (λj h3 h4=>by rw[hpk j h3] at h4;cases h4) hsz,hla,hnew⟩
 ·have hlt:=Nat.lt_of_lt_of_le hb R.keep.size
  rw[hheap b hlt,R.keep.block b hb hn]
  intro f hf e
  obtain⟨⟨ls,h3⟩,h4⟩:=hrf f hf
  rcases R.mutrb f.id b (by rw[h3];rfl) (by rw[h4,<- e];rfl)with h | h
  ·rw[R.hn0] at h;omega
  ·exact hn h
 ·by_cases hj:∃ d∈AD,d.id=j
  ·obtain⟨d,hd,rfl⟩:=hj
   left
   unfold EntR
   rw[hMa d hd,hla d hd]
   have hle:=R.le
   refine⟨d.bss,hown d hd,λbb hbb b hb=>?_,λb hb=>?_,λ_ _=>⟨λbb hbb b hb=>?_,hnd d hd,λb hb hx=>?_⟩⟩
   ·obtain⟨k1,k2,k3⟩:=hins d hd b (List.mem_flatten.2 ⟨bb,hbb,hb⟩)
    exact hnew b k2 (.inl k1) k3
   ·replace hb:=((hown d hd).blk b).1 hb
    obtain⟨k1,k2⟩:=hts d hd b hb
    exact⟨by omega,k2,λ_=>howa d hd b (.inl hb),λh=>by cases h⟩
   ·have hx:=List.mem_flatten.2 ⟨bb,hbb,hb⟩
    have:=(hins d hd b hx).1
    exact⟨howa d hd b (.inr hx),by omega⟩
   ·exact(hins d hd b hx).2.2 d hd (((hown d hd).blk b).1 hb)
  ·have hj':∀ d∈AD,d.id≠j:=λd hd e=>hj ⟨d,hd,e⟩
   by_cases hf:∃ f∈RF,f.id=j
   ·obtain⟨f,hf,rfl⟩:=hf
    left
    unfold EntR
    rw[hMr f hf]
    obtain⟨⟨ls,h3⟩,h4⟩:=hrf f hf
    obtain⟨us,x,⟨cs,T,fz,k1,k2,k3⟩,k4,k5⟩:=hcell f hf
    have ho:=R.owner (id:=f.id) (b:=f.b) (by rw[h3];rfl) (by rw[h4];rfl)
    refine⟨f.b,cs,T,fz,by rw[hlo _ hj',h4],k1,k2,?_,by rw[howo _ ho.2];exact ho.1⟩
    rw[k3]
    exact k4 _ _ _ λb hb=>hnew b (k5 b hb).1 (k5 b hb).2.1 (k5 b hb).2.2
   ·right
    have hf':∀ f∈RF,f.id≠j:=λf h e=>hf ⟨f,h,e⟩
    refine⟨hMo j hj' hf',hlo j hj',λb hm hb=>?_,λhm b hb=>?_⟩
    ·obtain⟨o1,o2⟩:=R.owner hm hb
     refine hheap b o2 λf hff e=>?_
     obtain⟨⟨ls,h3⟩,h4⟩:=hrf f hff
     have o3:=(R.owner (id:=f.id) (b:=f.b) (by rw[h3];rfl) (by rw[h4];rfl)).1
     rw[e,o1] at o3
     exact hf' f hff (Option.some.inj o3).symm
    ·rw[howo b (R.owlt b j hb)];exact hb
 ·by_cases h:∃ d∈AD,d.l.blk=some b\/b∈List.flatten d.bss
  ·obtain⟨d,hd,h | h⟩:=h
   ·exact(hts d hd b h).2
   ·exact(hins d hd b h).2.1
  ·have e:ow' b=ow b:=dif_neg h
   rw[e] at hj
   exact Nat.lt_of_lt_of_le (R.owlt b j hj) hk.size
 ·rcases hmut j b hj hb with ⟨d,hd,_,h4⟩ | ⟨h4,h5,_⟩
  ·have:=(hts d hd b h4).1;have:=R.le;exact .inl (by omega)
  ·exact R.mutrb j b h4 h5
 ·rcases Nat.lt_or_ge b w.heap.size with h | h
  ·by_cases hr:∃ f∈RF,f.b=b
   ·obtain⟨f,hf,e⟩:=hr
    obtain⟨us,x,⟨cs,T,fz,k1,k2,_⟩,_⟩:=hcell f hf
    rw[e] at k1
    exact .inr ⟨cs,T,fz,k1,k2⟩
   ·exact .inl (hheap b h λf hf e=>hr ⟨f,hf,e⟩)
  ·exact .inr (hfree b h hb)
def Ad.sent(d:Ad):Nat×Ent:=(d.id,.arr d.ks d.xs false true)
open Classical in
theorem Rel.calledS (R:Rel n0 ab rb w0 N t m a w loc ow) {w':World} (hk:Keep (·∈([]:List Nat)) w w') (hsz:∀ b,b<w.heap.size->SizeLe w w' b) (AD:List Ad)
  (hids:∀ d∈AD,∀ d'∈AD,d.id=d'.id->d=d') (hnone:∀ d∈AD,m d.id= .none)
  (hown:∀ d∈AD,OwnAt w' d.ks d.xs d.l d.bss) (hts:∀ d∈AD,∀ b,d.l.blk=some b->w.heap.size<=b/\b<w'.heap.size)
  (hfree:∀ b,w.heap.size<=b->b<w'.heap.size->cO w' b)
  (hins:∀ d∈AD,∀ b∈List.flatten d.bss,b<w'.heap.size/\(w.heap.size<=b\/Ok n0 ab m loc w b)/\∀ d'∈AD,d'.l.blk≠some b)
  (hdt:∀ d∈AD,∀ d'∈AD,∀ b,d.l.blk=some b->d'.l.blk=some b->d.id=d'.id):
  ∃ loc' ow',Rel n0 ab rb w0 N t (bQ m (AD.map Ad.sent)) a w' loc' ow'/\∀ d∈AD,bQ m (AD.map Ad.sent) d.id= .arr d.ks d.xs false true/\loc' d.id=d.l:=by
 generalize hM:bQ m (AD.map Ad.sent)=M
 have hu:∀ p∈AD.map Ad.sent,∀ q∈AD.map Ad.sent,p.1=q.1->p=q:=by
  intro p hp q hq e
  obtain⟨x,hx,rfl⟩:=List.mem_map.1 hp
  obtain⟨y,hy,rfl⟩:=List.mem_map.1 hq
  rw[hids x hx y hy e]
 have hMa:∀ d∈AD,M d.id= .arr d.ks d.xs false true:=λd hd=>by
  rw[<- hM];exact mE _ _ hu d.sent (List.mem_map.2 ⟨d,hd,rfl⟩)
 have hMo:∀ j,(∀ d∈AD,d.id≠j)->M j=m j:=λj h1=>by
  rw[<- hM];refine cE _ _ _ λq hq=>?_
  obtain⟨x,hx,rfl⟩:=List.mem_map.1 hq
  exact h1 x hx
 let loc':Nat->Loc:=λj=>if h:∃ d∈AD,d.id=j then h.choose.l else loc j
 have hla:∀ d∈AD,loc' d.id=d.l:=by
  intro d hd
  have h:∃ d'∈AD,d'.id=d.id:=⟨d,hd,rfl⟩
  show(if h:∃ d'∈AD,d'.id=d.id then h.choose.l else loc d.id)=d.l
  rw[dif_pos h,hids _ h.choose_spec.1 d hd h.choose_spec.2]
 have hlo:∀ j,(∀ d∈AD,d.id≠j)->loc' j=loc j:=λj h=>dif_neg fun⟨d,hd,e⟩=>h d hd e
 let ow':Nat->Option Nat:=λb=>if h:∃ d∈AD,d.l.blk=some b then some h.choose.id else ow b
 have howa:∀ d∈AD,∀ b,d.l.blk=some b->ow' b=some d.id:=by
  intro d hd b hb
  have h:∃ d∈AD,d.l.blk=some b:=⟨d,hd,hb⟩
  show(if h:∃ d∈AD,d.l.blk=some b then some h.choose.id else ow b)=some d.id
  rw[dif_pos h]
  obtain⟨h1,h2⟩:=h.choose_spec
  generalize h.choose=d' at h1 h2
  congr 1
  exact hdt d' h1 d hd b h2 hb
 have howo:∀ b,b<w.heap.size->ow' b=ow b:=by
  intro b hb
  refine dif_neg ?_
  rintro ⟨d,hd,h⟩
  have:=(hts d hd b h).1;omega
 have hmut:∀ j b,dU (M j)=true->(loc' j).has b->(∃ d∈AD,d.id=j/\d.l.blk=some b)\/(dU (m j)=true/\(loc j).has b/\∀ d∈AD,d.id≠j):=by
  intro j b h1 h2
  by_cases hj:∃ d∈AD,d.id=j
  ·obtain⟨d,hd,rfl⟩:=hj
   rw[hla d hd] at h2
   exact .inl ⟨d,hd,rfl,((hown d hd).blk b).1 h2⟩
  ·have hj':∀ d∈AD,d.id≠j:=λd hd e=>hj ⟨d,hd,e⟩
   rw[hlo j hj'] at h2
   rw[hMo j hj'] at h1
   exact .inr ⟨h1,h2,hj'⟩
 have hnew:∀ b,b<w'.heap.size->(w.heap.size<=b\/Ok n0 ab m loc w b)->(∀ d∈AD,d.l.blk≠some b)->Ok n0 ab M loc' w' b:=by
  intro b h1 h2 h3
  have hle:=R.le
  refine⟨h1,?_,?_⟩
  ·rintro ⟨j,hj,hb⟩
   rcases hmut j b hj hb with ⟨d,hd,_,h4⟩ | ⟨h4,h5,_⟩
   ·exact h3 d hd h4
   ·rcases h2 with h2 | h2
    ·have:=(R.owner h4 h5).2;omega
    ·exact h2.2.1 ⟨j,h4,h5⟩
  ·rcases h2 with h2 | h2
   ·exact .inl (by omega)
   ·exact h2.2.2
 have hheap:∀ b,b<w.heap.size->w'.heap[b]? =w.heap[b]? :=λb h1=>hk.block b h1 λh=>by cases h
 have h1:∀ b,Ok n0 ab m loc w b->Ok n0 ab M loc' w' b/\w'.heap[b]? =w.heap[b]? :=by
  intro b hb
  refine⟨hnew b (Nat.lt_of_lt_of_le hb.1 hk.size) (.inr hb) λd hd e=>?_,hheap b hb.1⟩
  have:=(hts d hd b e).1;have:=hb.1;omega
 have h2:∀ j,Goes (m j) (M j) (loc j) (loc' j):=by
  intro j
  by_cases hj:∃ d∈AD,d.id=j
  ·obtain⟨d,hd,rfl⟩:=hj
   rw[hnone d hd];trivial
  ·have hj':∀ d∈AD,d.id≠j:=λd hd e=>hj ⟨d,hd,e⟩
   rw[hlo j hj',hMo j hj'];exact Goes.refl _ _
 have hpj:∀ j,fM (M j)=true->(fM (m j)=true/\loc' j=loc j)\/(∀ b,(loc' j).has b->n0<=b)/\OJ w' (M j) (loc' j):=by
  intro j hj
  have h3:∀ d∈AD,d.id≠j:=λd hd e=>by subst e;rw[hMa d hd] at hj;cases hj
  rw[hMo j h3] at hj
  exact .inl ⟨hj,hlo j h3⟩
 have hpk:∀ j,fM (m j)=true->fM (M j)=true:=by
  intro j hj
  have h3:∀ d∈AD,d.id≠j:=λd hd e=>by subst e;rw[hnone d hd] at hj;cases hj
  rw[hMo j h3];exact hj
 refine⟨loc',ow',R.update ⟨hk.os.trans R.keep.os,hk.tape.trans R.keep.tape,hk.output.trans R.keep.output,Nat.le_trans R.keep.size hk.size,λb hb hn=>?_⟩ hk.size h1 h2 (λj=>?_) (λb j hj=>?_) (λj b hj hb=>?_) (λb _ hb=>?_) (λj _ hj=>hpj j hj) (λj h3 h4=>by rw[hpk j h3] at h4;cases h4) hsz,λd hd=>⟨hMa d hd,hla d hd⟩⟩
 ·have hlt:=Nat.lt_of_lt_of_le hb R.keep.size
  rw[hheap b hlt,R.keep.block b hb hn]
 ·by_cases hj:∃ d∈AD,d.id=j
  ·obtain⟨d,hd,rfl⟩:=hj
   left
   unfold EntR
   rw[hMa d hd,hla d hd]
   have hle:=R.le
   refine⟨d.bss,hown d hd,λbb hbb b hb=>?_,λb hb=>?_,λh=>by cases h⟩
   ·obtain⟨k1,k2,k3⟩:=hins d hd b (List.mem_flatten.2 ⟨bb,hbb,hb⟩)
    exact hnew b k1 k2 k3
   ·replace hb:=((hown d hd).blk b).1 hb
    obtain⟨k1,k2⟩:=hts d hd b hb
    exact⟨by omega,k2,λ_=>howa d hd b hb,λh=>by cases h⟩
  ·have hj':∀ d∈AD,d.id≠j:=λd hd e=>hj ⟨d,hd,e⟩
   right
   refine⟨hMo j hj',hlo j hj',λb hm hb=>hheap b (R.owner hm hb).2,λhm b hb=>?_⟩
   rw[howo b (R.owlt b j hb)];exact hb
 ·by_cases h:∃ d∈AD,d.l.blk=some b
  ·obtain⟨d,hd,h⟩:=h
   exact(hts d hd b h).2
  ·have e:ow' b=ow b:=dif_neg h
   rw[e] at hj
   exact Nat.lt_of_lt_of_le (R.owlt b j hj) hk.size
 ·rcases hmut j b hj hb with ⟨d,hd,_,h4⟩ | ⟨h4,h5,_⟩
  ·have:=(hts d hd b h4).1;have:=R.le;exact .inl (by omega)
  ·exact R.mutrb j b h4 h5
 ·rcases Nat.lt_or_ge b w.heap.size with h | h
  ·exact .inl (hheap b h)
  ·exact .inr (hfree b h hb)
end rel
end Go.Abs
/- What a call brings back. -/
namespace Go.Abs
open Go
def IC(AD:List Ad):List Nat:=AD.flatMap λd=>d.l.blk.toList
def JR(AD:List Ad):List Nat:=AD.flatMap λd=>List.flatten d.bss
def Sorted(AD:List Ad):Prop:=AD.Pairwise λd d'=>d.id<d'.id
theorem gE{α:Type}(f:α->List Nat):∀ (l:List α),(l.flatMap f).Nodup->∀ x∈l,∀ y∈l,∀ b,b∈f x->b∈f y->x=y
 | [],_,x,hx,_,_,_,_,_=>by grind
 | z::l,h,x,hx,y,hy,b,hbx,hby=>by
  rw[List.flatMap_cons,List.nodup_append] at h
  obtain⟨h1,h2,h3⟩:=h
  rcases List.mem_cons.1 hx with hx' | hx'<;>rcases List.mem_cons.1 hy with hy' | hy'
  ·rw[hx',hy']
  ·grind
  ·grind
  ·exact gE f l h2 x hx' y hy' b hbx hby
theorem qU{α:Type}(f:α->List Nat):∀ (l:List α),(l.flatMap f).Nodup->∀ x∈l,(f x).Nodup
 | [],_,x,hx=>by grind
 | z::l,h,x,hx=>by
  rw[List.flatMap_cons,List.nodup_append] at h
  grind
theorem Sorted.one{AD:List Ad}(h:Sorted AD):∀ d∈AD,∀ d'∈AD,d.id=d'.id->d=d':=by
 induction AD with
 | nil=>simp
 | cons x r ih=>
  have h':=List.pairwise_cons.1 h
  intro d hd d' hd' e
  rcases List.mem_cons.1 hd with h1 | h1<;>rcases List.mem_cons.1 hd' with h2 | h2
  ·rw[h1,h2]
  ·grind
  ·grind
  ·exact ih h'.2 d h1 d' h2 e
section
variable {w:World}
theorem kC:∀ (ks:List Kd) (id:Nat) (x:Row ks) (us:List Value) (bs:List Nat),RR w ks x us bs->(gX false id ks x).2=[]/\
  ∀ (m:Mem) (loc:Nat->Loc) (ok:Nat->Prop),(∀ b∈bs,ok b)->LRs m loc ok w (gX false id ks x).1 us
 | [],id,x,us,bs,h=>⟨rfl,λm loc ok _=>h.1⟩
 | k::ks,id,x,us,bs,⟨u,us',b,b',e1,e2,h1,h2⟩=>by
  obtain⟨i1,i2⟩:=kC ks (id+1) x.2 us' b' h2
  have e:gX false id (k::ks) x=(.v k x.1::(gX false (id+1) ks x.2).1,(gX false (id+1) ks x.2).2):=by
   cases k<;>rfl
  rw[e]
  refine⟨i1,λm loc ok hb=>⟨u,us',e1,⟨b,h1,λy hy=>hb y (by rw[e2];simp_all)⟩,i2 m loc ok λy hy=>hb y (by rw[e2];simp_all)⟩⟩
theorem kD:∀ (ks:List Kd) (id:Nat) (x:Row ks) (us:List Value) (ts ins:List Nat),FR w ks x us ts ins->∃ AD:List Ad,(gX true id ks x).2=AD.map Ad.ent/\ts=IC AD/\ins=JR AD/\Sorted AD/\
  (∀ d∈AD,id<=d.id/\d.id<id+ks.length/\OwnAt w d.ks d.xs d.l d.bss)/\
  ∀ (m:Mem) (loc:Nat->Loc) (ok:Nat->Prop),(∀ d∈AD,(∃ dp,m d.id= .arr d.ks d.xs dp true)/\loc d.id=d.l)->LRs m loc ok w (gX true id ks x).1 us
 | [],id,x,us,ts,ins,⟨h1,h2,h3⟩=>⟨[],rfl,h2,h3,List.Pairwise.nil,(λd hd=>by grind),λm loc ok _=>h1⟩
 | .sl ks'::ks,id,x,us,ts,ins,⟨l,bss,us',ts',ins',e1,e2,e3,e4,h⟩=>by
  obtain⟨AD,i1,i2,i3,i4,i5,i6⟩:=kD ks (id+1) x.2 us' ts' ins' h
  refine⟨⟨id,ks',x.1,l,bss⟩::AD,?_,?_,?_,?_,?_,?_⟩
  ·show(id,Ent.arr ks' x.1 true true)::(gX true (id+1) ks x.2).2=_
   rw[i1];rfl
  ·rw[e3,i2];rfl
  ·rw[e4,i3];rfl
  ·exact List.pairwise_cons.2 ⟨λd hd=>by grind,i4⟩
  ·grind
  ·intro m loc ok hm
   obtain⟨⟨dp,k1⟩,k2⟩:=hm _ (List.mem_cons_self ..)
   refine⟨_,us',e1,?_,i6 m loc ok λd hd=>hm d (List.mem_cons_of_mem _ hd)⟩
   simp only[LR]
   simp_all
 | .int k::ks,id,x,us,ts,ins,⟨u,us',e1,e2,h⟩=>by
  obtain⟨AD,i1,i2,i3,i4,i5,i6⟩:=kD ks (id+1) x.2 us' ts ins h
  refine⟨AD,i1,i2,i3,i4,λd hd=>?_,λm loc ok hm=>⟨u,us',e1,⟨[],e2,λb hb=>by grind⟩,i6 m loc ok hm⟩⟩
  grind
 | .bool::ks,id,x,us,ts,ins,⟨u,us',e1,e2,h⟩=>by
  obtain⟨AD,i1,i2,i3,i4,i5,i6⟩:=kD ks (id+1) x.2 us' ts ins h
  refine⟨AD,i1,i2,i3,i4,λd hd=>?_,λm loc ok hm=>⟨u,us',e1,⟨[],e2,λb hb=>by grind⟩,i6 m loc ok hm⟩⟩
  grind
 | .str::ks,id,x,us,ts,ins,⟨u,us',e1,e2,h⟩=>by
  obtain⟨AD,i1,i2,i3,i4,i5,i6⟩:=kD ks (id+1) x.2 us' ts ins h
  refine⟨AD,i1,i2,i3,i4,λd hd=>?_,λm loc ok hm=>⟨u,us',e1,⟨[],e2,λb hb=>by grind⟩,i6 m loc ok hm⟩⟩
  grind
 | .fn::ks,id,x,us,ts,ins,⟨u,us',e1,e2,h⟩=>by
  obtain⟨AD,i1,i2,i3,i4,i5,i6⟩:=kD ks (id+1) x.2 us' ts ins h
  refine⟨AD,i1,i2,i3,i4,λd hd=>?_,λm loc ok hm=>⟨u,us',e1,⟨[],e2,λb hb=>by grind⟩,i6 m loc ok hm⟩⟩
  grind
theorem G8{m:Mem}{loc:Nat->Loc}{ok:Nat->Prop}{agg:Bool}{ls:List Leaf}{v:AVal}{us:List Value}{u:Value}(h:rH agg ls=some v)(hs:CI agg us u)(hl:LRs m loc ok w ls us):VR1 m loc ok w v u:=by
 unfold rH at h
 rcases hs with ⟨rfl,rfl⟩ | ⟨rfl,rfl⟩
 ·rw[if_pos rfl] at h;cases h
  exact⟨us,rfl,hl⟩
 ·rw[if_neg (by simp)] at h
  split at h
  ·cases h
   obtain⟨x,us',e,h1,_⟩:=hl
   cases e
   exact h1
  simp_all
theorem uQ{ks ks':List Kd}{x:Row ks}{y:Row ks'}(h:nR ks ks' x=some y):∃ e:ks=ks',y=e▸x:=by
 unfold nR at h
 grind
theorem kB(fr:Bool):∀ (rt:List (Bool×List Kd)) (id:Nat) (x:Rows (rt.map (·.2))) (vals:List AVal) (w2:List (Nat×Ent)) (cs:List CRow) (us:List Value) (ts ins:List Nat),
  f7 (rt.map (·.2)) cs=some x->lY fr id rt x=some (vals,w2)->tA fr w rt cs us ts ins->
  ∃ AD:List Ad,w2=AD.map Ad.ent/\(fr=false->AD=[])/\ts=IC AD/\(fr=true->ins=JR AD)/\Sorted AD/\(∀ d∈AD,id<=d.id/\OwnAt w d.ks d.xs d.l d.bss)/\us.length=vals.length/\
   ∀ (m:Mem) (loc:Nat->Loc) (ok:Nat->Prop),(∀ d∈AD,(∃ dp,m d.id= .arr d.ks d.xs dp true)/\loc d.id=d.l)->(fr=false->∀ b∈ins,ok b)->
    ∀ (i:Nat) (v:AVal) (u:Value),vals[i]? =some v->us[i]? =some u->VR1 m loc ok w v u
 | [],id,x,vals,w2,cs,us,ts,ins,hc,ha,⟨h1,h2,h3,h4⟩=>by
  unfold lY at ha
  cases ha
  exact⟨[],rfl,λ_=>rfl,h3,λ_=>h4,List.Pairwise.nil,(λd hd=>by grind),by rw[h2];rfl,λm loc ok _ _ i v u hv=>by simp_all⟩
 | (agg,ks)::rt,id,x,vals,w2,cs,us,ts,ins,hc,ha,⟨c,cs',u,us',uu,t,t',i,i',e1,e2,e3,e4,hs,hr,hrs⟩=>by
  subst e1 e2 e3 e4
  obtain⟨ks0,row⟩:=c
  have hc':(nR ks0 ks row).bind (λx1=>(f7 (rt.map (·.2)) cs').bind λxs=>some ((x1,xs):Row ks×Rows (rt.map (·.2))))=some x:=hc
  obtain⟨x1,hx1,hc2⟩:=Option.bind_eq_some_iff.1 hc'
  obtain⟨xs,hxs,hx⟩:=Option.bind_eq_some_iff.1 hc2
  cases hx
  obtain⟨rfl,rfl⟩:=uQ hx1
  simp only[lY,Option.bind_eq_some_iff] at ha
  obtain⟨v,hv,⟨vs,w'⟩,hvs,hh⟩:=ha
  cases hh
  obtain⟨AD,a1,a2,a3,a4,a5,a6,a7,a8⟩:=kB fr rt _ xs vs w' cs' us' t' i' hxs hvs hrs
  unfold T0 at hr
  cases fr with
  | true=>
   rw[if_pos rfl] at hr
   obtain⟨AD1,b1,b2,b3,b4,b5,b6⟩:=kD ks0 id x1 uu t i hr
   refine⟨AD1++AD,?_,(λh=>by grind),?_,λ_=>?_,?_,λd hd=>?_,by grind,λm loc ok hm hok k v' u' hv' hu'=>?_⟩
   ·rw[a1,b1];simp
   ·rw[a3,b2];simp[IC]
   ·rw[a4 rfl,b3];simp[JR]
   ·refine List.pairwise_append.2 ⟨b4,a5,λd hd d' hd'=>?_⟩
    grind
   ·grind
   ·cases k with
    | zero=>
     simp at hv' hu';subst hv' hu'
     exact G8 hv hs (b6 m loc ok λd hd=>hm d (List.mem_append_left _ hd))
    | succ k=>grind
  | false=>
   rw[if_neg (by simp)] at hr
   obtain⟨ht,hr⟩:=hr
   obtain⟨b1,b2⟩:=kC ks0 id x1 uu i hr
   have hAD:=a2 rfl
   subst hAD
   refine⟨[],?_,λ_=>rfl,?_,(λh=>by grind),List.Pairwise.nil,(λd hd=>by grind),by grind,λm loc ok hm hok k v' u' hv' hu'=>?_⟩
   ·rw[b1,a1];rfl
   ·rw[ht,a3];rfl
   ·cases k with
    | zero=>
     simp at hv' hu';subst hv' hu'
     exact G8 hv hs (b2 m loc ok λb hb=>hok rfl b (List.mem_append_left _ hb))
    | succ k=>grind
theorem C6{m:Mem}{loc:Nat->Loc}:∀ (ps:List (Nat×List Kd)) (rbs:List Nat) (y:Rows (ps.map (·.2))) (cs:List CRow) (B:List Nat),RefL m loc ps rbs->f7 (ps.map (·.2)) cs=some y->L7 w rbs cs B->
  ∃ RF:List Rf,lK ps y=RF.map Rf.ent/\RF.map (·.id)=ps.map (·.1)/\(∀ f∈RF,(∃ ls,m f.id= .var ls)/\loc f.id= .at_ f.b 0 0)/\(∀ b∈rbs,∃ f∈RF,f.b=b)/\
   ∀ f∈RF,∃ (us:List Value) (x:List Nat),Whole w f.b us/\(∀ (m:Mem) (loc:Nat->Loc) (ok:Nat->Prop),(∀ b∈x,ok b)->LRs m loc ok w f.ls us)/\∀ b∈x,b∈B
 | [],rbs,y,cs,B,hl,hc,hr=>by
  have hl':rbs=[]:=hl
  subst hl'
  exact⟨[],rfl,rfl,(λf hf=>by grind),(λb hb=>by grind),λf hf=>by grind⟩
 | (id,ks)::ps,rbs,y,cs,B,⟨b,r,e,h1,h2,h3⟩,hc,hr=>by
  subst e
  obtain⟨c,cs',us,x,x',e1,e2,e3,e4,e5⟩:=hr
  subst e1 e2
  obtain⟨ks0,row⟩:=c
  have hc':(nR ks0 ks row).bind (λx1=>(f7 (ps.map (·.2)) cs').bind λxs=>some ((x1,xs):Row ks×Rows (ps.map (·.2))))=some y:=hc
  obtain⟨x1,hx1,hc2⟩:=Option.bind_eq_some_iff.1 hc'
  obtain⟨xs,hxs,hx⟩:=Option.bind_eq_some_iff.1 hc2
  cases hx
  obtain⟨rfl,rfl⟩:=uQ hx1
  obtain⟨RF,a1,a2,a3,a4,a5⟩:=C6 ps r xs cs' x' h3 hxs e5
  obtain⟨b1,b2⟩:=kC ks0 0 x1 us x e4
  refine⟨⟨id,b,(gX false 0 ks0 x1).1⟩::RF,?_,?_,?_,?_,?_⟩
  ·show(id,Ent.var (gX false 0 ks0 x1).1)::lK ps xs=_
   rw[a1];rfl
  ·grind
  ·simp_all
  ·simp_all
  ·intro f hf
   rcases List.mem_cons.1 hf with rfl | hf
   ·exact⟨us,x,e3,b2,λb hb=>List.mem_append_left _ hb⟩
   ·obtain⟨us',x2,k1,k2,k3⟩:=a5 f hf
    exact⟨us',x2,k1,k2,λb hb=>List.mem_append_right _ (k3 b hb)⟩
end
end Go.Abs
/- Calls. -/
namespace Go.Abs
open Go
section
variable {P:Program} {E:Env} (hT:TOk P E.ti)
variable {n0:Nat} {ab rb:Nat->Prop} {w0:World} {N:Fix} {t:Nat->AVal} {m:Mem} {a:Act} {w:World} {loc:Nat->Loc} {ow:Nat->Option Nat}
theorem gK{E E':Env}(h:E.ti=E'.ti):∀ ts,dI E ts=dI E' ts
 | []=>rfl
 | t::ts=>by unfold dI;rw[h,gK h ts]
theorem jJ{α:Type}{k:Q α}{x:α}:∀ (l:List (Nat×Ent)) (tr:List Nat),Does m (pB l k) x tr->(∀ p∈l,m p.1= .none)/\∃ tr',Does m k x tr'/\∃ t0,tr=t0++tr'
 | [],tr,h=>⟨(λp hp=>by cases hp),tr,h,[],rfl⟩
 | (i,e)::l,tr,h=>by
  obtain⟨h1,tr',e1,h2⟩:=gN h
  obtain⟨h3,tr2,h4,t0,e2⟩:=jJ l tr' h2
  refine⟨λp hp=>?_,tr2,h4,i::t0,by rw[e1,e2];rfl⟩
  rcases List.mem_cons.1 hp with rfl | hp
  ·exact h1
  ·exact h3 p hp
theorem RefL.congr{M:Mem}:∀ (ps:List (Nat×List Kd)) (rbs:List Nat),(∀ p∈ps,M p.1=m p.1)->RefL m loc ps rbs->RefL M loc ps rbs
 | [],_,_,h=>h
 | (id,ks)::ps,rbs,hm,⟨b,r,e,⟨ls,h1⟩,h2,h3⟩=>⟨b,r,e,⟨ls,by rw[hm _ (List.mem_cons_self ..)];exact h1⟩,h2,RefL.congr ps r (λp hp=>hm p (List.mem_cons_of_mem _ hp)) h3⟩
theorem tH{α:Type}(f:α->Nat):∀ (l:List α),(l.map f).Nodup->∀ x∈l,∀ y∈l,f x=f y->x=y
 | [],_,x,hx,_,_,_=>by cases hx
 | z::l,h,x,hx,y,hy,e=>by
  rw[List.map_cons,List.nodup_cons] at h
  rcases List.mem_cons.1 hx with h1 | h1<;>rcases List.mem_cons.1 hy with h2 | h2
  ·rw[h1,h2]
  ·subst h1;exact absurd (List.mem_map.2 ⟨y,h2,e.symm⟩) h.1
  ·subst h2;exact absurd (List.mem_map.2 ⟨x,h1,e⟩) h.1
  ·exact tH f l h.2 x h1 y h2 e
include hT
theorem OB (R:Rel n0 ab rb w0 N t m a w loc ow) {d g:Nat} {rts:Nat->Option (List Nat)} {tys:List Nat} {xs:List AVal} {e:Eff} {tr:List Nat} (h:Does m (RV E d rts g tys xs) e tr)
  (hC:∀ as out,E.call g as=some out->lZ P E.ti rts E.fresh g as out) (vs:List Value) (hl:vs.length=xs.length) (hv:∀ (i:Nat) (x:AVal) (v:Value),xs[i]? =some x->vs[i]? =some v->VR m loc (Ok n0 ab m loc w) w x v):
  (∃ fn,P.funcs[g]? =some fn/\fn.name≠ "runtime.NumGoroutine" /\fn.body.isNone=false)/\Calls P g vs.toArray w λen w'=>∃ v,en= .returned v/\Post n0 ab rb w0 N t m a e v w':=by
 unfold RV at h
 split at h
 ·exact h.elim
 rename_i rt hrt
 obtain⟨⟨as,wr,ps⟩,t1,t2,_,h1,h2⟩:=Does.bind _ _ h
 obtain⟨o,ho,h3⟩:=h2
 obtain⟨out,hout,hcast⟩:=Option.bind_eq_some_iff.1 ho
 obtain⟨x,hx,hcast2⟩:=Option.bind_eq_some_iff.1 hcast
 obtain⟨y,hy,hoo⟩:=Option.bind_eq_some_iff.1 hcast2
 cases hoo
 dsimp only at h3
 split at h3
 case h_2=>exact h3.elim
 rename_i vals w2 had
 split at h3
 ·exact h3.elim
 rename_i hany
 obtain⟨hnone,tr',h4,_⟩:=jJ _ _ h3
 obtain⟨rfl,_⟩:=h4
 obtain⟨bs,rbs,hA,made,hRL,hnd⟩:=xU hT R tys xs as wr ps t1 h1 vs hl hv
 have hfz:=hC as out hout
 unfold lZ at hfz
 rw[if_pos (nV tys xs as wr ps t1 h1)] at hfz
 obtain⟨hfn,hcall⟩:=hfz
 refine⟨hfn,?_⟩
 have hcall:=hcall rt (by
  rw[<- hrt]
  cases rts g with
  | none=>rfl
  | some l=>
   show dI _ l=dI E l
   apply gK;rfl) vs bs rbs w hA (λb hb=>⟨made.lt R b hb,made.not_ref R hRL b hb⟩) (λb hb=>by
   obtain⟨p,_,⟨ls,k1⟩,k2⟩:=hRL.mem _ _ b hb
   exact(R.owner (id:=p.1) (b:=b) (by rw[k1];rfl) (by rw[k2];rfl)).2) (hRL.nodup R _ _ hnd)
 refine Calls.mono hcall ?_
 rintro en w' ⟨v,rfl,⟨hk,hsz,hfree,us,ts,ins,B,hvv,hres,hrefs,hB,hins,hts,hfr⟩,_⟩
 refine⟨v,rfl,?_⟩
 have hwr:∀ p∈ps,∀ q∈wr,q.1≠p.1:=by
  intro p hp q hq e1
  apply hany
  refine List.any_eq_true.2 ⟨p,hp,?_⟩
  rw[(iX p.1 wr).2 ⟨q,hq,e1⟩];rfl
 -- the memory in which the results arrive
 obtain⟨cl,hcl,hclq,R1,hok1⟩:∃ cl,cl=(if E.fresh g&&ps.isEmpty then[] else wr)/\(∀ q∈cl,q∈wr)/\Rel n0 ab rb w0 N t (bQ m cl) a w loc ow/\((E.fresh g&&ps.isEmpty)=false->∀ b∈bs,Ok n0 ab (bQ m cl) loc w b):=by
  cases hc:(E.fresh g&&ps.isEmpty)with
  | true=>exact⟨[],rfl,(λq hq=>by cases hq),R,λh=>by cases h⟩
  | false=>exact⟨wr,rfl,λq hq=>hq,R.close wr made.took,λ_=>made.close R⟩
 have hclm:∀ j,(∀ q∈wr,q.1≠j)->bQ m cl j=m j:=λj hj=>cE _ _ _ λq hq=>hj q (hclq q hq)
 obtain⟨AD,a1,a2,a3,a4,a5,a6,a7,a8⟩:=kB (E.fresh g) rt (d*32) x vals w2 out.res us ts ins hx had hres
 obtain⟨RF,r1,r2,r3,r4,r5⟩:=C6 (m:=bQ m cl) (loc:=loc) ps rbs y out.refs B (hRL.congr _ _ λp hp=>hclm p.1 (hwr p hp)) hy hrefs
 have htop:∀ d∈AD,∀ b,d.l.blk=some b->b∈ts:=λd hd b hb=>by
  rw[a3];exact List.mem_flatMap.2 ⟨d,hd,by rw[hb];simp⟩
 have hntop:∀ b,b∉ts->∀ d∈AD,d.l.blk≠some b:=λb hb d hd e=>hb (htop d hd b e)
 have hfrAD:∀ d∈AD,E.fresh g=true:=λd hd=>by
  cases hh:E.fresh g with
  | true=>rfl
  | false=>rw[a2 hh] at hd;cases hd
 have hinn:∀ d∈AD,∀ b∈List.flatten d.bss,b∈ins:=λd hd b hb=>by
  rw[a4 (hfrAD d hd)];exact List.mem_flatMap.2 ⟨d,hd,hb⟩
 obtain⟨loc',ow',R',hla,hnew⟩:=R1.called hk hsz AD RF a5.one (λd hd=>by
   have:m d.id= .none:=hnone d.ent (by rw[a1];exact List.mem_map.2 ⟨d,hd,rfl⟩)
   rw[hclm d.id ?_]
   ·exact this
   ·intro q hq e1
    obtain⟨ks,zs,dd,oo,k1,_⟩:=made.took q hq
    rw[e1,this] at k1;cases k1)
  (tH (·.id) RF (by rw[r2];exact hnd)) r3 r4 (λd hd=>(a6 d hd).2) (λd hd b hb=>hts b (htop d hd b hb)) hfree
  (λd hd b hb=>by
   obtain⟨k1,k2,k3,k4⟩:=hins b (hinn d hd b hb)
   refine⟨k3.resolve_right λh=>?_,k1,hntop b k4⟩
   rw[hfrAD d hd] at h;cases h.1)
  (λd hd d' hd' b hb hb'=>by
   have:=(hfr (hfrAD d hd)).1
   rw[a3] at this
   rw[gE _ AD this d hd d' hd' b (by rw[hb];simp) (by rw[hb'];simp)])
  (λd hd d' hd' b hb hb'=>by
   have:=(hfr (hfrAD d hd)).2
   rw[a4 (hfrAD d hd)] at this
   rw[gE _ AD this d hd d' hd' b hb hb'])
  (λd hd=>by
   have:=(hfr (hfrAD d hd)).2
   rw[a4 (hfrAD d hd)] at this
   exact qU _ AD this d hd)
  (λf hf=>by
   obtain⟨us',x',k1,k2,k3⟩:=r5 f hf
   refine⟨us',x',k1,k2,λb hb=>?_⟩
   obtain⟨q1,q2,q3,q4⟩:=hB b (k3 b hb)
   refine⟨q1,q3.imp id (hok1 ?_ b),hntop b q4⟩
   cases ps with
   | nil=>
    have:RF=[]:=by simpa using r2
    rw[this] at hf;cases hf
   | cons=>simp)
 have hmem:bQ m ((if E.fresh g&&ps.isEmpty then[] else wr)++lK ps y++w2)=bQ (bQ m cl) (RF.map Rf.ent++AD.map Ad.ent):=by
  rw[<- hcl,List.append_assoc,dX,r1,a1]
 refine⟨loc',ow',?_,?_⟩
 ·show Rel n0 ab rb w0 N t (bQ m ((if E.fresh g&&ps.isEmpty then[] else wr)++lK ps y++w2)) a w' loc' ow'
  rw[hmem];exact R'
 ·show VR (bQ m ((if E.fresh g&&ps.isEmpty then[] else wr)++lK ps y++w2)) loc' (Ok n0 ab (bQ m ((if E.fresh g&&ps.isEmpty then[] else wr)++lK ps y++w2)) loc' w') w' _ v
  rw[hmem]
  have hval:=a8 (bQ (bQ m cl) (RF.map Rf.ent++AD.map Ad.ent)) loc' (Ok n0 ab (bQ (bQ m cl) (RF.map Rf.ent++AD.map Ad.ent)) loc' w') (λd hd=>⟨⟨true,?_⟩,hla d hd⟩) (λhfalse b hb=>by
    obtain⟨q1,q2,q3,q4⟩:=hins b hb
    refine hnew b q1 (q3.imp id λhh=>hok1 (by rw[hfalse];rfl) b hh.2) (hntop b q4))
  ·subst hvv
   match vals,us,a7,hval with
   | [v1],[u1],_,hval=>
    have:=hval 0 v1 u1 rfl rfl
    cases v1 with
    | tup _=>exact this.elim
    | _=>exact this
   | [],[],_,hval=>exact⟨[],rfl,rfl,λi x y hx=>by simp at hx⟩
   | v1::v2::vr,u1::u2::ur,hlen,hval=>exact⟨_,rfl,hlen,hval⟩
  ·have hr:=R'
   have:=(Rel.called_mem (m:=bQ m cl) AD RF a5.one (λd hd=>by
    have:m d.id= .none:=hnone d.ent (by rw[a1];exact List.mem_map.2 ⟨d,hd,rfl⟩)
    rw[hclm d.id ?_]
    ·exact this
    ·intro q hq e1
     obtain⟨ks,zs,dd,oo,k1,_⟩:=made.took q hq
     rw[e1,this] at k1;cases k1) (tH (·.id) RF (by rw[r2];exact hnd)) (λf hf=>(r3 f hf).1)) d hd
   exact this
end
end Go.Abs
/- Calls where slices are pinned: what is handed over. -/
namespace Go.Abs
open Go
section
variable {P:Program} {E:Env} (hT:TOk P E.ti)
variable {n0:Nat} {ab rb:Nat->Prop} {w0:World} {N:Fix} {t:Nat->AVal} {m:Mem} {a:Act} {w:World} {loc:Nat->Loc} {ow:Nat->Option Nat}
/-- What is written back into an entry. -/
structure Wr where
 id:Nat
 ks:List Kd
 old:List (Row ks)
 new:List (Row ks)
 hv:Value
 hd:Nat->Nat->Value
 bl:List Nat
 b:List Nat
def Wr.ent(d:Wr):Nat×Ent:=(d.id,.pin d.ks d.new)
structure Wr.Ok (m:Mem) (loc:Nat->Loc) (w w':World) (d:Wr):Prop where
 m:m d.id= .pin d.ks d.old
 l:loc d.id= .pin d.hv d.hd d.bl
 sub:∀ z∈d.b,z∈d.bl
 pin:(∀ z∈d.bl,z∉d.b->w'.heap[z]? =w.heap[z]?)->(∀ z∈d.b,cO w' z)->PinR w' d.ks d.new d.hv d.hd d.bl
/-- Where a cell that is handed over lies. -/
def WH(m:Mem)(loc:Nat->Loc)(w:World)(k:Kd)(u:Value)(b:List Nat):Option Pth->Prop
 | none=>b=[]
 | some (.top id)=>∃ ks xs hd,k= .sl ks/\m id= .pin ks xs/\loc id= .pin u hd b/\PinR w ks xs u hd b
 | some (.sub id i off)=>∃ ks K X hv hd bl r0,k= .sl ks/\m id= .pin K X/\loc id= .pin hv hd bl/\X[i]? =some r0/\hd i off=u/\(∀ z∈b,z∈bl)/\
   ∀ w' y' r1,hO K r0 off (.sl ks) y'=some r1->TR w' (.sl ks) y' u b->(∀ z∈bl,z∉b->w'.heap[z]? =w.heap[z]?)->(∀ z∈b,cO w' z)->PinR w' K (X.set i r1) hv hd bl
def L8(m:Mem)(loc:Nat->Loc)(w:World):List Kd->List Value->List (List Nat)->List (Option Pth)->Prop
 | [],us,bs,ps=>us=[]/\bs=[]/\ps=[]
 | k::ks,us,bs,ps=>∃ u us' b bs' p ps',us=u::us'/\bs=b::bs'/\ps=p::ps'/\WH m loc w k u b p/\L8 m loc w ks us' bs' ps'
def SD:Option Pth->List Nat
 | none=>[]
 | some (.top id)=>[id]
 | some (.sub id _ _)=>[id]
theorem Rel.pinAt(R:Rel n0 ab rb w0 N t m a w loc ow){k:Kd}{l:Leaf}{x:k.T}{p:Option Pth}{tr:List Nat}(h:Does m (Abs.pinAt true k l) (x,p) tr){u:Value}(hu:LR m loc (Ok n0 ab m loc w) w l u):
  ∃ b,TR w k x u b/\WH m loc w k u b p/\b.Nodup/\∀ z∈b,∃ id,p.toList.flatMap (λq=>SD (some q))=[id]/\ow z=some id/\cO w z:=by
 unfold Abs.pinAt at h
 split at h
 ·rename_i k' y
  split at h
  ·exact h.elim
  rename_i hfl
  obtain⟨z,hz,h'⟩:=h;replace h:=h';clear h'
  obtain⟨e,_⟩:=h
  cases e
  obtain⟨rfl,rfl⟩:=jL hz
  obtain⟨bs,hTR,hb⟩:=hu
  have hf:j7 k'=true:=by cases hh:j7 k'<;>simp_all
  have:=(TR.flat _ _ _ _ hf hTR).1
  subst this
  exact⟨[],hTR,rfl,List.nodup_nil,λz hz=>by grind⟩
 ·split at h
  ·obtain⟨e,_⟩:=h
   cases e
   have:u= .slice none 0 0:=hu
   subst this
   exact⟨[],⟨none,0,rfl,Nat.le_refl _,.inl ⟨rfl,rfl⟩⟩,rfl,List.nodup_nil,λz hz=>by grind⟩
  ·exact h.elim
 ·rename_i id
  split at h
  case h_2=>exact h.elim
  rename_i ks
  obtain⟨tr',_,h'⟩:=h;replace h:=h';clear h'
  have hE:=R.ents id
  simp only[LR] at hu
  unfold EntR at hE
  cases hm:m id with
  | pin ks' xs=>
   rw[hm] at hE h hu
   dsimp only at hu h
   obtain⟨z,hz,h'⟩:=h;replace h:=h';clear h'
   obtain⟨e,_⟩:=h
   cases e
   obtain⟨e1,e2⟩:=jL hz
   cases e1
   subst e2
   obtain⟨hv,hd,bl,hl,hp,hw⟩:=hE
   rw[hl,Loc.val_pin (TR.one _ _ _ _ hp.1)] at hu
   subst hu
   exact⟨bl,hp.1,⟨ks,_,hd,rfl,hm,hl,hp⟩,hp.2.2.1,λz hz=>⟨id,rfl,hw z hz,hp.2.2.2 z hz⟩⟩
  | _=>rw[hm] at h;exact h.elim
 ·rename_i id i off
  split at h
  case h_2=>exact h.elim
  rename_i ks
  obtain⟨tr',_,h'⟩:=h;replace h:=h';clear h'
  have hE:=R.ents id
  simp only[LR] at hu
  unfold EntR at hE
  cases hm:m id with
  | pin K X=>
   rw[hm] at hE h hu
   dsimp only at hu h
   obtain⟨r0,hr0,y,hy,h'⟩:=h;replace h:=h';clear h'
   obtain⟨e,_⟩:=h
   cases e
   obtain⟨hv,hd,bl,hl,hp,hw⟩:=hE
   obtain⟨⟨hv',hd',bl',hl',rfl⟩,_⟩:=hu
   rw[hl] at hl';cases hl'
   obtain⟨b,g1,g2,g3,g4⟩:=hp.sub hr0 hy
   exact⟨b,g3,⟨ks,K,X,hv,hd,bl,r0,rfl,hm,hl,hr0,rfl,g1,g4⟩,g2,λz hz=>⟨id,rfl,hw z (g1 z hz),hp.2.2.2 z (g1 z hz)⟩⟩
  | _=>rw[hm] at h;exact h.elim
 ·exact h.elim
end
end Go.Abs
/- Calls where slices are pinned: arguments. -/
namespace Go.Abs
open Go
section
variable {P:Program} {E:Env} (hT:TOk P E.ti)
variable {n0:Nat} {ab rb:Nat->Prop} {w0:World} {N:Fix} {t:Nat->AVal} {m:Mem} {a:Act} {w:World} {loc:Nat->Loc} {ow:Nat->Option Nat}
/-- Blocks that are handed over, and to whom they belong. -/
structure Given (ow:Nat->Option Nat) (w:World) (ids:List Nat) (bs:List Nat):Prop where
 own:∀ z∈bs,∃ id∈ids,ow z=some id
 wr:∀ z∈bs,cO w z
 nd:ids.Nodup->bs.Nodup
theorem Given.nil{ids:List Nat}:Given ow w ids []:=⟨(λz hz=>by grind),(λz hz=>by grind),λ_=>List.nodup_nil⟩
theorem Given.append{ids ids' bs bs':List Nat}(h:Given ow w ids bs)(h':Given ow w ids' bs'):Given ow w (ids++ids') (bs++bs'):=by
 refine⟨λz hz=>?_,λz hz=>?_,λhn=>?_⟩
 ·rcases List.mem_append.1 hz with hz | hz
  ·obtain⟨i,hi,e⟩:=h.own z hz;simp_all
  ·obtain⟨i,hi,e⟩:=h'.own z hz;simp_all
 ·rcases List.mem_append.1 hz with hz | hz
  ·exact h.wr z hz
  ·exact h'.wr z hz
 ·obtain⟨n1,n2,n3⟩:=List.nodup_append.1 hn
  refine List.nodup_append.2 ⟨h.nd n1,h'.nd n2,λx hx y hy e=>?_⟩
  subst e
  obtain⟨i,hi,e1⟩:=h.own x hx
  obtain⟨j,hj,e2⟩:=h'.own x hy
  rw[e1] at e2
  simp_all
def wW(ps:List (Option Pth)):List Nat:=ps.flatMap SD
theorem Rel.pinRow(R:Rel n0 ab rb w0 N t m a w loc ow):∀ (ks:List Kd) (ls:List Leaf) (x:Row ks) (ps:List (Option Pth)) (tr:List Nat),Does m (Abs.pinRow true ks ls) (x,ps) tr->
  ∀ us,LRs m loc (Ok n0 ab m loc w) w ls us->∃ bs,RC w ks x us bs/\L8 m loc w ks us bs ps/\Given ow w (wW ps) (List.flatten bs)
 | [],[],x,ps,tr,h,us,hu=>by
  obtain⟨e,_⟩:=h;cases e
  exact⟨[],⟨hu,rfl⟩,⟨hu,rfl,rfl⟩,Given.nil⟩
 | k::ks,l::ls,x,ps,tr,h,us,⟨u,us',e,hl,hs⟩=>by
  unfold Abs.pinRow at h
  obtain⟨⟨y,p⟩,t1,t2,_,h1,h2⟩:=Does.bind _ _ h
  obtain⟨⟨r,ps'⟩,t3,t4,_,h3,h4⟩:=Does.bind _ _ h2
  obtain⟨e4,_⟩:=h4
  cases e4
  obtain⟨b,q1,q2,q3,q4⟩:=R.pinAt h1 hl
  obtain⟨bs,g1,g2,g3⟩:=Rel.pinRow R ks ls r ps' t3 h3 us' hs
  refine⟨b::bs,⟨u,us',b,bs,e,rfl,q1,g1⟩,⟨u,us',b,bs,p,ps',e,rfl,rfl,q2,g2⟩,?_⟩
  show Given ow w (SD p++wW ps') (b++List.flatten bs)
  refine Given.append ⟨λz hz=>?_,λz hz=>?_,λ_=>q3⟩ g3
  ·obtain⟨id,e1,e2,_⟩:=q4 z hz
   cases p with
   | none=>simp_all
   | some p=>
    simp_all
  grind
 | [],_::_,_,_,_,h,_,_=>h.elim
 | _::_,[],_,_,_,h,_,_=>h.elim
theorem RC.RR:∀ (ks:List Kd) (x:Row ks) (us:List Value) (bs:List (List Nat)),RC w ks x us bs->RR w ks x us (List.flatten bs)
 | [],_,_,_,h=>⟨h.1,by rw[h.2];rfl⟩
 | k::ks,x,us,bs,⟨u,us',b,b',e1,e2,h1,h2⟩=>⟨u,us',b,List.flatten b',e1,by rw[e2];rfl,h1,RC.RR ks x.2 us' b' h2⟩
theorem sV:∀ (ks:List Kd) (x:Row ks) (us:List Value) (bs:List Nat),cP ks=false->Abs.RR w ks x us bs->bs=[]
 | [],_,_,_,_,h=>h.2
 | k::ks,x,us,bs,hf,⟨u,us',b,b',e1,e2,h1,h2⟩=>by
  have hk:j7 k=true/\cP ks=false:=by
   cases k<;>simp_all [cP,j7]
  rw[e2,(TR.flat _ _ _ _ hk.1 h1).1,sV ks x.2 us' b' hk.2 h2];rfl
/-- The places of all that is handed over. -/
def VV(m:Mem)(loc:Nat->Loc)(w:World):List (List Kd×List (Option Pth))->List (List Value×List (List Nat))->Prop
 | [],ds=>ds=[]
 | (ks,ps)::r,ds=>∃ us bs ds',ds=(us,bs)::ds'/\L8 m loc w ks us bs ps/\VV m loc w r ds'
def CG(ps:List (List Kd×List (Option Pth))):List Nat:=ps.flatMap λp=>wW p.2
include hT in
theorem CD(R:Rel n0 ab rb w0 N t m a w loc ow):∀ (ts:List Nat) (xs:List AVal) (as:List Arg) (ps:List (List Kd×List (Option Pth))) (tr:List Nat),Does m (s8 E true ts xs) (as,ps) tr->
  ∀ vs:List Value,vs.length=xs.length->(∀ (i:Nat) (x:AVal) (v:Value),xs[i]? =some x->vs[i]? =some v->VR m loc (Ok n0 ab m loc w) w x v)->
  ∃ ds,D6 w as vs ds/\VV m loc w ps ds/\Given ow w (CG ps) (uR ds)
 | [],[],as,ps,tr,h,vs,hl,hv=>by
  obtain⟨e,_⟩:=h;cases e
  have:vs=[]:=List.eq_nil_of_length_eq_zero hl
  subst this
  exact⟨[],⟨rfl,rfl⟩,rfl,Given.nil⟩
 | ty::ts,x::xs,as,ps,tr,h,v::vs,hl,hv=>by
  unfold s8 at h
  obtain⟨i,T,_,h'⟩:=cB hT h;replace h:=h';clear h'
  obtain⟨ls,hls,h'⟩:=lE h;replace h:=h';clear h'
  have hx:=hv 0 x v rfl rfl
  obtain⟨⟨r,p⟩,t1,t2,_,h1,h2⟩:=Does.bind _ _ h
  obtain⟨⟨as',ps'⟩,t3,t4,_,h3,h4⟩:=Does.bind _ _ h2
  obtain⟨ds,k1,k2,k3⟩:=CD R ts xs as' ps' t3 h3 vs (by simp_all) (λi x v h1 h2=>hv (i+1) x v (by simp_all) (by simp_all))
  obtain⟨us,hs,hL⟩:=rX hx hls
  obtain⟨bs,q1,q2,q3⟩:=R.pinRow i.kinds ls r p t1 h1 us hL
  dsimp only at h4
  split at h4
  ·obtain⟨e,_⟩:=h4
   cases e
   exact⟨(us,bs)::ds,⟨v,vs,us,bs,ds,rfl,rfl,hs,q1,k1⟩,⟨us,bs,ds,rfl,q2,k2⟩,Given.append q3 k3⟩
  ·rename_i hsl
   obtain⟨e,_⟩:=h4
   cases e
   have hf:cP i.kinds=false:=by cases hh:cP i.kinds<;>simp_all
   have hrr:=RC.RR _ _ _ _ q1
   have hnil:=sV i.kinds r us _ hf hrr
   rw[hnil] at hrr
   exact⟨ds,⟨v,vs,us,rfl,hs,hrr,k1⟩,k2,k3⟩
 | ty::ts,x::xs,as,ps,tr,h,[],hl,hv=>by grind
 | [],_::_,_,_,_,h,_,_,_=>h.elim
 | _::_,[],_,_,_,h,_,_,_=>h.elim
/-- What is written back. -/
theorem pN{w':World}:∀ (ks:List Kd) (x:Row ks) (ps:List (Option Pth)) (wr:List (Nat×Ent)) (tr:List Nat) (us:List Value) (bs:List (List Nat)),Does m (nL ks x ps) wr tr->
  L8 m loc w ks us bs ps->SE w w' ks x us bs->∃ L:List Wr,wr=L.map Wr.ent/\(∀ d∈L,d.Ok m loc w w')/\List.flatten bs=L.flatMap (·.b)/\L.map (·.id)=wW ps
 | [],x,ps,wr,tr,us,bs,h,⟨e1,e2,e3⟩,ho=>by
  subst e1 e2 e3
  obtain⟨e,_⟩:=h
  subst e
  exact⟨[],rfl,(λd hd=>by grind),rfl,rfl⟩
 | k ::ks,x,ps,wr,tr,us,bs,h,⟨u,us',b,bs',p,ps',e1,e2,e3,hp,hps⟩,⟨u2,us2,b2,bs2,f1,f2,hTR,hH,ho⟩=>by
  subst e1 e2 e3
  cases f1
  cases f2
  cases p with
  | none=>
   have hb:b=[]:=hp
   subst hb
   have h':Does m (nL ks x.2 ps') wr tr:=by cases k<;>exact h
   obtain⟨L,g1,g2,g3,g4⟩:=pN ks x.2 ps' wr tr us' bs' h' hps ho
   exact⟨L,g1,g2,by rw[<- g3];rfl,g4⟩
  | some p=>
   cases p with
   | top id=>
    obtain⟨ks',xs,hd,rfl,hm,hl,hpin⟩:=hp
    unfold nL at h
    obtain⟨w1,t1,t2,_,h1,h2⟩:=Does.bind _ _ h
    obtain⟨e,_⟩:=h2
    subst e
    obtain⟨L,g1,g2,g3,g4⟩:=pN ks x.2 ps' w1 t1 us' bs' h1 hps ho
    refine⟨⟨id,ks',xs,x.1,u,hd,b,b⟩::L,by rw[g1];rfl,λd hd'=>?_,by rw[List.flatten_cons,g3];rfl,by rw[List.map_cons,g4];rfl⟩
    rcases List.mem_cons.1 hd' with rfl | hd'
    ·refine⟨hm,hl,λz hz=>hz,λ_ hwr=>?_⟩
     obtain⟨A,c,hu⟩:=hpin.len
     have hlen:List.length x.1=List.length xs:=by
      obtain⟨A',c',hu',_⟩:=hTR
      rw[hu] at hu'
      simp_all
     exact⟨hTR,by show D5 w' ks' (List.length x.1) u hd;rw[hlen];exact hH ks' A _ c rfl hu hd hpin.2.1,hpin.2.2.1,hwr⟩
    simp_all
   | sub id i off=>
    obtain⟨ks',K,X,hv,hd,bl,r0,rfl,hm,hl,hr0,hu,hsub,hcl⟩:=hp
    unfold nL at h
    obtain⟨tr',_,h'⟩:=h;replace h:=h';clear h'
    rw[hm] at h
    dsimp only at h
    obtain⟨r0',hr0',r1,hr1,h'⟩:=h;replace h:=h';clear h'
    unfold at? at hr0'
    rw[hr0] at hr0'
    cases hr0'
    obtain⟨w1,t1,t2,_,h1,h2⟩:=Does.bind _ _ h
    obtain⟨e,_⟩:=h2
    subst e
    obtain⟨L,g1,g2,g3,g4⟩:=pN ks x.2 ps' w1 t1 us' bs' h1 hps ho
    refine⟨⟨id,K,X,X.set i r1,hv,hd,bl,b⟩::L,by rw[g1];rfl,λd hd'=>?_,by rw[List.flatten_cons,g3];rfl,by rw[List.map_cons,g4];rfl⟩
    rcases List.mem_cons.1 hd' with rfl | hd'
    ·exact⟨hm,hl,hsub,λhw hwr=>hcl w' x.1 r1 hr1 hTR hw hwr⟩
    simp_all
theorem zY{w':World}:∀ (ps:List (List Kd×List (Option Pth))) (y:Rows (ps.map (·.1))) (wr:List (Nat×Ent)) (tr:List Nat) (ds:List (List Value×List (List Nat))) (as:List Arg) (cs:List CRow),Does m (CV ps y) wr tr->
  f7 (ps.map (·.1)) cs=some y->VV m loc w ps ds->H9 w w' as ds cs->∃ L:List Wr,wr=L.map Wr.ent/\(∀ d∈L,d.Ok m loc w w')/\uR ds=L.flatMap (·.b)/\L.map (·.id)=CG ps
 | [],y,wr,tr,ds,as,cs,h,hc,hr,ho=>by
  have hr':ds=[]:=hr
  subst hr'
  obtain⟨e,_⟩:=h
  subst e
  exact⟨[],rfl,(λd hd=>by grind),rfl,rfl⟩
 | (ks,p)::ps,y,wr,tr,ds,as,cs,h,hc,⟨us,bs,ds',e,hp,hr⟩,ho=>by
  subst e
  induction as with
  | nil=>
   have ho':cs=[]:=ho
   subst ho'
   cases hc
  | cons A as ih=>
   cases A with
   | val agg c=>exact ih ho
   | ref c=>cases ho
   | own agg c=>
    obtain⟨x,cs',e,h1,h2⟩:=ho
    subst e
    have hc':(nR c.ks ks x).bind (λx1=>(f7 (ps.map (·.1)) cs').bind λxs=>some ((x1,xs):Row ks×Rows (ps.map (·.1))))=some y:=hc
    obtain⟨x1,hx1,hc2⟩:=Option.bind_eq_some_iff.1 hc'
    obtain⟨xs,hxs,hy⟩:=Option.bind_eq_some_iff.1 hc2
    cases hy
    obtain⟨e1,e2⟩:=uQ hx1
    replace h:Does m ((nL ks x1 p).bind λw=>(CV ps xs).bind λw'=> .ret (w++w')) wr tr:=h
    obtain⟨wa,t1,t2,_,h3,h4⟩:=Does.bind _ _ h
    obtain⟨wb,t3,t4,_,h5,h6⟩:=Does.bind _ _ h4
    obtain⟨e3,_⟩:=h6
    subst e3
    obtain⟨cks,crow⟩:=c
    dsimp only at e1 h1 x e2
    subst e1
    subst e2
    obtain⟨L,g1,g2,g3,g4⟩:=pN cks _ p wa t1 us bs h3 hp h1
    obtain⟨L',g5,g6,g7,g8⟩:=zY ps xs wb t3 ds' as cs' h5 hxs hr h2
    refine⟨L++L',by rw[g1,g5];simp,λd hd=>?_,?_,?_⟩
    ·grind
    ·show List.flatten bs++uR ds'=_
     rw[g3,g7];simp
    ·show _=wW p++CG ps
     rw[List.map_append,g4,g8]
theorem tR:∀ (l:List (Nat×Ent)),kI l=true->(l.map (·.1)).Nodup
 | [],_=>List.nodup_nil
 | (i,e)::r,h=>by
  simp only[kI,Bool.and_eq_true,Bool.not_eq_true'] at h
  rw[List.map_cons,List.nodup_cons]
  refine⟨λhx=>?_,tR r h.2⟩
  obtain⟨q,hq,e1⟩:=List.mem_map.1 hx
  rw[(iX i r).2 ⟨q,hq,e1⟩] at h
  grind
/-- Pinned elements were written by a call. -/
theorem Rel.wrote (R:Rel n0 ab rb w0 N t m a w loc ow) {w':World} (L:List Wr) (hk:Keep (·∈L.flatMap (·.b)) w w') (hsz:∀ b,b<w.heap.size->SizeLe w w' b) (hL:∀ d∈L,d.Ok m loc w w') (hn:(L.map (·.id)).Nodup)
  (hfree:∀ b,w.heap.size<=b->b<w'.heap.size->cO w' b) (hwr:∀ b∈L.flatMap (·.b),cO w' b):
  Rel n0 ab rb w0 N t (bQ m (L.map Wr.ent)) a w' loc ow:=by
 generalize hM:bQ m (L.map Wr.ent)=M
 have hone:=tH (·.id) L hn
 have hMa:∀ d∈L,M d.id= .pin d.ks d.new:=λd hd=>by
  rw[<- hM];exact mE _ _ (λp hp q hq e=>by
   obtain⟨x,hx,rfl⟩:=List.mem_map.1 hp
   obtain⟨y,hy,rfl⟩:=List.mem_map.1 hq
   rw[hone x hx y hy e]) d.ent (List.mem_map.2 ⟨d,hd,rfl⟩)
 have hMo:∀ j,(∀ d∈L,d.id≠j)->M j=m j:=λj h=>by
  rw[<- hM];refine cE _ _ _ λq hq=>?_
  obtain⟨x,hx,rfl⟩:=List.mem_map.1 hq
  exact h x hx
 have hblk:∀ d∈L,∀ z∈d.bl,dU (m d.id)=true/\(loc d.id).has z/\ow z=some d.id:=λd hd z hz=>by
  have h1:dU (m d.id)=true:=by rw[(hL d hd).m];rfl
  have h2:(loc d.id).has z:=by rw[(hL d hd).l];exact hz
  exact⟨h1,h2,(R.owner h1 h2).1⟩
 have hin:∀ z∈L.flatMap (·.b),∃ d∈L,z∈d.b/\z∈d.bl:=λz hz=>by
  obtain⟨d,hd,h⟩:=List.mem_flatMap.1 hz
  exact⟨d,hd,h,(hL d hd).sub z h⟩
 have hmut:∀ j,dU (M j)=dU (m j):=λj=>by
  by_cases h:∃ d∈L,d.id=j
  ·obtain⟨d,hd,rfl⟩:=h
   rw[hMa d hd,(hL d hd).m];rfl
  simp_all
 have hout:∀ b,b<w.heap.size->b∉L.flatMap (·.b)->w'.heap[b]? =w.heap[b]? :=λb h1 h2=>hk.block b h1 h2
 have h1:∀ b,Ok n0 ab m loc w b->Ok n0 ab M loc w' b/\w'.heap[b]? =w.heap[b]? :=λb hb=>by
  refine⟨⟨Nat.lt_of_lt_of_le hb.1 hk.size,fun⟨j,h3,h4⟩=>hb.2.1 ⟨j,by rw[<- hmut];omega,h4⟩,hb.2.2⟩,hout b hb.1 λhz=>?_⟩
  obtain⟨d,hd,_,h3⟩:=hin b hz
  obtain⟨h4,h5,_⟩:=hblk d hd b h3
  exact hb.2.1 ⟨d.id,h4,h5⟩
 have hpin:∀ d∈L,PinR w' d.ks d.new d.hv d.hd d.bl:=λd hd=>by
  refine(hL d hd).pin (λz hz hzb=>hout z (R.owner (hblk d hd z hz).1 (hblk d hd z hz).2.1).2 λhzf=>?_) λz hz=>hwr z (List.mem_flatMap.2 ⟨d,hd,hz⟩)
  grind
 have h2:∀ j,Goes (m j) (M j) (loc j) (loc j):=λj=>by
  by_cases h:∃ d∈L,d.id=j
  ·obtain⟨d,hd,rfl⟩:=h
   rw[hMa d hd,(hL d hd).m]
   refine .inr (.inr ⟨⟨d.new,rfl,?_⟩,rfl⟩)
   have hE:=R.ents d.id
   unfold EntR at hE
   rw[(hL d hd).m] at hE
   obtain⟨hv,hdd,bl,e,hp,_⟩:=hE
   rw[(hL d hd).l] at e
   cases e
   obtain⟨A,c,e1⟩:=hp.len
   obtain⟨A',c',e2⟩:=(hpin d hd).len
   rw[e1] at e2
   simp_all
  ·rw[hMo j λd hd e=>h ⟨d,hd,e⟩];exact Goes.refl _ _
 have hpk:∀ j,fM (m j)=true->fM (M j)=true:=λj hj=>by
  by_cases h:∃ d∈L,d.id=j
  ·obtain⟨d,hd,rfl⟩:=h
   rw[hMa d hd];rfl
  simp_all
 refine R.update ⟨hk.os.trans R.keep.os,hk.tape.trans R.keep.tape,hk.output.trans R.keep.output,Nat.le_trans R.keep.size hk.size,λb hb hr=>?_⟩ hk.size h1 h2 (λj=>?_) (λb j hj=>Nat.lt_of_lt_of_le (R.owlt b j hj) hk.size) (λj b hj hb=>R.mutrb j b (by rw[<- hmut];omega) hb) (λb _ hb=>?_) (λj _ hj=> .inl ⟨?_,rfl⟩) (λj h3 h4=>by rw[hpk j h3] at h4;grind) hsz
 ·have hlt:=Nat.lt_of_lt_of_le hb R.keep.size
  rw[hout b hlt,R.keep.block b hb hr]
  intro hz
  obtain⟨d,hd,_,h3⟩:=hin b hz
  obtain⟨h4,h5,_⟩:=hblk d hd b h3
  rcases R.mutrb d.id b h4 h5 with h | h
  ·rw[R.hn0] at h;omega
  simp_all
 ·by_cases h:∃ d∈L,d.id=j
  ·obtain⟨d,hd,rfl⟩:=h
   left
   unfold EntR
   rw[hMa d hd]
   exact⟨d.hv,d.hd,d.bl,(hL d hd).l,hpin d hd,λz hz=>(hblk d hd z hz).2.2⟩
  ·right
   have h':∀ d∈L,d.id≠j:=λd hd e=>h ⟨d,hd,e⟩
   refine⟨hMo j h',rfl,λb hm hb=>?_,λ_ b hb=>hb⟩
   obtain⟨o1,o2⟩:=R.owner hm hb
   grind
 ·grind
 ·by_cases h:∃ d∈L,d.id=j
  ·obtain⟨d,hd,rfl⟩:=h
   rw[(hL d hd).m];rfl
  simp_all
end
end Go.Abs
/- Calls where slices are pinned: results; the call. -/
namespace Go.Abs
open Go
def Ad.bl(d:Ad):List Nat:=d.l.blk.toList++List.flatten d.bss
def Ad.hd(w:World)(d:Ad)(i j:Nat):Value:=match d.l with
 | .at_ b o _=>(w.cell? ⟨b,o+i*d.ks.length+j,none⟩).getD undef
 | _=>undef
def Ad.loc(w:World)(d:Ad):Loc:= .pin (d.l.val (List.length d.xs)) (d.hd w) d.bl
theorem Ad.pinR{w:World}{d:Ad}(h:OwnAt w d.ks d.xs d.l d.bss)(hn:d.bl.Nodup)(hw:∀ b∈d.bl,cO w b):PinR w d.ks d.xs (d.l.val (List.length d.xs)) (d.hd w) d.bl:=by
 refine⟨?_,λb o l c e i j ks' hi hj=>?_,hn,hw⟩
 ·by_cases hx:d.xs=[]
  ·unfold Ad.bl
   cases hl:d.l with
   | nil=>
    rw[hl] at h
    rw[h.2,hx];exact⟨none,0,rfl,Nat.le_refl _,.inl ⟨rfl,rfl⟩⟩
   | at_ b o c=>
    rw[hl] at h
    obtain⟨cs,T,fz,_,_,_,hc,hbl,_⟩:=h
    refine⟨_,c,rfl,hc,.inr ⟨b,o,d.bss,rfl,hbl,rfl,λi r bb hi=>?_⟩⟩
    rw[hx] at hi;simp_all
   | pin _ _ _=>rw[hl] at h;exact h.elim
  ·obtain⟨bs,hT,hb⟩:=n9 h
   rcases hb with ⟨_,hx'⟩ | ⟨b,o,c,hl,rfl⟩
   ·simp_all
   ·have hb:d.bl=b::List.flatten d.bss:=by
     unfold Ad.bl
     rw[hl];rfl
    rw[hb];omega
 ·cases hl:d.l with
  | nil=>rw[hl] at e;cases e
  | pin _ _ _=>rw[hl] at h;exact h.elim
  | at_ b' o' c'=>
   rw[hl] at e h
   cases e
   obtain⟨cs,T,fz,hh,_,_,_,hbl,hr⟩:=h
   have hib:i<d.bss.length:=by omega
   obtain⟨us,hrr,hus⟩:=hr i d.xs[i] d.bss[i] (List.getElem?_eq_getElem hi) (List.getElem?_eq_getElem hib)
   have hul:=RR.length _ _ _ _ hrr
   have hjl:j<us.length:=by rw[hul];grind
   have hc:w.cell? ⟨b,o+i*d.ks.length+j,none⟩=some us[j]:=by
    rw[iZ hh];grind
   have:d.hd w i j=us[j]:=by
    unfold Ad.hd
    rw[hl]
    simp_all
   rw[hc,this]
section
variable {P:Program} {E:Env} (hT:TOk P E.ti)
variable {n0:Nat} {ab rb:Nat->Prop} {w0:World} {N:Fix} {t:Nat->AVal} {m:Mem} {a:Act} {w:World} {loc:Nat->Loc} {ow:Nat->Option Nat}
def Ad.pent(d:Ad):Nat×Ent:=(d.id,.pin d.ks d.xs)
open Classical in
theorem Rel.adopted (R:Rel n0 ab rb w0 N t m a w loc ow) {w':World} (hk:Keep (·∈([]:List Nat)) w w') (AD:List Ad)
  (hids:∀ d∈AD,∀ d'∈AD,d.id=d'.id->d=d') (hnone:∀ d∈AD,m d.id= .none) (hpin:∀ d∈AD,PinR w' d.ks d.xs (d.l.val (List.length d.xs)) (d.hd w') d.bl)
  (hnew:∀ d∈AD,∀ b∈d.bl,w.heap.size<=b/\b<w'.heap.size) (hun:∀ d∈AD,∀ d'∈AD,∀ b,b∈d.bl->b∈d'.bl->d.id=d'.id)
  (hfree:∀ b,w.heap.size<=b->b<w'.heap.size->cO w' b) (hcp:∀ d∈AD,OJ w' (.pin d.ks d.xs) (d.loc w')):
  ∃ loc' ow',Rel n0 ab rb w0 N t (bQ m (AD.map Ad.pent)) a w' loc' ow'/\∀ d∈AD,bQ m (AD.map Ad.pent) d.id= .pin d.ks d.xs/\loc' d.id=d.loc w':=by
 generalize hM:bQ m (AD.map Ad.pent)=M
 have hMa:∀ d∈AD,M d.id= .pin d.ks d.xs:=λd hd=>by
  rw[<- hM];exact mE _ _ (λp hp q hq e=>by
   obtain⟨x,hx,rfl⟩:=List.mem_map.1 hp
   obtain⟨y,hy,rfl⟩:=List.mem_map.1 hq
   rw[hids x hx y hy e]) d.pent (List.mem_map.2 ⟨d,hd,rfl⟩)
 have hMo:∀ j,(∀ d∈AD,d.id≠j)->M j=m j:=λj h=>by
  rw[<- hM];refine cE _ _ _ λq hq=>?_
  obtain⟨x,hx,rfl⟩:=List.mem_map.1 hq
  exact h x hx
 let loc':Nat->Loc:=λj=>if h:∃ d∈AD,d.id=j then h.choose.loc w' else loc j
 have hla:∀ d∈AD,loc' d.id=d.loc w':=by
  intro d hd
  have h:∃ d'∈AD,d'.id=d.id:=⟨d,hd,rfl⟩
  grind
 have hlo:∀ j,(∀ d∈AD,d.id≠j)->loc' j=loc j:=λj h=>dif_neg fun⟨d,hd,e⟩=>h d hd e
 let ow':Nat->Option Nat:=λb=>if h:∃ d∈AD,b∈d.bl then some h.choose.id else ow b
 have howa:∀ d∈AD,∀ b∈d.bl,ow' b=some d.id:=by
  intro d hd b hb
  have h:∃ d∈AD,b∈d.bl:=⟨d,hd,hb⟩
  grind
 have howo:∀ b,b<w.heap.size->ow' b=ow b:=by
  grind
 have hmut:∀ j b,dU (M j)=true->(loc' j).has b->(∃ d∈AD,d.id=j/\b∈d.bl)\/(dU (m j)=true/\(loc j).has b/\∀ d∈AD,d.id≠j):=by
  intro j b h1 h2
  by_cases hj:∃ d∈AD,d.id=j
  ·obtain⟨d,hd,rfl⟩:=hj
   rw[hla d hd] at h2
   exact .inl ⟨d,hd,rfl,h2⟩
  simp_all
 have hheap:∀ b,b<w.heap.size->w'.heap[b]? =w.heap[b]? :=λb h1=>hk.block b h1 (by simp)
 have h1:∀ b,Ok n0 ab m loc w b->Ok n0 ab M loc' w' b/\w'.heap[b]? =w.heap[b]? :=by
  intro b hb
  refine⟨⟨Nat.lt_of_lt_of_le hb.1 hk.size,fun⟨j,h3,h4⟩=>?_,hb.2.2⟩,hheap b hb.1⟩
  rcases hmut j b h3 h4 with ⟨d,hd,_,h5⟩ | ⟨h5,h6,_⟩
  ·have:=(hnew d hd b h5).1;have:=hb.1;omega
  ·exact hb.2.1 ⟨j,h5,h6⟩
 have h2:∀ j,Goes (m j) (M j) (loc j) (loc' j):=by
  intro j
  by_cases hj:∃ d∈AD,d.id=j
  ·obtain⟨d,hd,rfl⟩:=hj
   rw[hnone d hd];trivial
  ·have hj':∀ d∈AD,d.id≠j:=λd hd e=>hj ⟨d,hd,e⟩
   rw[hlo j hj',hMo j hj'];exact Goes.refl _ _
 have hpk:∀ j,fM (m j)=true->fM (M j)=true:=λj hj=>by
  by_cases h:∃ d∈AD,d.id=j
  ·obtain⟨d,hd,rfl⟩:=h
   rw[hMa d hd];rfl
  simp_all
 refine⟨loc',ow',R.update ⟨hk.os.trans R.keep.os,hk.tape.trans R.keep.tape,hk.output.trans R.keep.output,Nat.le_trans R.keep.size hk.size,λb hb hn=>?_⟩ hk.size h1 h2 (λj=>?_) (λb j hj=>?_) (λj b hj hb=>?_) (λb _ hb=>?_) (λj _ hj=>?_) (λj h3 h4=>by rw[hpk j h3] at h4;grind) (λb hb=>SizeLe.same (hheap b hb)),λd hd=>⟨hMa d hd,hla d hd⟩⟩
 ·rw[hheap b (Nat.lt_of_lt_of_le hb R.keep.size),R.keep.block b hb hn]
 ·by_cases hj:∃ d∈AD,d.id=j
  ·obtain⟨d,hd,rfl⟩:=hj
   left
   unfold EntR
   rw[hMa d hd]
   exact⟨_,_,_,hla d hd,hpin d hd,howa d hd⟩
  ·right
   have hj':∀ d∈AD,d.id≠j:=λd hd e=>hj ⟨d,hd,e⟩
   refine⟨hMo j hj',hlo j hj',λb hm hb=>hheap b (R.owner hm hb).2,λhm b hb=>?_⟩
   rw[howo b (R.owlt b j hb)];omega
 ·by_cases h:∃ d∈AD,b∈d.bl
  ·grind
  ·have e:ow' b=ow b:=dif_neg h
   rw[e] at hj
   exact Nat.lt_of_lt_of_le (R.owlt b j hj) hk.size
 ·rcases hmut j b hj hb with ⟨d,hd,_,h4⟩ | ⟨h4,h5,_⟩
  ·have:=(hnew d hd b h4).1;have:=R.le;omega
  ·exact R.mutrb j b h4 h5
 ·grind
 ·by_cases h:∃ d∈AD,d.id=j
  ·obtain⟨d,hd,rfl⟩:=h
   right
   rw[hla d hd,hMa d hd]
   exact⟨λb hb=>by have h1:=(hnew d hd b hb).1;have:=R.le;omega,hcp d hd⟩
  simp_all
theorem Ad.cap{w:World}{d:Ad}(h:OwnAt w d.ks d.xs d.l d.bss):OJ w (.pin d.ks d.xs) (d.loc w):=by
 unfold Ad.loc Ad.bl
 cases hl:d.l with
 | nil=>exact .inl rfl
 | pin _ _ _=>rw[hl] at h;exact h.elim
 | at_ b o c=>
  rw[hl] at h
  obtain⟨cs,T,fz,h1,_,h2,_⟩:=h
  exact .inr ⟨b,o,_,c,rfl,List.mem_cons_self ..,cs,T,fz,h1,h2⟩
def npL:Leaf->Prop
 | .psl _ _ _=>False
 | .pptr _ _ _ _ _ _=>False
 | .vw _ _ _=>False
 | _=>True
def npV:AVal->Prop
 | .one l=>npL l
 | .agg ls=>∀ l∈ls,npL l
 | _=>True
theorem pL(fr:Bool):∀ (ks:List Kd) (id:Nat) (x:Row ks),∀ l∈(gX fr id ks x).1,npL l
 | [],id,x,l,hl=>by cases hl
 | .sl ks'::ks,id,x,l,hl=>by
  have ih:=pL fr ks (id+1) x.2
  cases fr with
  | true=>
   rcases List.mem_cons.1 (show l∈Leaf.own id::(gX true (id+1) ks x.2).1 from hl)with rfl | hl
   ·trivial
   simp_all
  | false=>
   rcases List.mem_cons.1 (show l∈Leaf.v (.sl ks') x.1::(gX false (id+1) ks x.2).1 from hl)with rfl | hl
   ·trivial
   simp_all
 | .int k::ks,id,x,l,hl=>by
  rcases List.mem_cons.1 (show l∈Leaf.v (.int k) x.1::(gX fr (id+1) ks x.2).1 from hl)with rfl | hl
  ·trivial
  ·exact pL fr ks (id+1) x.2 l hl
 | .bool::ks,id,x,l,hl=>by
  rcases List.mem_cons.1 (show l∈Leaf.v .bool x.1::(gX fr (id+1) ks x.2).1 from hl)with rfl | hl
  ·trivial
  ·exact pL fr ks (id+1) x.2 l hl
 | .str::ks,id,x,l,hl=>by
  rcases List.mem_cons.1 (show l∈Leaf.v .str x.1::(gX fr (id+1) ks x.2).1 from hl)with rfl | hl
  ·trivial
  ·exact pL fr ks (id+1) x.2 l hl
 | .fn::ks,id,x,l,hl=>by
  rcases List.mem_cons.1 (show l∈Leaf.v .fn x.1::(gX fr (id+1) ks x.2).1 from hl)with rfl | hl
  ·trivial
  ·exact pL fr ks (id+1) x.2 l hl
theorem QA{agg:Bool}{ls:List Leaf}{v:AVal}(h:rH agg ls=some v)(hl:∀ l∈ls,npL l):npV v:=by
 unfold rH at h
 split at h
 ·cases h;exact hl
 ·split at h
  ·cases h;exact hl _ (List.mem_singleton.2 rfl)
  simp_all
theorem xV(fr:Bool):∀ (rt:List (Bool×List Kd)) (id:Nat) (x:Rows (rt.map (·.2))) (vs:List AVal) (w:List (Nat×Ent)),lY fr id rt x=some (vs,w)->∀ v∈vs,npV v
 | [],id,x,vs,w,h,v,hv=>by unfold lY at h;simp_all
 | (agg,ks)::rt,id,x,vs,w,h,v,hv=>by
  simp only[lY,Option.bind_eq_some_iff] at h
  obtain⟨v0,hv0,⟨vs',w'⟩,hvs,hh⟩:=h
  cases hh
  rcases List.mem_cons.1 hv with rfl | hv
  ·exact QA hv0 (pL fr ks id x.1)
  ·exact xV fr rt _ _ vs' w' hvs v hv
/-- Entries told as pinned. -/
theorem LR.toPin{m1 m2:Mem}{l1 l2:Nat->Loc}{ok:Nat->Prop}(h:∀ id,m1 id= .none\/∃ ks xs d o hd bl,m1 id= .arr ks xs d o/\m2 id= .pin ks xs/\l2 id= .pin ((l1 id).val (List.length xs)) hd bl):
  ∀ (l:Leaf) (u:Value),npL l->LR m1 l1 ok w l u->LR m2 l2 ok w l u
 | .v k x,u,_,h1=>h1
 | .nil,u,_,h1=>h1
 | .any,u,_,h1=>h1
 | .hdr n,u,_,h1=>h1
 | .rptr ks r off,u,_,h1=>h1
 | .own id,u,_,h1=>by
  simp only[LR] at h1 ⊢
  rcases h id with e | ⟨ks,xs,d,o,hd,bl,e1,e2,e3⟩
  ·rw[e] at h1;simp_all
  ·rw[e1] at h1
   rw[e2]
   show u=(l2 id).val (List.length xs)
   rw[e3,Loc.val_pin (Loc.val_one _ _)];omega
 | .ptr id off,u,_,h1=>by
  simp only[LR] at h1
  grind
 | .eptr id i off,u,_,h1=>by
  simp only[LR] at h1 ⊢
  rcases h id with e | ⟨ks,xs,d,o,hd,bl,e1,e2,e3⟩
  ·rw[e] at h1;simp_all
  ·rw[e1] at h1
   rw[e2]
   obtain⟨k1,b,o2,c,k2,k3⟩:=h1
   exact⟨k1,b,o2,List.length xs,c,hd,bl,by rw[e3,k2];rfl,k3⟩
 | .psl id i off,u,hn,h1=>hn.elim
 | .pptr id q f d j o,u,hn,h1=>hn.elim
 | .vw id l h,u,hn,h1=>hn.elim
theorem LRs.toPin{m1 m2:Mem}{l1 l2:Nat->Loc}{ok:Nat->Prop}(h:∀ id,m1 id= .none\/∃ ks xs d o hd bl,m1 id= .arr ks xs d o/\m2 id= .pin ks xs/\l2 id= .pin ((l1 id).val (List.length xs)) hd bl):
  ∀ (ls:List Leaf) (us:List Value),(∀ l∈ls,npL l)->LRs m1 l1 ok w ls us->LRs m2 l2 ok w ls us
 | [],us,_,h1=>h1
 | l::ls,us,hn,⟨u,us',e,h1,h2⟩=>⟨u,us',e,LR.toPin h l u (hn l (List.mem_cons_self ..)) h1,LRs.toPin h ls us' (λl hl=>hn l (List.mem_cons_of_mem _ hl)) h2⟩
theorem VR1.toPin {m1 m2:Mem} {l1 l2:Nat->Loc} {ok:Nat->Prop} (h:∀ id,m1 id= .none\/∃ ks xs d o hd bl,m1 id= .arr ks xs d o/\m2 id= .pin ks xs/\l2 id= .pin ((l1 id).val (List.length xs)) hd bl)
  (v:AVal) (u:Value) (hn:npV v) (h1:VR1 m1 l1 ok w v u):VR1 m2 l2 ok w v u:=by
 cases v with
 | one l=>exact LR.toPin h l u hn h1
 | agg ls=>
  obtain⟨us,e,h1⟩:=h1
  exact⟨us,e,LRs.toPin h ls us hn h1⟩
 | tup _=>exact h1
 | undef=>exact h1
 | anyv=>trivial
/-- A row by value, out of pinned entries. -/
theorem Rel.valAt(R:Rel n0 ab rb w0 N t m a w loc ow){k:Kd}{l:Leaf}{x:k.T}{p:Option Pth}{tr:List Nat}(h:Does m (Abs.pinAt false k l) (x,p) tr){u:Value}(hu:LR m loc (Ok n0 ab m loc w) w l u):
  ∃ b,TR w k x u b/\∀ z∈b,z<w.heap.size:=by
 unfold Abs.pinAt at h
 split at h
 ·rename_i k' y
  rw[if_neg (by simp)] at h
  obtain⟨z,hz,h'⟩:=h;replace h:=h';clear h'
  obtain⟨e,_⟩:=h
  cases e
  obtain⟨rfl,rfl⟩:=jL hz
  obtain⟨bs,hTR,hb⟩:=hu
  exact⟨bs,hTR,λz hz=>(hb z hz).1⟩
 ·split at h
  ·obtain⟨e,_⟩:=h
   cases e
   have:u= .slice none 0 0:=hu
   subst this
   exact⟨[],⟨none,0,rfl,Nat.le_refl _,.inl ⟨rfl,rfl⟩⟩,λz hz=>by grind⟩
  ·exact h.elim
 ·rename_i id
  split at h
  case h_2=>exact h.elim
  rename_i ks
  obtain⟨tr',_,h'⟩:=h;replace h:=h';clear h'
  have hE:=R.ents id
  simp only[LR] at hu
  unfold EntR at hE
  cases hm:m id with
  | pin ks' xs=>
   rw[hm] at hE h hu
   dsimp only at hu h
   obtain⟨z,hz,h'⟩:=h;replace h:=h';clear h'
   obtain⟨e,_⟩:=h
   cases e
   obtain⟨e1,e2⟩:=jL hz
   cases e1
   subst e2
   obtain⟨hv,hd,bl,hl,hp,hw⟩:=hE
   rw[hl,Loc.val_pin (TR.one _ _ _ _ hp.1)] at hu
   subst hu
   exact⟨bl,hp.1,λz hz=>R.owlt z id (hw z hz)⟩
  | arr ks' xs d o=>
   rw[hm] at hE h hu
   dsimp only at hu h
   rw[if_neg (by simp)] at h
   obtain⟨z,hz,h'⟩:=h;replace h:=h';clear h'
   obtain⟨e,_⟩:=h
   cases e
   obtain⟨e1,e2⟩:=jL hz
   cases e1
   subst e2
   obtain⟨bss,hown,hok,hblk,_⟩:=hE
   obtain⟨bs,hTR,hbs⟩:=n9 hown
   subst hu
   refine⟨bs,hTR,λz hz=>?_⟩
   rcases hbs with ⟨rfl,_⟩ | ⟨b0,off,c,hl,rfl⟩
   ·grind
   ·rcases List.mem_cons.1 hz with rfl | hz
    ·exact(hblk z (by rw[hl];rfl)).2.1
    ·obtain⟨bb,hbb,hb⟩:=List.mem_flatten.1 hz
     exact(hok bb hbb z hb).1
  | _=>rw[hm] at h;exact h.elim
 ·rename_i id i off
  split at h
  case h_2=>exact h.elim
  rename_i ks
  obtain⟨tr',_,h'⟩:=h;replace h:=h';clear h'
  have hE:=R.ents id
  simp only[LR] at hu
  unfold EntR at hE
  cases hm:m id with
  | pin K X=>
   rw[hm] at hE h hu
   dsimp only at hu h
   obtain⟨r0,hr0,y,hy,h'⟩:=h;replace h:=h';clear h'
   obtain⟨e,_⟩:=h
   cases e
   obtain⟨hv,hd,bl,hl,hp,hw⟩:=hE
   obtain⟨⟨hv',hd',bl',hl',rfl⟩,_⟩:=hu
   rw[hl] at hl';cases hl'
   obtain⟨b,g1,g2,g3,g4⟩:=hp.sub hr0 hy
   exact⟨b,g3,λz hz=>R.owlt z id (hw z (g1 z hz))⟩
  | _=>rw[hm] at h;exact h.elim
 ·exact h.elim
theorem Rel.valRow(R:Rel n0 ab rb w0 N t m a w loc ow):∀ (ks:List Kd) (ls:List Leaf) (x:Row ks) (ps:List (Option Pth)) (tr:List Nat),Does m (Abs.pinRow false ks ls) (x,ps) tr->
  ∀ us,LRs m loc (Ok n0 ab m loc w) w ls us->∃ bs,RR w ks x us bs/\∀ z∈bs,z<w.heap.size
 | [],[],x,ps,tr,h,us,hu=>by
  obtain⟨e,_⟩:=h;cases e
  exact⟨[],⟨hu,rfl⟩,λz hz=>by grind⟩
 | k::ks,l::ls,x,ps,tr,h,us,⟨u,us',e,hl,hs⟩=>by
  unfold Abs.pinRow at h
  obtain⟨⟨y,p⟩,t1,t2,_,h1,h2⟩:=Does.bind _ _ h
  obtain⟨⟨r,ps'⟩,t3,t4,_,h3,h4⟩:=Does.bind _ _ h2
  obtain⟨e4,_⟩:=h4
  cases e4
  obtain⟨b,q1,q2⟩:=R.valAt h1 hl
  obtain⟨bs,g1,g2⟩:=Rel.valRow R ks ls r ps' t3 h3 us' hs
  refine⟨b++bs,⟨u,us',b,bs,e,rfl,q1,g1⟩,λz hz=>?_⟩
  grind
 | [],_::_,_,_,_,h,_,_=>h.elim
 | _::_,[],_,_,_,h,_,_=>h.elim
include hT in
theorem uS(R:Rel n0 ab rb w0 N t m a w loc ow):∀ (ts:List Nat) (xs:List AVal) (as:List Arg) (ps:List (List Kd×List (Option Pth))) (tr:List Nat),Does m (s8 E false ts xs) (as,ps) tr->
  ∀ vs:List Value,vs.length=xs.length->(∀ (i:Nat) (x:AVal) (v:Value),xs[i]? =some x->vs[i]? =some v->VR m loc (Ok n0 ab m loc w) w x v)->
  ∃ bs,y8 w as vs bs []/\(∀ z∈bs,z<w.heap.size)/\noOwn as=true
 | [],[],as,ps,tr,h,vs,hl,hv=>by
  obtain⟨e,_⟩:=h;cases e
  have:vs=[]:=List.eq_nil_of_length_eq_zero hl
  subst this
  exact⟨[],⟨rfl,rfl,rfl⟩,(λz hz=>by grind),rfl⟩
 | ty::ts,x::xs,as,ps,tr,h,v::vs,hl,hv=>by
  unfold s8 at h
  obtain⟨i,T,_,h'⟩:=cB hT h;replace h:=h';clear h'
  obtain⟨ls,hls,h'⟩:=lE h;replace h:=h';clear h'
  have hx:=hv 0 x v rfl rfl
  obtain⟨⟨r,p⟩,t1,t2,_,h1,h2⟩:=Does.bind _ _ h
  obtain⟨⟨as',ps'⟩,t3,t4,_,h3,h4⟩:=Does.bind _ _ h2
  obtain⟨bs',k1,k2,k3⟩:=uS R ts xs as' ps' t3 h3 vs (by simp_all) (λi x v h1 h2=>hv (i+1) x v (by simp_all) (by simp_all))
  obtain⟨us,hs,hL⟩:=rX hx hls
  obtain⟨bs,q1,q2⟩:=R.valRow i.kinds ls r p t1 h1 us hL
  dsimp only at h4
  rw[if_neg (by simp)] at h4
  obtain⟨e,_⟩:=h4
  cases e
  refine⟨bs++bs',⟨v,vs,bs,bs',[],[],rfl,rfl,rfl,⟨rfl,us,hs,q1⟩,k1⟩,λz hz=>?_,k3⟩
  grind
 | ty::ts,x::xs,as,ps,tr,h,[],hl,hv=>by grind
 | [],_::_,_,_,_,h,_,_,_=>h.elim
 | _::_,[],_,_,_,h,_,_,_=>h.elim
theorem tB:∀ (ks:List Kd) (x:Row ks) (ps:List (Option Pth)) (wr:List (Nat×Ent)) (tr:List Nat),Does m (nL ks x ps) wr tr->wr.map (·.1)=wW ps
 | [],x,[],wr,tr,h=>by obtain⟨e,_⟩:=h;subst e;rfl
 | [],x,_::_,wr,tr,h=>h.elim
 | k::ks,x,[],wr,tr,h=>by cases k<;>exact h.elim
 | k::ks,x,none::ps,wr,tr,h=>by
  have h':Does m (nL ks x.2 ps) wr tr:=by cases k<;>exact h
  exact tB ks x.2 ps wr tr h'
 | .sl ks'::ks,x,some (.top id)::ps,wr,tr,h=>by
  unfold nL at h
  obtain⟨w1,t1,t2,_,h1,h2⟩:=Does.bind _ _ h
  obtain⟨e,_⟩:=h2
  subst e
  rw[List.map_cons,tB ks x.2 ps w1 t1 h1];rfl
 | .sl ks'::ks,x,some (.sub id i off)::ps,wr,tr,h=>by
  unfold nL at h
  obtain⟨tr',_,h'⟩:=h;replace h:=h';clear h'
  dsimp only at h
  split at h
  case h_2=>exact h.elim
  obtain⟨r0,hr0,r1,hr1,h'⟩:=h;replace h:=h';clear h'
  obtain⟨w1,t1,t2,_,h1,h2⟩:=Does.bind _ _ h
  obtain⟨e,_⟩:=h2
  subst e
  rw[List.map_cons,tB ks x.2 ps w1 t1 h1];rfl
 | .int _::ks,x,some _::ps,wr,tr,h=>by rename_i p;cases p<;>exact h.elim
 | .bool::ks,x,some _::ps,wr,tr,h=>by rename_i p;cases p<;>exact h.elim
 | .str::ks,x,some _::ps,wr,tr,h=>by rename_i p;cases p<;>exact h.elim
 | .fn::ks,x,some _::ps,wr,tr,h=>by rename_i p;cases p<;>exact h.elim
theorem CU:∀ (ps:List (List Kd×List (Option Pth))) (y:Rows (ps.map (·.1))) (wr:List (Nat×Ent)) (tr:List Nat),Does m (CV ps y) wr tr->wr.map (·.1)=CG ps
 | [],y,wr,tr,h=>by obtain⟨e,_⟩:=h;subst e;rfl
 | (ks,p)::ps,y,wr,tr,h=>by
  replace h:Does m ((nL ks y.1 p).bind λw=>(CV ps y.2).bind λw'=> .ret (w++w')) wr tr:=h
  obtain⟨wa,t1,t2,_,h3,h4⟩:=Does.bind _ _ h
  obtain⟨wb,t3,t4,_,h5,h6⟩:=Does.bind _ _ h4
  obtain⟨e3,_⟩:=h6
  subst e3
  rw[List.map_append,tB _ _ _ _ _ h3,CU ps y.2 wb t3 h5];rfl
theorem EA{ok:Nat->Prop}{vals:List AVal}{us:List Value}(hl:us.length=vals.length)(h:∀ (i:Nat) (v:AVal) (u:Value),vals[i]? =some v->us[i]? =some u->VR1 m loc ok w v u):VR m loc ok w (y9 vals) (rS us):=by
 match vals,us,hl,h with
 | [v1],[u1],_,h=>
  have:=h 0 v1 u1 rfl rfl
  cases v1 with
  | tup _=>exact this.elim
  | _=>exact this
 | [],[],_,h=>exact⟨[],rfl,rfl,λi x y hx=>by simp⟩
 | v1::v2::vr,u1::u2::ur,hlen,h=>exact⟨_,rfl,hlen,h⟩
include hT in
theorem KF (R:Rel n0 ab rb w0 N t m a w loc ow) {d g:Nat} {rts:Nat->Option (List Nat)} {tys:List Nat} {xs:List AVal} {e:Eff} {tr:List Nat} (h:Does m (KG E d rts g tys xs) e tr)
  (hC:∀ as out,E.call g as=some out->lZ P E.ti rts E.fresh g as out) (vs:List Value) (hl:vs.length=xs.length) (hv:∀ (i:Nat) (x:AVal) (v:Value),xs[i]? =some x->vs[i]? =some v->VR m loc (Ok n0 ab m loc w) w x v):
  (∃ fn,P.funcs[g]? =some fn/\fn.name≠ "runtime.NumGoroutine" /\fn.body.isNone=false)/\Calls P g vs.toArray w λen w'=>∃ v,en= .returned v/\Post n0 ab rb w0 N t m a e v w':=by
 unfold KG at h
 split at h
 ·exact h.elim
 rename_i rt hrt
 have hrt':∀ (E':Env),E'.ti=E.ti->(rts g).bind (dI E')=some rt:=λE' hE'=>by
  rw[<- hrt]
  cases rts g with
  | none=>rfl
  | some l=>
   show dI _ l=dI E l
   apply gK;omega
 split at h
 case isFalse=>exact h.elim
 rename_i hfresh
 split at h
 ·-- what is handed over is written
  obtain⟨⟨as,ps⟩,t1,t2,_,h1,h2⟩:=Does.bind _ _ h
  obtain⟨o,ho,h3⟩:=h2
  obtain⟨out,hout,hcast⟩:=Option.bind_eq_some_iff.1 ho
  obtain⟨x,hx,hcast2⟩:=Option.bind_eq_some_iff.1 hcast
  obtain⟨y,hy,hoo⟩:=Option.bind_eq_some_iff.1 hcast2
  cases hoo
  dsimp only at h3
  split at h3
  ·exact h3.elim
  rename_i hno
  split at h3
  case h_2=>exact h3.elim
  rename_i vals w2 had
  obtain⟨wr,t3,t4,_,h4,h5⟩:=Does.bind _ _ h3
  split at h5
  case isFalse=>exact h5.elim
  rename_i hone
  obtain⟨rfl,_⟩:=h5
  obtain⟨ds,hA,hAll,hG⟩:=CD hT R tys xs as ps t1 h1 vs hl hv
  have hfz:=hC as out hout
  unfold lZ at hfz
  rw[if_neg hno] at hfz
  obtain⟨hfn,hcall⟩:=hfz
  refine⟨hfn,?_⟩
  have hids:(CG ps).Nodup:=by rw[<- CU ps y wr t3 h4];exact tR wr hone
  have hcall:=hcall rt (hrt' _ rfl) vs ds w hA (λb hb=>by
   obtain⟨i,_,hi⟩:=hG.own b hb
   exact⟨R.owlt b i hi,hG.wr b hb⟩) (hG.nd hids)
  refine Calls.mono hcall ?_
  rintro en w' ⟨v,rfl,hk,hsz,hfree,hwr,⟨us,hvv,hres⟩,hown⟩
  refine⟨v,rfl,?_⟩
  obtain⟨L,g1,g2,g3,g4⟩:=zY (w:=w) (loc:=loc) ps y wr t3 ds as out.refs h4 hy hAll hown
  rw[g3] at hk hwr
  have R':=R.wrote L hk hsz g2 (by rw[g4];omega) hfree hwr
  rw[<- g1] at R'
  refine⟨loc,ow,R',?_⟩
  obtain⟨AD,a1,a2,a3,a4,a5,a6,a7,a8⟩:=kB false rt (d*32) x vals w2 out.res us [] [] hx had hres
  have hAD:=a2 rfl
  subst hAD
  subst hvv
  exact EA a7 (a8 _ _ _ (λd hd=>by grind) λ_ b hb=>by grind)
 ·obtain⟨⟨as,ps⟩,t1,t2,_,h1,h2⟩:=Does.bind _ _ h
  obtain⟨o,ho,h3⟩:=h2
  obtain⟨out,hout,hcast⟩:=Option.bind_eq_some_iff.1 ho
  obtain⟨x,hx,hcast2⟩:=Option.bind_eq_some_iff.1 hcast
  obtain⟨y,hy,hoo⟩:=Option.bind_eq_some_iff.1 hcast2
  cases hoo
  dsimp only at h3
  split at h3
  case h_2=>exact h3.elim
  rename_i vals w2 had
  obtain⟨hnone,tr',h4,_⟩:=jJ _ _ h3
  obtain⟨rfl,_⟩:=h4
  obtain⟨bs,hA,hbs,hno⟩:=uS hT R tys xs as ps t1 h1 vs hl hv
  have hfz:=hC as out hout
  unfold lZ at hfz
  rw[if_pos hno] at hfz
  obtain⟨hfn,hcall⟩:=hfz
  refine⟨hfn,?_⟩
  have hcall:=hcall rt (hrt' _ rfl) vs bs [] w hA (λb hb=>⟨hbs b hb,by simp⟩) (λb hb=>by grind) List.nodup_nil
  refine Calls.mono hcall ?_
  rintro en w' ⟨v,rfl,⟨hk,hsz,hfree,us,ts,ins,B,hvv,hres,hrefs,hB,hins,hts,hfr⟩,_⟩
  refine⟨v,rfl,?_⟩
  rw[hfresh] at hres hins hfr
  obtain⟨AD,a1,a2,a3,a4,a5,a6,a7,a8⟩:=kB true rt (d*32) x vals w2 out.res us ts ins hx had hres
  obtain⟨nd1,nd2⟩:=hfr rfl
  rw[a3] at nd1
  rw[a4 rfl] at nd2
  have htop:∀ d∈AD,∀ b∈d.l.blk.toList,b∈ts:=λd hd b hb=>by rw[a3];exact List.mem_flatMap.2 ⟨d,hd,hb⟩
  have hinn:∀ d∈AD,∀ b∈List.flatten d.bss,b∈ins:=λd hd b hb=>by rw[a4 rfl];exact List.mem_flatMap.2 ⟨d,hd,hb⟩
  have hbl:∀ d∈AD,∀ b∈d.bl,b∈d.l.blk.toList\/b∈List.flatten d.bss:=λd hd b hb=>by
   exact List.mem_append.1 hb
  have hnew:∀ d∈AD,∀ b∈d.bl,w.heap.size<=b/\b<w'.heap.size:=λd hd b hb=>by
   grind
  have hnd:∀ d∈AD,d.bl.Nodup:=λd hd=>by
   refine List.nodup_append.2 ⟨by cases d.l.blk<;>simp,qU _ AD nd2 d hd,λx hx y hy e=>?_⟩
   grind
  have hun:∀ d∈AD,∀ d'∈AD,∀ b,b∈d.bl->b∈d'.bl->d.id=d'.id:=λd hd d' hd' b hb hb'=>by
   rcases hbl d hd b hb with h | h<;>rcases hbl d' hd' b hb' with h' | h'
   ·rw[gE _ AD nd1 d hd d' hd' b h h']
   ·grind
   ·grind
   ·rw[gE _ AD nd2 d hd d' hd' b h h']
  obtain⟨loc',ow',R',hM⟩:=R.adopted hk AD a5.one (λd hd=>hnone d.ent (by rw[a1];grind))
   (λd hd=>Ad.pinR (a6 d hd).2 (hnd d hd) λb hb=>hfree b (hnew d hd b hb).1 (hnew d hd b hb).2) hnew hun hfree λd hd=>Ad.cap (a6 d hd).2
  have hw2:w2.map toPin=AD.map Ad.pent:=by
   rw[a1,List.map_map];rfl
  rw[<- hw2] at R' hM
  refine⟨loc',ow',R',?_⟩
  subst hvv
  refine EA a7 λi v1 u1 hv1 hu1=>?_
  have hu:∀ p∈AD.map Ad.ent,∀ q∈AD.map Ad.ent,p.1=q.1->p=q:=λp hp q hq e=>by
   obtain⟨x,hx,rfl⟩:=List.mem_map.1 hp
   obtain⟨y,hy,rfl⟩:=List.mem_map.1 hq
   rw[a5.one x hx y hy e]
  have hat:∀ d∈AD,bQ (λ_=> .none) (AD.map Ad.ent) d.id=(Ad.ent d).2:=λd hd=>mE _ _ hu d.ent (List.mem_map.2 ⟨d,hd,rfl⟩)
  refine VR1.toPin (m1:=bQ (λ_=> .none) (AD.map Ad.ent)) (l1:=λj=>open Classical in if h:∃ d∈AD,d.id=j then h.choose.l else .nil) (λj=>?_) v1 u1 (xV _ _ _ _ _ _ had v1 (List.mem_of_getElem? hv1)) (a8 _ _ _ (λd hd=>⟨⟨true,hat d hd⟩,?_⟩) (λh=>by grind) i v1 u1 hv1 hu1)
  ·by_cases hj:∃ d∈AD,d.id=j
   ·right
    have hc:=hj.choose_spec
    refine⟨hj.choose.ks,hj.choose.xs,true,true,hj.choose.hd w',hj.choose.bl,?_,?_,?_⟩
    ·have:=hat _ hc.1
     rw[hc.2] at this;exact this
    ·grind
    ·have:=(hM _ hc.1).2
     rw[hc.2] at this
     rw[this,dif_pos hj];rfl
   ·left
    exact cE _ _ _ λq hq e=>by
     obtain⟨x,hx,rfl⟩:=List.mem_map.1 hq
     exact hj ⟨x,hx,e⟩
  ·have hj:∃ d'∈AD,d'.id=d.id:=⟨d,hd,rfl⟩
   rw[dif_pos hj,a5.one _ hj.choose_spec.1 d hd hj.choose_spec.2]
end
end Go.Abs
/- A pinned row given up as pinned: it is a row of its own again. -/
namespace Go.Abs
open Go
theorem PinR.own{w:World}{ks:List Kd}{xs:List (Row ks)}{hv:Value}{hd:Nat->Nat->Value}{bl:List Nat}(h:PinR w ks xs hv hd bl)(hc:UM w ks.length hv bl):
  ∃ L bss,OwnAt w ks xs L bss/\Unp (.pin hv hd bl) L xs.length/\bl=L.blk.toList++List.flatten bss:=by
 obtain⟨⟨A,cap,e4,hcap,hT'⟩,_,_,hW⟩:=h
 rcases hc with e | ⟨b,off,l,cap',e,hb,cs,T,fz,hh,hsz⟩
 ·rw[e] at e4
  injection e4 with h1 h2 h3
  subst h1
  have hx:xs=[]:=List.eq_nil_of_length_eq_zero h2.symm
  rcases hT' with ⟨_,hbl⟩ | ⟨b,off,bss,h,_⟩
  ·exact⟨.nil,[],⟨hx,rfl⟩,.inl ⟨e,by rw[hx];rfl,rfl⟩,by rw[hbl];rfl⟩
  grind
 ·rw[e] at e4
  injection e4 with h1 h2 h3
  subst h1 h2 h3
  rcases hT' with ⟨_,hbl⟩ | ⟨b',off',bss,h,hlen,hbl,hrow⟩
  ·rw[hbl] at hb;grind
  ·cases h
   obtain⟨cs2,T2,fz2,hh2,hf⟩:=hW b hb
   rw[hh] at hh2
   cases hh2
   refine⟨.at_ b off cap',bss,⟨cs,T,fz,hh,hf,hsz,hcap,hlen,λi r bb hi hbb=>?_⟩,.inr ⟨b,off,cap',e,rfl⟩,hbl⟩
   obtain⟨us,hrr,hn,hus⟩:=hrow i r bb hi hbb
   exact⟨us,hrr,λj u hj=>by have:=hus j u hj;rwa [iZ hh] at this⟩
section rel
variable {n0:Nat} {ab rb:Nat->Prop} {w0:World} {N:Fix} {t:Nat->AVal} {m:Mem} {a:Act} {w:World} {loc:Nat->Loc} {ow:Nat->Option Nat}
theorem Rel.unpin(R:Rel n0 ab rb w0 N t m a w loc ow){id:Nat}{ks:List Kd}{xs:List (Row ks)}(hm:m id= .pin ks xs)(hid:tQ id):
  ∃ loc',Rel n0 ab rb w0 N t (cD m id (.arr ks xs true true)) a w loc' ow/\
   (∀ v u,VR m loc (Ok n0 ab m loc w) w v u->VR (cD m id (.arr ks xs true true)) loc' (Ok n0 ab (cD m id (.arr ks xs true true)) loc' w) w v u):=by
 have hE:=R.ents id
 unfold EntR at hE
 rw[hm] at hE
 obtain⟨hv,hd,bl,hl,hp,hw⟩:=hE
 have hn:=R.npin id hid (by rw[hm];rfl)
 have hc:=R.pcap id hid (by rw[hm];rfl)
 rw[hl] at hn hc
 rw[hm] at hc
 obtain⟨L,bss,hown,hun,hbl⟩:=hp.own hc
 have hnd:=hp.2.2.1
 rw[hbl] at hnd
 obtain⟨nd1,nd2,nd3⟩:=List.nodup_append.1 hnd
 have hLb:∀ b,L.has b->b∈bl:=λb hb=>by
  rw[hbl];refine List.mem_append_left _ ?_
  rw[(hown.blk b).1 hb];simp
 have hin:∀ b∈List.flatten bss,b∈bl:=λb hb=>by rw[hbl];simp_all
 have hmut:∀ b,Mut (cD m id (.arr ks xs true true)) (kO loc id L) b->Mut m loc b:=by
  rintro b ⟨j,h1,h2⟩
  by_cases e:j=id
  ·subst e
   rw[bL] at h2
   exact⟨j,by rw[hm];rfl,by rw[hl];exact hLb b h2⟩
  ·rw[a9 _ _ e] at h1;rw[cK _ _ e] at h2;exact⟨j,h1,h2⟩
 have h1:∀ b,Ok n0 ab m loc w b->Ok n0 ab (cD m id (.arr ks xs true true)) (kO loc id L) w b/\w.heap[b]? =w.heap[b]? :=
  λb hb=>⟨⟨hb.1,λh=>hb.2.1 (hmut b h),hb.2.2⟩,rfl⟩
 have h2:∀ j,Goes (m j) (cD m id (.arr ks xs true true) j) (loc j) (kO loc id L j):=by
  intro j
  by_cases e:j=id
  ·subst e
   rw[hm,aX,bL,hl]
   exact .inr (.inl ⟨xs,true,true,rfl,rfl,hun⟩)
  ·rw[a9 _ _ e,cK _ _ e];exact Goes.refl _ _
 refine⟨kO loc id L,R.update R.keep (Nat.le_refl _) h1 h2 (λj=>?_) R.owlt (λj b hj hb=>?_) (λb _ _=> .inl rfl) (λj _ h=>?_) (λj h3 h4=>?_) (λb _=>SizeLe.same rfl),λv u h=>VR.mono h1 h2 v u h⟩
 ·by_cases e:j=id
  ·subst e
   left
   unfold EntR
   rw[aX,bL]
   have hnest:∀ b∈List.flatten bss,Ok n0 ab (cD m j (.arr ks xs true true)) (kO loc j L) w b:=by
    intro b hb
    have hb':=hin b hb
    refine⟨R.owlt b j (hw b hb'),?_,.inl (hn b hb')⟩
    rintro ⟨i,h3,h4⟩
    by_cases e:i=j
    ·subst e
     rw[bL] at h4
     exact nd3 b (by rw[(hown.blk b).1 h4];simp) b hb rfl
    ·rw[a9 _ _ e] at h3;rw[cK _ _ e] at h4
     have h5:=(R.owner h3 h4).1
     rw[hw b hb'] at h5
     simp_all
   refine⟨bss,hown,λbb hbb b hb=>hnest b (List.mem_flatten.2 ⟨bb,hbb,hb⟩),λb hb=>?_,λ_ _=>⟨λbb hbb b hb=>?_,nd2,λb hb hx=>?_⟩⟩
   ·have hb':=hLb b hb
    exact⟨hn b hb',R.owlt b j (hw b hb'),λ_=>hw b hb',λh=>by grind⟩
   ·have hb':=hin b (List.mem_flatten.2 ⟨bb,hbb,hb⟩)
    exact⟨hw b hb',hn b hb'⟩
   ·exact nd3 b (by rw[(hown.blk b).1 hb];simp) b hx rfl
  ·exact .inr ⟨a9 _ _ e,cK _ _ e,λ_ _ _=>rfl,λ_ _ h=>h⟩
 ·by_cases e:j=id
  ·subst e
   rw[bL] at hb
   exact .inl (hn b (hLb b hb))
  ·rw[a9 _ _ e] at hj;rw[cK _ _ e] at hb;exact R.mutrb j b hj hb
 ·by_cases e:j=id
  ·subst e;rw[aX] at h;cases h
  ·rw[a9 _ _ e] at h;exact .inl ⟨h,cK _ _ e⟩
 ·by_cases e:j=id
  ·simp_all
  ·rw[a9 _ _ e,h3] at h4;grind
/-- Several of them. -/
def UnpR(m:Mem)(W:List (Nat×Ent)):Prop:=∀ p∈W,tQ p.1/\∃ ks xs,m p.1= .pin ks xs/\p.2= .arr ks xs true true
theorem UnpR.tail{m:Mem}{i:Nat}{e:Ent}{r:List (Nat×Ent)}(h:UnpR m ((i,e)::r)):UnpR (cD m i e) (r.filter λp=> !Nat.beq p.1 i)/\bQ (cD m i e) (r.filter λp=> !Nat.beq p.1 i)=bQ (cD m i e) r:=by
 obtain⟨_,ks,xs,h1,h2⟩:=h (i,e) (List.mem_cons_self ..)
 refine⟨λp hp=>?_,?_⟩
 ·obtain⟨hp1,hp2⟩:=List.mem_filter.1 hp
  obtain⟨h3,ks',xs',h4,h5⟩:=h p (List.mem_cons_of_mem _ hp1)
  have hne:p.1≠i:=λe=>by rw[e,Nat.beq_refl] at hp2;grind
  exact⟨h3,ks',xs',by rw[a9 _ _ hne];omega,h5⟩
 ·have hr:∀ p∈r,p.1=i->p.2=e:=λp hp he=>by
   obtain⟨_,ks',xs',h4,h5⟩:=h p (List.mem_cons_of_mem _ hp)
   grind
  clear h h1 h2
  have key:∀ (r:List (Nat×Ent)) (M:Mem),M i=e->(∀ p∈r,p.1=i->p.2=e)->bQ M (r.filter λp=> !Nat.beq p.1 i)=bQ M r:=by
   intro r
   induction r with
   | nil=>simp
   | cons x r ih=>
    intro M hM hr
    obtain⟨j,f⟩:=x
    by_cases hj:j=i
    ·subst hj
     have hf:f=e:=hr (j,f) (List.mem_cons_self ..) rfl
     rw[List.filter_cons_of_neg (by simp),fW]
     have:cD M j f=M:=by
      funext q
      by_cases hq:q=j
      ·subst hq;rw[aX,hf,hM]
      ·rw[a9 _ _ hq]
     rw[this]
     simp_all
    ·rw[List.filter_cons_of_pos (by rw[kJ hj];rfl),fW,fW]
     exact ih _ (by rw[a9 _ _ (Ne.symm hj)];omega) λp hp=>hr p (List.mem_cons_of_mem _ hp)
  exact key r (cD m i e) (aX _ _ _) hr
theorem Rel.unpins:∀ (n:Nat) (W:List (Nat×Ent)),W.length<=n->∀ {m:Mem} {loc:Nat->Loc} (R:Rel n0 ab rb w0 N t m a w loc ow),UnpR m W->
  ∃ loc',Rel n0 ab rb w0 N t (bQ m W) a w loc' ow/\(∀ v u,VR m loc (Ok n0 ab m loc w) w v u->VR (bQ m W) loc' (Ok n0 ab (bQ m W) loc' w) w v u)
 | _,[],_,_,loc,R,_=>⟨loc,R,λ_ _ h=>h⟩
 | 0,_::_,hl,_,_,_,_=>absurd hl (Nat.not_succ_le_zero _)
 | n+1,(i,e)::r,hl,m,loc,R,h=>by
  obtain⟨h0,ks,xs,h1,h2⟩:=h (i,e) (List.mem_cons_self ..)
  simp only at h0 h1 h2
  obtain⟨loc1,R1,v1⟩:=R.unpin h1 h0
  rw[<- h2] at R1 v1
  obtain⟨t1,t2⟩:=h.tail
  obtain⟨loc2,R2,v2⟩:=Rel.unpins n (r.filter λp=> !Nat.beq p.1 i) (Nat.le_trans (List.length_filter_le _ _) (by simp_all)) R1 t1
  rw[t2] at R2 v2
  exact⟨loc2,R2,λv u hv=>v2 v u (v1 v u hv)⟩
end rel
theorem DI{i:Nat}{e:Ent}:∀ {W:List (Nat×Ent)},BG i W=some e->(i,e)∈W
 | [],h=>by cases h
 | (j,f)::r,h=>by
  unfold BG at h
  by_cases hij:i=j
  ·simp_all
  ·rw[kJ hij] at h
   exact List.mem_cons_of_mem _ (DI h)
theorem F3{i:Nat}{e:Ent}:∀ (W:List (Nat×Ent)) (m:Mem),(∃ p∈W,p.1=i)->(∀ p∈W,p.1=i->p.2=e)->bQ m W i=e
 | [],m,h,_=>by simp_all
 | (j,f)::r,m,h,hk=>by
  rw[fW]
  by_cases hx:∃ p∈r,p.1=i
  ·exact F3 r _ hx λp hp=>hk p (List.mem_cons_of_mem _ hp)
  ·rw[cE _ _ _ λp hp he=>hx ⟨p,hp,he⟩]
   obtain⟨p,hp,he⟩:=h
   rcases List.mem_cons.1 hp with rfl | hp
   ·simp only at he
    subst he
    rw[aX];simp_all
   grind
theorem JC{m:Mem}{W:List (Nat×Ent)}(hW:UnpR m W){i:Nat}{e:Ent}(h:BG i W=some e):bQ m W i=e:=by
 have hm:=DI h
 refine F3 W m ⟨_,hm,rfl⟩ λp hp he=>?_
 obtain⟨_,ks,xs,h1,h2⟩:=hW p hp
 obtain⟨_,ks',xs',h3,h4⟩:=hW _ hm
 grind
theorem JD{m:Mem}{i:Nat}:∀ {W:List (Nat×Ent)},BG i W=none->bQ m W i=m i:=by
 intro W h
 refine cE _ _ _ ?_
 induction W with
 | nil=>simp
 | cons x r ih=>
  obtain⟨j,f⟩:=x
  unfold BG at h
  by_cases hij:i=j
  ·simp_all
  grind
theorem Does.over{α:Type}{m:Mem}{W:List (Nat×Ent)}(hW:UnpR m W){x:α}:∀ (q:Q α) (tr:List Nat),Does m (q.over W) x tr->∃ tr',Does (bQ m W) q x tr'
 | .ret a,tr,h=>⟨tr,h⟩
 | .fail,tr,h=>h.elim
 | .get id k,tr,h=>by
  unfold Q.over at h
  split at h
  ·rename_i e he
   obtain⟨tr',h'⟩:=Does.over hW (k e) tr h
   exact⟨id::tr',tr',rfl,by rw[JC hW he];omega⟩
  ·rename_i he
   obtain⟨tr1,_,h1⟩:=h
   obtain⟨tr',h'⟩:=Does.over hW (k (m id)) tr1 h1
   exact⟨id::tr',tr',rfl,by rw[JD he];omega⟩
 | .ite b p q,tr,h=>by
  rcases h with ⟨e,h⟩ | ⟨e,h⟩
  ·obtain⟨tr',h'⟩:=Does.over hW p tr h;exact⟨tr', .inl ⟨e,h'⟩⟩
  ·obtain⟨tr',h'⟩:=Does.over hW q tr h;exact⟨tr', .inr ⟨e,h'⟩⟩
 | .opt o k,tr,h=>by
  obtain⟨y,e,h⟩:=h
  obtain⟨tr',h'⟩:=Does.over hW (k y) tr h
  exact⟨tr',y,e,h'⟩
theorem qS{id:Nat}(h:wA id=true):tQ id:=by
 unfold wA at h
 simp only[Bool.or_eq_true] at h
 rcases h with h | h
 ·exact .inl (Nat.blt_eq▸h)
 ·exact .inr (Nat.ble_eq▸h)
theorem lH{α:Type}{m:Mem}{x:α}:∀ (ids:List Nat) (k:List (Nat×Ent)->Q α) (tr:List Nat),Does m (rR ids k) x tr->∃ W tr',UnpR m W/\Does m (k W) x tr'
 | [],k,tr,h=>⟨[],tr,(λp hp=>by grind),h⟩
 | id::r,k,tr,h=>by
  unfold rR at h
  obtain⟨tr',_,h1⟩:=h
  dsimp only at h1
  split at h1
  ·rename_i ks xs hm
   cases hf:wA id with
   | true=>
    rw[hf] at h1
    obtain⟨W,tr2,h2,h3⟩:=lH r _ tr' h1
    exact⟨_,tr2,(λp hp=>by
     rcases List.mem_cons.1 hp with rfl | hp
     ·exact⟨qS hf,ks,xs,hm,rfl⟩
     ·exact h2 p hp),h3⟩
   | false=>rw[hf] at h1;exact lH r k tr' h1
  ·exact lH r k tr' h1
theorem D9{m:Mem}{ids:List Nat}{q:Q Eff}{e:Eff}{tr:List Nat}(h:Does m (KR ids q) e tr):∃ W e' tr',UnpR m W/\Does (bQ m W) q e' tr'/\e=⟨e'.v,W++e'.wr⟩:=by
 obtain⟨W,tr1,hW,h1⟩:=lH _ _ _ h
 obtain⟨e',t1,t2,_,h2,h3⟩:=Does.bind _ _ h1
 obtain⟨rfl,_⟩:=h3
 obtain⟨tr',h4⟩:=Does.over hW _ _ h2
 grind
end Go.Abs
/- Calls whose results come in as pinned. -/
namespace Go.Abs
open Go
section
variable {P:Program} {E:Env} (hT:TOk P E.ti)
variable {n0:Nat} {ab rb:Nat->Prop} {w0:World} {N:Fix} {t:Nat->AVal} {m:Mem} {a:Act} {w:World} {loc:Nat->Loc} {ow:Nat->Option Nat}
include hT in
theorem KH (R:Rel n0 ab rb w0 N t m a w loc ow) {d g:Nat} {sl:List Nat} {rts:Nat->Option (List Nat)} {tys:List Nat} {xs:List AVal} {e:Eff} {tr:List Nat} (h:Does m (KI E d sl rts g tys xs) e tr)
  (hC:∀ as out,E.call g as=some out->lZ P E.ti rts E.fresh g as out) (vs:List Value) (hl:vs.length=xs.length) (hv:∀ (i:Nat) (x:AVal) (v:Value),xs[i]? =some x->vs[i]? =some v->VR m loc (Ok n0 ab m loc w) w x v):
  (∃ fn,P.funcs[g]? =some fn/\fn.name≠ "runtime.NumGoroutine" /\fn.body.isNone=false)/\Calls P g vs.toArray w λen w'=>∃ v,en= .returned v/\Post n0 ab rb w0 N t m a e v w':=by
 unfold KI at h
 split at h
 ·exact h.elim
 rename_i rt hrt
 have hrt':∀ (E':Env),E'.ti=E.ti->(rts g).bind (dI E')=some rt:=λE' hE'=>by
  rw[<- hrt]
  cases rts g with
  | none=>rfl
  | some l=>
   show dI _ l=dI E l
   apply gK;omega
 split at h
 case isFalse=>exact h.elim
 rename_i hfresh
 obtain⟨⟨as,ps⟩,t1,t2,_,h1,h2⟩:=Does.bind _ _ h
 obtain⟨o,ho,h3⟩:=h2
 obtain⟨out,hout,hcast⟩:=Option.bind_eq_some_iff.1 ho
 obtain⟨x,hx,hcast2⟩:=Option.bind_eq_some_iff.1 hcast
 obtain⟨y,hy,hoo⟩:=Option.bind_eq_some_iff.1 hcast2
 cases hoo
 dsimp only at h3
 split at h3
 case h_2=>exact h3.elim
 rename_i vals w2 had
 split at h3
 case isFalse=>exact h3.elim
 rename_i hall
 obtain⟨hnone,tr',h4,_⟩:=jJ _ _ h3
 obtain⟨rfl,_⟩:=h4
 obtain⟨bs,hA,hbs,hno⟩:=uS hT R tys xs as ps t1 h1 vs hl hv
 have hfz:=hC as out hout
 unfold lZ at hfz
 rw[if_pos hno] at hfz
 obtain⟨hfn,hcall⟩:=hfz
 refine⟨hfn,?_⟩
 have hcall:=hcall rt (hrt' _ rfl) vs bs [] w hA (λb hb=>⟨hbs b hb,by simp⟩) (λb hb=>by grind) List.nodup_nil
 refine Calls.mono hcall ?_
 rintro en w' ⟨v,rfl,⟨hk,hsz,hfree,us,ts,ins,B,hvv,hres,hrefs,hB,hins,hts,hfr⟩,_⟩
 refine⟨v,rfl,?_⟩
 rw[hfresh] at hres hins hfr
 obtain⟨AD,a1,a2,a3,a4,a5,a6,a7,a8⟩:=kB true rt (d*32) x vals w2 out.res us ts ins hx had hres
 obtain⟨nd1,nd2⟩:=hfr rfl
 rw[a3] at nd1
 rw[a4 rfl] at nd2
 have htop:∀ d∈AD,∀ b∈d.l.blk.toList,b∈ts:=λd hd b hb=>by rw[a3];exact List.mem_flatMap.2 ⟨d,hd,hb⟩
 have hinn:∀ d∈AD,∀ b∈List.flatten d.bss,b∈ins:=λd hd b hb=>by rw[a4 rfl];exact List.mem_flatMap.2 ⟨d,hd,hb⟩
 have hbl:∀ d∈AD,∀ b∈d.bl,b∈d.l.blk.toList\/b∈List.flatten d.bss:=λd hd b hb=>by
  exact List.mem_append.1 hb
 have hnew:∀ d∈AD,∀ b∈d.bl,w.heap.size<=b/\b<w'.heap.size:=λd hd b hb=>by
  grind
 have hnd:∀ d∈AD,d.bl.Nodup:=λd hd=>by
  refine List.nodup_append.2 ⟨by cases d.l.blk<;>simp,qU _ AD nd2 d hd,λx hx y hy e=>?_⟩
  grind
 have hun:∀ d∈AD,∀ d'∈AD,∀ b,b∈d.bl->b∈d'.bl->d.id=d'.id:=λd hd d' hd' b hb hb'=>by
  rcases hbl d hd b hb with h | h<;>rcases hbl d' hd' b hb' with h' | h'
  ·rw[gE _ AD nd1 d hd d' hd' b h h']
  ·grind
  ·grind
  ·rw[gE _ AD nd2 d hd d' hd' b h h']
 obtain⟨loc',ow',R',hM⟩:=R.adopted hk AD a5.one (λd hd=>hnone d.ent (by rw[a1];grind))
  (λd hd=>Ad.pinR (a6 d hd).2 (hnd d hd) λb hb=>hfree b (hnew d hd b hb).1 (hnew d hd b hb).2) hnew hun hfree λd hd=>Ad.cap (a6 d hd).2
 have hw2:w2.map toPin=AD.map Ad.pent:=by
  rw[a1,List.map_map];rfl
 rw[<- hw2] at R' hM
 subst hvv
 have hval:VR (bQ m (w2.map toPin)) loc' (Ok n0 ab (bQ m (w2.map toPin)) loc' w') w' (y9 vals) (rS us):=by
  refine EA a7 λi v1 u1 hv1 hu1=>?_
  have hu:∀ p∈AD.map Ad.ent,∀ q∈AD.map Ad.ent,p.1=q.1->p=q:=λp hp q hq e=>by
   obtain⟨x,hx,rfl⟩:=List.mem_map.1 hp
   obtain⟨y,hy,rfl⟩:=List.mem_map.1 hq
   rw[a5.one x hx y hy e]
  have hat:∀ d∈AD,bQ (λ_=> .none) (AD.map Ad.ent) d.id=(Ad.ent d).2:=λd hd=>mE _ _ hu d.ent (List.mem_map.2 ⟨d,hd,rfl⟩)
  refine VR1.toPin (m1:=bQ (λ_=> .none) (AD.map Ad.ent)) (l1:=λj=>open Classical in if h:∃ d∈AD,d.id=j then h.choose.l else .nil) (λj=>?_) v1 u1 (xV _ _ _ _ _ _ had v1 (List.mem_of_getElem? hv1)) (a8 _ _ _ (λd hd=>⟨⟨true,hat d hd⟩,?_⟩) (λh=>by grind) i v1 u1 hv1 hu1)
  ·by_cases hj:∃ d∈AD,d.id=j
   ·right
    have hc:=hj.choose_spec
    refine⟨hj.choose.ks,hj.choose.xs,true,true,hj.choose.hd w',hj.choose.bl,?_,?_,?_⟩
    ·have:=hat _ hc.1
     rw[hc.2] at this;exact this
    ·grind
    ·have:=(hM _ hc.1).2
     rw[hc.2] at this
     rw[this,dif_pos hj];rfl
   ·left
    exact cE _ _ _ λq hq e=>by
     obtain⟨x,hx,rfl⟩:=List.mem_map.1 hq
     exact hj ⟨x,hx,e⟩
  ·have hj:∃ d'∈AD,d'.id=d.id:=⟨d,hd,rfl⟩
   rw[dif_pos hj,a5.one _ hj.choose_spec.1 d hd hj.choose_spec.2]
 have hW:UnpR (bQ m (w2.map toPin)) (w2.filter λp=> !iC (p.1 - d*32) sl):=λp hp=>by
  have hp':=(List.mem_filter.1 hp).1
  refine⟨qS (List.all_eq_true.1 hall p hp'),?_⟩
  rw[a1] at hp'
  obtain⟨q,hq,rfl⟩:=List.mem_map.1 hp'
  exact⟨q.ks,q.xs,(hM q hq).1,rfl⟩
 obtain⟨loc2,R2,v2⟩:=Rel.unpins _ _ (Nat.le_refl _) R' hW
 refine⟨loc2,ow',?_,?_⟩
 ·show Rel n0 ab rb w0 N t (bQ m (w2.map toPin++_)) a w' loc2 ow'
  rw[dX];omega
 ·show VR (bQ m (w2.map toPin++_)) loc2 _ w' (y9 vals) (rS us)
  rw[dX];simp_all
include hT in
theorem KD (R:Rel n0 ab rb w0 N t m a w loc ow) {d g:Nat} {rts:Nat->Option (List Nat)} {tys:List Nat} {xs:List AVal} {e:Eff} {tr:List Nat} (h:Does m (KE E d rts g tys xs) e tr) (hfl:E.fresh (g+1000000)=false)
  (hC:∀ as out,E.call g as=some out->lZ P E.ti rts E.fresh g as out) (vs:List Value) (hl:vs.length=xs.length) (hv:∀ (i:Nat) (x:AVal) (v:Value),xs[i]? =some x->vs[i]? =some v->VR m loc (Ok n0 ab m loc w) w x v):
  (∃ fn,P.funcs[g]? =some fn/\fn.name≠ "runtime.NumGoroutine" /\fn.body.isNone=false)/\Calls P g vs.toArray w λen w'=>∃ v,en= .returned v/\Post n0 ab rb w0 N t m a e v w':=by
 unfold KE at h
 split at h
 ·exact h.elim
 rename_i rt hrt
 obtain⟨⟨as,wr,ps⟩,t1,t2,_,h1,h2⟩:=Does.bind _ _ h
 dsimp only at h2
 split at h2
 case isFalse=>exact h2.elim
 rename_i hps
 obtain⟨o,ho,h3⟩:=h2
 obtain⟨out,hout,hcast⟩:=Option.bind_eq_some_iff.1 ho
 obtain⟨x,hx,hcast2⟩:=Option.bind_eq_some_iff.1 hcast
 obtain⟨y,hy,hoo⟩:=Option.bind_eq_some_iff.1 hcast2
 cases hoo
 dsimp only at h3
 split at h3
 case h_2=>exact h3.elim
 rename_i vals w2 had
 obtain⟨hnone,tr',h4,_⟩:=jJ _ _ h3
 obtain⟨rfl,_⟩:=h4
 obtain⟨bs,rbs,hA,made,hRL,hnd⟩:=xU hT R tys xs as wr ps t1 h1 vs hl hv
 have hps':ps=[]:=by
  simp_all
 subst hps'
 have hrbs:rbs=[]:=hRL
 subst hrbs
 have hfz:=hC as out hout
 unfold lZ at hfz
 rw[if_pos (nV tys xs as wr [] t1 h1)] at hfz
 obtain⟨hfn,hcall⟩:=hfz
 refine⟨hfn,?_⟩
 have hcall:=hcall rt (by
  rw[<- hrt]
  cases rts g with
  | none=>rfl
  | some l=>
   show dI _ l=dI E l
   apply gK;rfl) vs bs [] w hA (λb hb=>⟨made.lt R b hb,by simp⟩) (λb hb=>by grind) List.nodup_nil
 refine Calls.mono hcall ?_
 rintro en w' ⟨v,rfl,⟨hk,hsz,hfree,_⟩,hsh⟩
 refine⟨v,rfl,?_⟩
 obtain⟨us,ts,ins,hvv,hres,hnd1,hts,hins⟩:=hsh hfl
 have R1:=R.close wr made.took
 have hok1:=made.close R
 obtain⟨AD,a1,a2,a3,a4,a5,a6,a7,a8⟩:=kB true rt (d*32) x vals w2 out.res us ts ins hx had hres
 have htop:∀ d∈AD,∀ b,d.l.blk=some b->b∈ts:=λd hd b hb=>by
  rw[a3];exact List.mem_flatMap.2 ⟨d,hd,by rw[hb];simp⟩
 have hinn:∀ d∈AD,∀ b∈List.flatten d.bss,b∈ins:=λd hd b hb=>by
  rw[a4 rfl];exact List.mem_flatMap.2 ⟨d,hd,hb⟩
 rw[a3] at hnd1
 obtain⟨loc',ow',R',hM⟩:=R1.calledS hk hsz AD a5.one (λd hd=>by
   have:m d.id= .none:=hnone d.ent (by rw[a1];grind)
   rw[cE]
   ·omega
   ·intro q hq e1
    obtain⟨ks,zs,dd,oo,k1,_⟩:=made.took q hq
    rw[e1,this] at k1;grind)
  (λd hd=>(a6 d hd).2) (λd hd b hb=>hts b (htop d hd b hb)) hfree
  (λd hd b hb=>by
   grind)
  (λd hd d' hd' b hb hb'=>by rw[gE _ AD hnd1 d hd d' hd' b (by rw[hb];simp) (by rw[hb'];simp)])
 have hmem:bQ m (wr++w2.map EE)=bQ (bQ m wr) (AD.map Ad.sent):=by
  rw[dX,a1,List.map_map];rfl
 refine⟨loc',ow',?_,?_⟩
 ·simp_all
 ·show VR (bQ m (wr++w2.map EE)) loc' (Ok n0 ab (bQ m (wr++w2.map EE)) loc' w') w' (y9 vals) v
  rw[hmem]
  subst hvv
  exact EA a7 (a8 _ _ _ (λd hd=>⟨⟨false,(hM d hd).1⟩,(hM d hd).2⟩) λh=>by grind)
end
end Go.Abs
/- One operation in a region. -/
namespace Go.Abs
open Go
section
variable {P:Program} {E:Env} (hT:TOk P E.ti)
variable {n0:Nat} {ab rb:Nat->Prop} {w0:World} {N:Fix} {t:Nat->AVal} {m:Mem} {a:Act} {w:World} {loc:Nat->Loc} {ow:Nat->Option Nat}
/-- What is fixed fits the function that runs. -/
structure NOk (E:Env) (N:Fix):Prop where
 n:E.n<=N.n
 lo:E.base*32=N.lo
omit hT in
theorem ET(g:FuncId)(args:Array Value){fn:Func}(k1:P.funcs[g]? =some fn)(k2:fn.name≠ "runtime.NumGoroutine")(k3:fn.body.isNone=false):(callFunc g args).run P w= .ok (.enter g args) w:=by
 have hb:fn.body≠none:=λe=>by rw[e] at k3;grind
 simp[callFunc,run_program,Result.andThen,k1,k2,hb]
theorem AM {o:Oper} {c:Call} {f:Operand} (g:FuncId) (ho:o.op= .call c) (hf:c.callee= .value f) (hu:a.eval f= .func (.func g) #[] #[]) {fn:Func} (k1:P.funcs[g]? =some fn)
  (k2:fn.name≠ "runtime.NumGoroutine") (k3:fn.body.isNone=false):(execOp a.eval o).run P w= .ok (.enter g (c.args.toList.map a.eval).toArray) w:=by
 simp only[execOp,ho,resolve,hf,hu,Deferred.ofValue,pure_bind,invoke]
 rw[ET g _ k1 k2 k3,zT]
 simp
include hT
theorem PW (hD:9<=P.depth) (hN:NOk E N) {rts:Nat->Option (List Nat)} (hC:∀ g as out,E.call g as=some out->lZ P E.ti rts E.fresh g as out) (R:Rel n0 ab rb w0 N t m a w loc ow) {o:Oper} {e:Eff} {tr:List Nat}
  (h:Does m (opR E rts o (cA t)) e tr) {next:Act->World->Prop} {Q:Exit->Act->World->Prop} (hn:∀ v w',Post n0 ab rb w0 N t m a e v w'->next (a.put o.dst v) w'):o.wp P a w next Q:=by
 by_cases hp:zG o=true
 ·obtain⟨v,w',h1,h2⟩:=TC hT hD R h hp
  unfold Oper.wp
  rcases h1 with h1 | ⟨h1,rfl⟩<;>rw[h1]<;>exact hn _ _ h2
 ·unfold zG at hp
  split at hp
  case h_2=>simp_all
  rename_i c ho
  split at hp
  case h_1=>simp_all
  rename_i hb
  rw[I3] at h
  unfold opD at h
  rw[ho] at h
  try dsimp only at h
  split at h
  ·simp_all
  ·rename_i f hf
   have hv:=R.eval f
   generalize hq:cA t f=q at h hv
   generalize hu:a.eval f=u at hv
   split at h
   case h_2=>exact h.elim
   rename_i g
   obtain⟨bs,⟨rfl,_⟩,_⟩:=hv
   obtain⟨g,rfl⟩:∃ g':Nat,g'=g:=⟨g,rfl⟩
   have hargs:∀ (i:Nat) (x:AVal) (v:Value),(c.args.toList.map (cA t))[i]? =some x->(c.args.toList.map a.eval)[i]? =some v->VR m loc (Ok n0 ab m loc w) w x v:=λi x v hx hv=>by
    rw[List.getElem?_map] at hx hv
    cases hi:c.args.toList[i]? with
    | none=>rw[hi] at hx;grind
    | some p=>rw[hi] at hx hv;cases hx;cases hv;exact R.eval p
   obtain⟨⟨fn,k1,k2,k3⟩,hcall⟩:(∃ fn,P.funcs[g]? =some fn/\fn.name≠ "runtime.NumGoroutine" /\fn.body.isNone=false)/\
     Calls P g (c.args.toList.map a.eval).toArray w λen w'=>∃ v,en= .returned v/\Post n0 ab rb w0 N t m a e v w':=by
    split at h
    ·exact KH hT R h (hC g) _ (by simp) hargs
    ·split at h
     ·exact KF hT R h (hC g) _ (by simp) hargs
     ·split at h
      ·exact OB hT R h (hC g) _ (by simp) hargs
      ·rename_i hfl
       exact KD hT R h (by simp_all) (hC g) _ (by simp) hargs
   have hrun:=AM (P:=P) (w:=w) (a:=a) g ho hf hu k1 k2 k3
   unfold Oper.wp
   rw[hrun]
   refine Calls.mono hcall ?_
   simp_all
  ·exact h.elim
theorem V3 (hD:9<=P.depth) (hN:NOk E N) {rts:Nat->Option (List Nat)} (hC:∀ g as out,E.call g as=some out->lZ P E.ti rts E.fresh g as out) (R:Rel n0 ab rb w0 N t m a w loc ow) {o:Oper} {e:Eff} {tr:List Nat}
  (h:Does m (opQ E rts o (cA t)) e tr) {next:Act->World->Prop} {Q:Exit->Act->World->Prop} (hn:∀ v w',Post n0 ab rb w0 N t m a e v w'->next (a.put o.dst v) w'):o.wp P a w next Q:=by
 unfold opQ at h
 cases hu:iC (o.dst.getD 99999) E.h.unp with
 | false=>rw[hu] at h;exact PW hT hD hN hC R h hn
 | true=>
  rw[hu] at h
  obtain⟨W,e',tr',hW,h1,rfl⟩:=D9 h
  obtain⟨loc1,R1,_⟩:=Rel.unpins _ W (Nat.le_refl _) R hW
  refine PW hT hD hN hC R1 h1 λv w' hp=>hn v w' ?_
  obtain⟨loc2,ow2,p1,p2⟩:=hp
  refine⟨loc2,ow2,?_,?_⟩
  ·show Rel n0 ab rb w0 N t (bQ m (W++e'.wr)) a w' loc2 ow2
   rw[dX];omega
  ·show VR (bQ m (W++e'.wr)) loc2 _ w' e'.v v
   rw[dX];omega
end
end Go.Abs
/- A step of a region; regions in order. -/
namespace Go.Abs
open Go
section
variable {P:Program} {E:Env} {rts:Nat->Option (List Nat)}
/-- What a step does. -/
def GuardIs(l:List Oper)(o:Oper)(t:Nat->AVal)(run:Bool):Prop:=
 match o.guard with
 | none=>run=true
 | some (j,want)=>∃ d,(l[j]?).bind (·.dst)=some d/\((t d= .undef/\run=false)\/∃ b,t d=iA b/\run=(b==want))
def StepD(E:Env)(rts:Nat->Option (List Nat))(l:List Oper)(o:Oper)(t:Nat->AVal)(m:Mem)(v:AVal)(wr:List (Nat×Ent))(tr:List Nat):Prop:=
 (GuardIs l o t true/\∃ e,Does m (opQ E rts o (cA t)) e tr/\v=e.v/\wr=e.wr)\/(GuardIs l o t false/\v= .undef/\wr=[]/\tr=[])
theorem vT{s:St}{d:Nat}{v:AVal}(h:s.t d=v):(s.put (some d) v).t=s.t:=by
 rw[C8]
 funext i
 show(if i=d then v else s.t i)=s.t i
 simp_all
theorem AB{ρ:Type}{l:List Oper}{o:Oper}{s:St}{K:St->mC->Option ρ}{r:ρ}(h:t7 E rts l o s K=some r):
  (∀ d,o.dst=some d->d<E.n)/\∃ v wr tr s',StepD E rts l o s.t s.m v wr tr/\s'.t=n7 s.t o.dst v/\s'.m=bQ s.m wr/\K s' (tr.reverse,wr)=some r:=by
 unfold t7 at h
 cases hd:y2 E o with
 | false=>rw[hd] at h;grind
 | true=>
  rw[hd] at h
  refine⟨λd e=>?_,?_⟩
  ·unfold y2 at hd;rw[e] at hd;simp_all
  have hex:∀ s2:St,s2.t=s.t->s2.m=s.m->(opQ E rts o s2.eval).run s2.m (λe tr=>K ((s2.sets e.wr).put o.dst e.v) (tr,e.wr)) []=some r->GuardIs l o s.t true->
    ∃ v wr tr s',StepD E rts l o s.t s.m v wr tr/\s'.t=n7 s.t o.dst v/\s'.m=bQ s.m wr/\K s' (tr.reverse,wr)=some r:=by
   intro s2 e1 e2 hr hg
   obtain⟨e,tr,h1,h2⟩:=Does.run _ _ _ hr
   rw[e2,St.eval_eq,e1] at h1
   refine⟨e.v,e.wr,tr,_,.inl ⟨hg,e,h1,rfl,rfl⟩,?_,?_,by simpa using h2⟩
   ·rw[C8,wQ,e1]
   ·rw[vU,wR,e2]
  have hsk:∀ s2:St,s2.t=s.t->s2.m=s.m->K (s2.put o.dst .undef) ([],[])=some r->GuardIs l o s.t false->
    ∃ v wr tr s',StepD E rts l o s.t s.m v wr tr/\s'.t=n7 s.t o.dst v/\s'.m=bQ s.m wr/\K s' (tr.reverse,wr)=some r:=by
   intro s2 e1 e2 hr hg
   refine⟨.undef,[],[],_,.inr ⟨hg,rfl,rfl,rfl⟩,?_,?_,hr⟩
   ·rw[C8,e1]
   ·rw[vU,e2];rfl
  simp only[Bool.not_true,cond_false] at h
  split at h
  ·rename_i hg
   exact hex s rfl rfl h (by unfold GuardIs;rw[hg])
  ·rename_i j want hg
   split at h
   ·rename_i d hdst
    split at h
    ·rename_i b hb
     have hG:∀ (b':Bool),s.t d=iA b'->∀ x:Bool,x=(b'==want)->GuardIs l o s.t x:=λb' hb' x hx=>by
      unfold GuardIs;rw[hg];grind
     cases b with
     | true=>
      simp only[cond_true] at h
      cases want with
      | true=>exact hex _ (vT hb) (vU _ _ _) h (hG true hb _ rfl)
      | false=>exact hsk _ (vT hb) (vU _ _ _) h (hG true hb _ rfl)
     | false=>
      simp only[cond_false] at h
      cases want with
      | true=>exact hsk _ (vT hb) (vU _ _ _) h (hG false hb _ rfl)
      | false=>exact hex _ (vT hb) (vU _ _ _) h (hG false hb _ rfl)
    ·rename_i hb
     exact hsk s rfl rfl h (by unfold GuardIs;rw[hg];simp_all)
    simp_all
   simp_all
variable {n0:Nat} {ab rb:Nat->Prop} {w0:World} {N:Fix} {t:Nat->AVal} {m:Mem} {a:Act} {w:World} {loc:Nat->Loc} {ow:Nat->Option Nat}
theorem GuardIs.wanted(R:Rel n0 ab rb w0 N t m a w loc ow){ops:Array Oper}{o:Oper}{run:Bool}(h:GuardIs ops.toList o t run):Region.wanted o (yielded ops a.tmps)=run:=by
 unfold GuardIs at h
 unfold Region.wanted
 split at h
 ·simp_all
 ·rename_i j want hg
  rw[hg]
  obtain⟨d,hd,h⟩:=h
  have ht:=R.temps d
  have hd':(ops[j]?).bind (·.dst)=some d:=by rw[<- hd,Array.getElem?_toList]
  rcases h with ⟨hu,rfl⟩ | ⟨b,hb,rfl⟩
  ·rw[hu] at ht
   have ht':a.tmps.getD d undef=undef:=ht
   show(yielded ops a.tmps j==some want)=false
   have:yielded ops a.tmps j=none:=by
    unfold yielded
    rw[hd']
    show(match a.tmps[d]? with | some (.bool b)=>some b | _=>none)=none
    rw[Array.getD_eq_getD_getElem?] at ht'
    cases hx:a.tmps[d]? with
    | none=>rfl
    | some x=>
     rw[hx] at ht'
     have:x=undef:=ht'
     subst this;rfl
   rw[this];rfl
  ·rw[hb] at ht
   have ht':a.tmps.getD d undef= .bool b:=VR.bool ht
   have:yielded ops a.tmps j=some b:=by
    unfold yielded
    rw[hd']
    show(match a.tmps[d]? with | some (.bool b)=>some b | _=>none)=some b
    rw[Array.getD_eq_getD_getElem?] at ht'
    cases hx:a.tmps[d]? with
    | none=>rw[hx] at ht';cases ht'
    | some x=>
     rw[hx] at ht'
     simp_all
   simp_all
theorem StepD.wp (hT:TOk P E.ti) (hD:9<=P.depth) (hC:∀ g as out,E.call g as=some out->lZ P E.ti rts E.fresh g as out) (hN:NOk E N) (R:Rel n0 ab rb w0 N t m a w loc ow) {ops:Array Oper} {i:Nat} {o:Oper} (hi:ops[i]? =some o)
  (hd:∀ d,o.dst=some d->d<E.n) {v:AVal} {wr:List (Nat×Ent)} {tr:List Nat} (h:StepD E rts ops.toList o t m v wr tr) {next:Act->World->Prop} {Q:Exit->Act->World->Prop}
  (hn:∀ a' w' loc' ow',Rel n0 ab rb w0 N (n7 t o.dst v) (bQ m wr) a' w' loc' ow'->next a' w'):wpOp P ops Q i next a w:=by
 unfold wpOp
 rw[hi]
 dsimp only
 have hdN:∀ d,o.dst=some d->d<N.n:=λd e=>Nat.lt_of_lt_of_le (hd d e) hN.n
 rcases h with ⟨hg,e,h1,rfl,rfl⟩ | ⟨hg,rfl,rfl,rfl⟩
 ·rw[hg.wanted R,if_pos rfl]
  refine .inl (V3 hT hD hN hC R h1 λu w' hp=>?_)
  obtain⟨loc',ow',R',hv⟩:=hp
  exact hn _ _ loc' ow' (R'.put hdN hv)
 ·rw[hg.wanted R,if_neg (by simp)]
  exact hn _ _ loc ow (R.put hdN rfl)
end
end Go.Abs
/- Regions whose order is drawn: folds. -/
namespace Go.Abs
open Go
theorem zC(i:Nat):∀ (l:List (Nat×Ent)) (m m':Mem),(∃ q∈l,q.1=i)->bQ m l i=bQ m' l i
 | [],_,_,⟨q,hq,_⟩=>by grind
 | (j,e)::l,m,m',h=>by
  rw[fW,fW]
  by_cases hx:∃ q∈l,q.1=i
  ·exact zC i l _ _ hx
  ·have hne:∀ q∈l,q.1≠i:=λq hq e=>hx ⟨q,hq,e⟩
   rw[cE _ _ _ hne,cE _ _ _ hne]
   obtain⟨q,hq,e1⟩:=h
   rcases List.mem_cons.1 hq with rfl | hq
   ·rw[<- e1,aX,aX]
   grind
theorem MA(m:Mem)(x y:List (Nat×Ent))(h:∀ p∈x,∀ q∈y,p.1≠q.1):bQ (bQ m x) y=bQ (bQ m y) x:=by
 funext i
 by_cases hy:∃ q∈y,q.1=i
 ·have hx:∀ p∈x,p.1≠i:=λp hp e=>by grind
  rw[cE _ _ _ hx]
  exact zC i y _ _ hy
 ·have hy':∀ q∈y,q.1≠i:=λq hq e=>hy ⟨q,hq,e⟩
  rw[cE _ _ _ hy']
  by_cases hx:∃ p∈x,p.1=i
  ·exact zC i x _ _ hx
  ·have hx':∀ p∈x,p.1≠i:=λq hq e=>hx ⟨q,hq,e⟩
   rw[cE _ _ _ hx',cE _ _ _ hx',cE _ _ _ hy']
theorem M6(t:Nat->AVal)(d d':Option Nat)(v v':AVal)(h:∀ x,d=some x->d'≠some x):n7 (n7 t d v) d' v'=n7 (n7 t d' v') d v:=by
 cases d with
 | none=>rfl
 | some x=>
  cases d' with
  | none=>rfl
  | some y=>
   have hne:x≠y:=λe=>h x rfl (by rw[e])
   funext i
   show(if i=y then v' else if i=x then v else t i)=(if i=x then v else if i=y then v' else t i)
   grind
structure Fx where
 dst:Option Nat
 v:AVal
 wr:List (Nat×Ent)
 tr:List Nat
def tS(S:Nat->Bool):Nat->List Fx->(Nat->AVal)->Nat->AVal
 | _,[],t=>t
 | k,f::r,t=>tS S (k+1) r (if S k then n7 t f.dst f.v else t)
def mS(S:Nat->Bool):Nat->List Fx->Mem->Mem
 | _,[],m=>m
 | k,f::r,m=>mS S (k+1) r (if S k then bQ m f.wr else m)
theorem z6{S S':Nat->Bool}{d:Nat}:∀ (fx:List Fx) (k:Nat) (t t':Nat->AVal),t d=t' d->(∀ i f,fx[i]? =some f->f.dst=some d->S (k+i)=S' (k+i))->tS S k fx t d=tS S' k fx t' d
 | [],k,t,t',h,_=>h
 | f ::r,k,t,t',h,hs=>by
  refine z6 r (k+1) _ _ ?_ λi g hi hg=>?_
  ·have h0:=hs 0 f rfl
   by_cases hd:f.dst=some d
   ·have:=h0 hd
    rw[Nat.add_zero] at this
    rw[this]
    cases S' k with
    | true=>simp[hd,n7]
    | false=>simp_all
   ·have key:∀ (b:Bool) (t:Nat->AVal),(if b=true then n7 t f.dst f.v else t) d=t d:=by
     intro b t
     cases b with
     | false=>rfl
     | true=>
      rw[if_pos rfl]
      cases hf:f.dst with
      | none=>rfl
      | some x=>
       have:¬ d=x:=λe=>hd (by rw[hf,e])
       simp[n7,this]
    rw[key,key];omega
  ·have:=hs (i+1) g (by simp_all) hg
   rw[show k+1+i=k+(i+1) by omega];omega
theorem BD{S S':Nat->Bool}{d:Nat}:∀ (fx:List Fx) (k:Nat) (t t':Mem),t d=t' d->(∀ i f,fx[i]? =some f->(∃ q∈f.wr,q.1=d)->S (k+i)=S' (k+i))->mS S k fx t d=mS S' k fx t' d
 | [],k,t,t',h,_=>h
 | f ::r,k,t,t',h,hs=>by
  refine BD r (k+1) _ _ ?_ λi g hi hg=>?_
  ·have h0:=hs 0 f rfl
   by_cases hd:∃ q∈f.wr,q.1=d
   ·have:=h0 hd
    rw[Nat.add_zero] at this
    rw[this]
    cases S' k with
    | true=>simpa using zC d f.wr t t' hd
    | false=>simp_all
   ·have hd':∀ q∈f.wr,q.1≠d:=λq hq e=>hd ⟨q,hq,e⟩
    have key:∀ (b:Bool) (t:Mem),(if b=true then bQ t f.wr else t) d=t d:=by
     intro b t
     cases b with
     | false=>rfl
     | true=>rw[if_pos rfl,cE _ _ _ hd']
    rw[key,key];omega
  ·have:=hs (i+1) g (by simp_all) hg
   rw[show k+1+i=k+(i+1) by omega];omega
theorem EH{S S':Nat->Bool}:∀ (fx:List Fx) (k:Nat) (t:Nat->AVal),(∀ i,i<fx.length->S (k+i)=S' (k+i))->tS S k fx t=tS S' k fx t:=by
 intro fx k t h
 funext d
 exact z6 fx k t t rfl λi f hi _=>h i (List.getElem?_eq_some_iff.1 hi).1
theorem FD{S S':Nat->Bool}:∀ (fx:List Fx) (k:Nat) (t:Mem),(∀ i,i<fx.length->S (k+i)=S' (k+i))->mS S k fx t=mS S' k fx t:=by
 intro fx k t h
 funext d
 exact BD fx k t t rfl λi f hi _=>h i (List.getElem?_eq_some_iff.1 hi).1
theorem EI{S:Nat->Bool}:∀ (fx:List Fx) (k:Nat) (t:Nat->AVal),(∀ i,S (k+i)=false)->tS S k fx t=t
 | [],_,_,_=>rfl
 | f::r,k,t,h=>by
  have h0:=h 0
  rw[Nat.add_zero] at h0
  unfold tS
  rw[h0]
  exact EI r (k+1) t λi=>by rw[show k+1+i=k+(i+1) by omega];exact h _
theorem FE{S:Nat->Bool}:∀ (fx:List Fx) (k:Nat) (t:Mem),(∀ i,S (k+i)=false)->mS S k fx t=t
 | [],_,_,_=>rfl
 | f::r,k,t,h=>by
  have h0:=h 0
  rw[Nat.add_zero] at h0
  unfold mS
  rw[h0]
  exact FE r (k+1) t λi=>by rw[show k+1+i=k+(i+1) by omega];exact h _
theorem O4{S:Nat->Bool}{d:Option Nat}{v:AVal}:∀ (fx:List Fx) (k:Nat) (t:Nat->AVal),(∀ i f,fx[i]? =some f->S (k+i)=true->∀ x,d=some x->f.dst≠some x)->tS S k fx (n7 t d v)=n7 (tS S k fx t) d v
 | [],_,_,_=>rfl
 | f::r,k,t,h=>by
  unfold tS
  have ih:=λt=>O4 (v:=v) r (k+1) t λi g hi hs=>h (i+1) g (by simp_all) (by rw[show k+(i+1)=k+1+i by omega];omega)
  cases hs:S k with
  | false=>simp_all
  | true=>
   simp only[if_true]
   rw[M6 _ _ _ _ _ (h 0 f rfl (by omega)),ih]
theorem QH{S:Nat->Bool}{wr:List (Nat×Ent)}:∀ (fx:List Fx) (k:Nat) (t:Mem),(∀ i f,fx[i]? =some f->S (k+i)=true->∀ p∈wr,∀ q∈f.wr,p.1≠q.1)->mS S k fx (bQ t wr)=bQ (mS S k fx t) wr
 | [],_,_,_=>rfl
 | f::r,k,t,h=>by
  unfold mS
  have ih:=λt=>QH r (k+1) t λi g hi hs=>h (i+1) g (by simp_all) (by rw[show k+(i+1)=k+1+i by omega];omega)
  cases hs:S k with
  | false=>simp_all
  | true=>
   simp only[if_true]
   rw[MA _ _ _ (h 0 f rfl (by omega)),ih]
theorem C0{S S':Nat->Bool}{f:Fx}:∀ (fx:List Fx) (k j:Nat) (t:Nat->AVal),fx[j]? =some f->S (k+j)=false->S' (k+j)=true->(∀ i,i≠j->S' (k+i)=S (k+i))->
  (∀ i g,fx[i]? =some g->j<i->S (k+i)=true->∀ x,f.dst=some x->g.dst≠some x)->tS S' k fx t=n7 (tS S k fx t) f.dst f.v
 | [],k,j,t,h,_,_,_,_=>by grind
 | g::r,k,0,t,h,h1,h2,h3,h4=>by
  simp at h;subst h
  rw[Nat.add_zero] at h1 h2
  unfold tS
  rw[h1,h2]
  simp only[if_true,Bool.false_eq_true,if_false]
  have e1:=EH (S:=S') (S':=S) r (k+1) (n7 t g.dst g.v) (λi _=>by have:=h3 (i+1) (by omega);rw[show k+1+i=k+(i+1) by omega];omega)
  rw[e1]
  exact O4 r (k+1) t λi g' hi hs=>h4 (i+1) g' (by simp_all) (by omega) (by rw[show k+(i+1)=k+1+i by omega];omega)
 | g::r,k,j+1,t,h,h1,h2,h3,h4=>by
  unfold tS
  have h0:=h3 0 (by omega)
  rw[Nat.add_zero] at h0
  rw[h0]
  exact C0 r (k+1) j _ (by simp_all) (by rw[show k+1+j=k+(j+1) by omega];omega) (by rw[show k+1+j=k+(j+1) by omega];omega)
   (λi hi=>by rw[show k+1+i=k+(i+1) by omega];simp_all) (λi g' hi hlt hs=>h4 (i+1) g' (by simp_all) (by omega) (by rw[show k+(i+1)=k+1+i by omega];omega))
theorem DE{S S':Nat->Bool}{f:Fx}:∀ (fx:List Fx) (k j:Nat) (t:Mem),fx[j]? =some f->S (k+j)=false->S' (k+j)=true->(∀ i,i≠j->S' (k+i)=S (k+i))->
  (∀ i g,fx[i]? =some g->j<i->S (k+i)=true->∀ p∈f.wr,∀ q∈g.wr,p.1≠q.1)->mS S' k fx t=bQ (mS S k fx t) f.wr
 | [],k,j,t,h,_,_,_,_=>by grind
 | g::r,k,0,t,h,h1,h2,h3,h4=>by
  simp at h;subst h
  rw[Nat.add_zero] at h1 h2
  unfold mS
  rw[h1,h2]
  simp only[if_true,Bool.false_eq_true,if_false]
  have e1:=FD (S:=S') (S':=S) r (k+1) (bQ t g.wr) (λi _=>by have:=h3 (i+1) (by omega);rw[show k+1+i=k+(i+1) by omega];omega)
  rw[e1]
  exact QH r (k+1) t λi g' hi hs=>h4 (i+1) g' (by simp_all) (by omega) (by rw[show k+(i+1)=k+1+i by omega];omega)
 | g::r,k,j+1,t,h,h1,h2,h3,h4=>by
  unfold mS
  have h0:=h3 0 (by omega)
  rw[Nat.add_zero] at h0
  rw[h0]
  exact DE r (k+1) j _ (by simp_all) (by rw[show k+1+j=k+(j+1) by omega];omega) (by rw[show k+1+j=k+(j+1) by omega];omega)
   (λi hi=>by rw[show k+1+i=k+(i+1) by omega];simp_all) (λi g' hi hlt hs=>h4 (i+1) g' (by simp_all) (by omega) (by rw[show k+(i+1)=k+1+i by omega];omega))
end Go.Abs
/- Regions whose order is drawn: what the checks say. -/
namespace Go.Abs
open Go
section
variable {P:Program} {E:Env} {rts:Nat->Option (List Nat)}
theorem oW(i:Nat):∀ l:List Nat,iC i l=true↔i∈l
 | []=>by simp[iC]
 | j::r=>by
  simp only[iC,Bool.or_eq_true,oW i r,List.mem_cons]
  simp
theorem sJ{xs ys:List Nat}(h:E7 xs ys=true):∀ x∈xs,x∉ys:=by
 intro x hx hy
 have:=List.all_eq_true.1 h x hx
 rw[(oW x ys).2 hy] at this
 simp_all
theorem NA{ev ev':Operand->AVal}(o:Oper)(h:∀ x∈o.op.operands,ev x=ev' x):opR E rts o ev=opR E rts o ev':=by
 obtain⟨dst,op,type,pos,after,guard⟩:=o
 have pairs:∀ ps:Array (Nat×Operand),(∀ x∈ps.map (·.2),ev x=ev' x)->(ps.toList.map λp=>(p.1,ev p.2))=(ps.toList.map λp=>(p.1,ev' p.2)):=λps hp=>
  List.map_congr_left λp hm=>by
   rw[hp p.2 (Array.mem_map.2 ⟨p,Array.mem_toList_iff.1 hm,rfl⟩)]
 cases op<;>simp only[Op.operands] at h<;>simp only[I3,opD]
 case build t ps=>rw[pairs ps λx hx=>h x (by simp_all)]
 case buildSlice t n ps=>rw[pairs ps λx hx=>h x (by simp_all)]
 case call c=>
  have ha:c.args.toList.map ev=c.args.toList.map ev':=List.map_congr_left λx hx=>h x (by simp[Call.operands];simp_all)
  rw[ha]
  cases hc:c.callee with
  | value f=>
   have hf:ev f=ev' f:=h f (by simp[Call.operands,hc])
   simp_all
  | _=>rfl
 case slice t x lo hi mx=>cases lo<;>cases hi<;>cases mx<;>simp_all
 all_goals (first | rfl | (simp_all;done))
theorem NB{ev ev':Operand->AVal}(o:Oper)(h:∀ x∈o.op.operands,ev x=ev' x):opQ E rts o ev=opQ E rts o ev':=by
 have e:LG o ev=LG o ev':=by
  unfold LG
  have key:∀ l:List Operand,(∀ x∈l,ev x=ev' x)->(l.flatMap λx=>LT (ev x))=l.flatMap λx=>LT (ev' x):=by
   intro l
   induction l with
   | nil=>simp
   | cons x l ih=>
    simp_all
  simp_all
 unfold opQ
 rw[e,NA o h]
theorem StepD.congr{l:List Oper}{o:Oper}{t t':Nat->AVal}{m m':Mem}{v:AVal}{wr:List (Nat×Ent)}{tr:List Nat}(h:StepD E rts l o t m v wr tr)(ht:∀ d∈wM l o,t' d=t d)(hm:∀ id∈tr,m' id=m id):
  StepD E rts l o t' m' v wr tr:=by
 have hg:∀ b,GuardIs l o t b->GuardIs l o t' b:=by
  intro b hb
  unfold GuardIs at*
  split at hb
  ·omega
  ·rename_i j want hg
   obtain⟨d,hd,hb⟩:=hb
   refine⟨d,hd,?_⟩
   rw[ht d (List.mem_append_right _ (by rw[hg];grind))]
   omega
 rcases h with ⟨h1,e,h2,h3,h4⟩ | ⟨h1,h2⟩
 ·refine .inl ⟨hg _ h1,e,?_,h3,h4⟩
  have:opQ E rts o (cA t')=opQ E rts o (cA t):=NB o λx hx=>by
   cases x with
   | tmp d=>exact ht d (List.mem_append_left _ (List.mem_filterMap.2 ⟨.tmp d,by simp_all,rfl⟩))
   | _=>rfl
  rw[this]
  exact Does.frame _ _ hm h2
 ·exact .inr ⟨hg _ h1,h2⟩
theorem L2:∀ (l:List Oper) (acc:List (List Nat)),(fP l acc).length=acc.length+l.length
 | [],acc=>by rfl
 | o::r,acc=>by unfold fP;rw[L2 r];grind
theorem FT:∀ (l:List Oper) (acc:List (List Nat)) (i:Nat),i<acc.length->(fP l acc)[i]? =acc[i]?
 | [],acc,i,_=>rfl
 | o::r,acc,i,h=>by
  unfold fP
  rw[FT r _ i (by grind),List.getElem?_append_left h]
theorem HS(A:Nat->List Nat):∀ (es:List Nat) (s:List Nat) (x:Nat),x∈es.foldl (λs j=>(j::A j).foldl (λs x=>if iC x s then s else x::s) s) s->x∈s\/∃ j∈es,x∈j::A j
 | [],s,x,h=> .inl h
 | j::es,s,x,h=>by
  have inner:∀ (l s:List Nat) (x:Nat),x∈l.foldl (λs x=>if iC x s then s else x::s) s->x∈s\/x∈l:=by
   intro l
   induction l with
   | nil=>simp
   | cons y l ih=>
    grind
  rw[List.foldl_cons] at h
  rcases HS A es _ x h with h | ⟨j',hj,h⟩
  ·grind
  grind
theorem L1:∀ (l:List Oper) (acc:List (List Nat)) (k:Nat) (bs:List Nat) (x:Nat),(fP l acc)[acc.length+k]? =some bs->x∈bs->
  ∃ o e,l[k]? =some o/\e∈o.after/\Region.binds .any e=true/\(x=e.on\/∃ bs',(fP l acc)[e.on]? =some bs'/\x∈bs')
 | [],acc,k,bs,x,h,hx=>by simp[fP] at h
 | o ::r,acc,k,bs,x,h,hx=>by
  cases k with
  | zero=>
   unfold fP at h
   rw[Nat.add_zero,FT r _ _ (by simp),List.getElem?_append_right (Nat.le_refl _)] at h
   simp only[Nat.sub_self,List.getElem?_cons_zero,Option.some.injEq] at h
   rw[<- h] at hx
   rcases HS _ _ _ _ hx with hx | ⟨j,hj,hx⟩
   ·grind
   ·obtain⟨e,he,hej⟩:=List.mem_filterMap.1 hj
    split at hej
    ·rename_i hb
     cases hej
     refine⟨o,e,rfl,Array.mem_toList_iff.1 he,hb,?_⟩
     rcases List.mem_cons.1 hx with hx | hx
     ·omega
     ·right
      cases ha:acc[e.on]? with
      | none=>rw[ha] at hx;grind
      | some bs'=>
       rw[ha] at hx
       refine⟨bs',?_,hx⟩
       have hlt:=(List.getElem?_eq_some_iff.1 ha).1
       rw[FT _ _ _ hlt,ha]
    simp_all
  | succ k=>
   obtain⟨B,hB⟩:∃ B,fP (o::r) acc=fP r (acc++[B]):=⟨_,rfl⟩
   rw[hB] at h ⊢
   have hl:(acc++[B]).length=acc.length+1:=by simp
   obtain⟨o',e,h1,h2,h3,h4⟩:=L1 r (acc++[B]) k bs x (by rw[hl,show acc.length+1+k=acc.length+(k+1) by omega];omega) hx
   grind
theorem yO{l:List Oper}:∀ (rest:List (Oper×mC×List Nat)) (k:Nat) (seen:List (Oper×mC)),seen.length=k->zL l k rest seen=true->
  ∀ q o tr bs,rest[q]? =some (o,tr,bs)->(∀ e∈o.after,Region.binds .any e=true->e.on<k+q)/\(∀ i o' tr',seen[i]? =some (o',tr')->i∈bs\/nW l o' o tr' tr=true)/\
   (∀ p o' tr' bs',p<q->rest[p]? =some (o',tr',bs')->(k+p)∈bs\/nW l o' o tr' tr=true)
 | [],k,seen,hl,h,q,o,tr,bs,hq=>by simp_all
 | (o0,tr0,bs0)::r,k,seen,hl,h,q,o,tr,bs,hq=>by
  unfold zL at h
  simp only[Bool.and_eq_true] at h
  obtain⟨⟨h1,h2⟩,h3⟩:=h
  cases q with
  | zero=>
   simp only[List.getElem?_cons_zero,Option.some.injEq,Prod.mk.injEq] at hq
   obtain⟨rfl,rfl,rfl⟩:=hq
   refine⟨λe he hb=>?_,λi o' tr' hi=>?_,λp _ _ _ hp=>by omega⟩
   ·have:=List.all_eq_true.1 h1 e (Array.mem_toList_iff.2 he)
    rw[hb] at this
    simp_all
   ·have:=List.all_eq_true.1 h2 ((o',tr'),i) (by
     grind)
    simp only[Bool.or_eq_true] at this
    exact this.imp (oW _ _).1 id
  | succ q=>
   obtain⟨i1,i2,i3⟩:=yO r (k+1) (seen++[(o0,tr0)]) (by grind) h3 q o tr bs (by simp_all)
   refine⟨λe he hb=>by grind,λi o' tr' hi=>?_,λp o' tr' bs' hp hpp=>?_⟩
   ·grind
   ·cases p with
    | zero=>
     simp_all
    | succ p=>
     grind
theorem yE{ρ:Type}{l:List Oper}{K:St->List mC->Option ρ}{r:ρ}:∀ (suf:List Oper) (i:Nat) (s:St) (acc:List mC),pW E rts l suf s acc K=some r->
  ∃ (fx:List Fx) (s':St),fx.length=suf.length/\K s' (acc.reverse++fx.map λf=>(f.tr.reverse,f.wr))=some r/\s'.t=tS (λ_=>true) i fx s.t/\s'.m=mS (λ_=>true) i fx s.m/\
   ∀ k o f,suf[k]? =some o->fx[k]? =some f->f.dst=o.dst/\(∀ d,o.dst=some d->d<E.n)/\StepD E rts l o (tS (λx=>decide (x<i+k)) i fx s.t) (mS (λx=>decide (x<i+k)) i fx s.m) f.v f.wr f.tr
 | [],i,s,acc,h=>⟨[],s,rfl,by unfold pW at h;simp_all,rfl,rfl,λk o f hk=>by simp⟩
 | o::suf,i,s,acc,h=>by
  unfold pW at h
  obtain⟨hd,v,wr,tr,s1,h1,h2,h3,h4⟩:=AB h
  obtain⟨fx,s',a1,a2,a3,a4,a5⟩:=yE suf (i+1) s1 _ h4
  refine⟨⟨o.dst,v,wr,tr⟩::fx,s',by grind,?_,?_,?_,?_⟩
  ·simp_all
  ·rw[a3,h2];rfl
  ·rw[a4,h3];rfl
  ·intro k o' f hk hf
   cases k with
   | zero=>
    simp only[List.getElem?_cons_zero,Option.some.injEq] at hk hf
    subst hk hf
    refine⟨rfl,hd,?_⟩
    rw[EI _ _ _ λx=>by simp,FE _ _ _ λx=>by simp]
    omega
   | succ k=>
    obtain⟨b1,b2,b3⟩:=a5 k o' f (by simp_all) (by simp_all)
    refine⟨b1,b2,?_⟩
    unfold tS mS
    grind
end
end Go.Abs
/- Regions whose order is drawn: any order is as good. -/
namespace Go.Abs
open Go
section
variable {P:Program} {E:Env} {rts:Nat->Option (List Nat)}
variable {n0:Nat} {ab rb:Nat->Prop} {w0:World} {N:Fix}
theorem LW{L:Array Bool}{i:Nat}(h:i<L.size):L.getD i true=L.getD i false:=by
 simp_all
theorem i8{l:List Oper}{x y:Oper}{tx ty:mC}(h:nW l x y tx ty=true):
  (∀ d,x.dst=some d->d∉wM l y)/\(∀ d,x.dst=some d->y.dst≠some d)/\(∀ d,y.dst=some d->d∉wM l x)/\
  (∀ p∈tx.2,p.1∉ty.1)/\(∀ p∈ty.2,p.1∉tx.1)/\(∀ p∈tx.2,∀ q∈ty.2,p.1≠q.1):=by
 unfold nW at h
 simp only[Bool.and_eq_true] at h
 obtain⟨⟨⟨⟨h1,h2⟩,h3⟩,h4⟩,h5⟩:=h
 refine⟨λd hd hx=>?_,λd hd hx=>?_,λd hd hx=>?_,λp hp=>sJ h3 _ (List.mem_map.2 ⟨p,hp,rfl⟩),λp hp=>sJ h4 _ (List.mem_map.2 ⟨p,hp,rfl⟩),
  λp hp q hq e=>sJ h5 _ (List.mem_map.2 ⟨p,hp,rfl⟩) (by rw[e];grind)⟩
 ·rw[hd] at h1
  dsimp only at h1
  rw[Bool.and_eq_true] at h1
  have h1':=h1.1
  rw[(oW _ _).2 hx] at h1';grind
 ·rw[hd,hx] at h1
  simp_all
 ·rw[hd] at h2
  have h2':(!iC d (wM l x))=true:=h2
  rw[(oW _ _).2 hx] at h2';grind
theorem HU(n:Nat)(p p':Nat->Bool)(h:∀ i,p' i=true->p i=true)(j:Nat)(hj:j<n)(h1:p j=true)(h2:p' j=false):
  ((List.range n).filter p').length<((List.range n).filter p).length:=by
 have e:(List.range n).filter p'=((List.range n).filter p).filter p':=by
  rw[List.filter_filter]
  refine List.filter_congr λx _=>?_
  simp_all
 rw[e]
 exact List.length_filter_lt_length_iff_exists.2 ⟨j,List.mem_filter.2 ⟨List.mem_range.2 hj,h1⟩,by grind⟩
theorem HV (hT:TOk P E.ti) (hD:9<=P.depth) (hC:∀ g as out,E.call g as=some out->lZ P E.ti rts E.fresh g as out) (hN:NOk E N) {ops:Array Oper} {Q:Exit->Act->World->Prop}
    {fx:List Fx} {t0:Nat->AVal} {m0:Mem} (hlen:fx.length=ops.size)
    (H:∀ (k:Nat) (o:Oper) (f:Fx),ops[k]? =some o->fx[k]? =some f->f.dst=o.dst/\(∀ d,o.dst=some d->d<E.n)/\StepD E rts ops.toList o (tS (λx=>decide (x<k)) 0 fx t0) (mS (λx=>decide (x<k)) 0 fx m0) f.v f.wr f.tr)
    {bef:List (List Nat)} (hbl:bef.length=ops.size)
    (hb:∀ (k:Nat) (bs:List Nat) (x:Nat),bef[k]? =some bs->x∈bs->∃ o e,ops[k]? =some o/\e∈o.after/\Region.binds .any e=true/\(x=e.on\/∃ bs',bef[e.on]? =some bs'/\x∈bs'))
    (hon:∀ (k:Nat) (o:Oper),ops[k]? =some o->∀ e∈o.after,Region.binds .any e=true->e.on<k)
    (hap:∀ (i k:Nat) (o o':Oper) (f f':Fx) (bs:List Nat),i<k->ops[i]? =some o->ops[k]? =some o'->fx[i]? =some f->fx[k]? =some f'->bef[k]? =some bs->i∈bs\/nW ops.toList o o' (f.tr.reverse,f.wr) (f'.tr.reverse,f'.wr)=true)
    (hQ:∀ a w loc ow,Rel n0 ab rb w0 N (tS (λ_=>true) 0 fx t0) (mS (λ_=>true) 0 fx m0) a w loc ow->Q .normal a w):
    ∀ (aA:Nat) (L:Array Bool) (a:Act) (w:World) (loc:Nat->Loc) (ow:Nat->Option Nat),L.size=ops.size->((List.range ops.size).filter λi=> !L.getD i true).length<=aA->
      (∀ (k:Nat) (bs:List Nat) (x:Nat),bef[k]? =some bs->L.getD k false=true->x∈bs->L.getD x false=true)->Rel n0 ab rb w0 N (tS (λi=>L.getD i false) 0 fx t0) (mS (λi=>L.getD i false) 0 fx m0) a w loc ow->
      wpAny P .any ops Q aA L a w:=by
  intro aA
  induction aA with
  | zero=>
    intro L a w loc ow hs hf hcl R
    have hr:Region.ready .any ops L=[]:=by
      refine List.eq_nil_iff_forall_not_mem.2 λj hj=>?_
      obtain⟨h1,o,h2,_⟩:=mem_ready.1 hj
      have hj':j∈(List.range ops.size).filter λi=> !L.getD i true:=List.mem_filter.2 ⟨List.mem_range.2 (Array.getElem?_eq_some_iff.1 h2).1,by rw[h1];rfl⟩
      simp_all
    refine⟨hr,?_⟩
    have hall:∀ k,k<ops.size->L.getD k false=true:=by
      simp_all
    rw[EH fx 0 t0 (S':=λ_=>true) (λi hi=>by simp_all),FD fx 0 m0 (S':=λ_=>true) (λi hi=>by simp_all)] at R
    grind
  | succ aA ih=>
    intro L a w loc ow hs hf hcl R
    refine⟨λhr=>?_,λj hj=>?_⟩
    · have hall:∀ n k,k<n->k<ops.size->L.getD k false=true:=by
        intro n
        induction n with
        | zero=>omega
        | succ n ihn=>
          intro k hk hlt
          cases hh:L.getD k false with
          | true=>rfl
          | false=>
            have:k∈Region.ready .any ops L:=mem_ready.2 ⟨by rw[LW (by omega),hh],ops[k],Array.getElem?_eq_getElem hlt,λe he hbb=>by
              grind⟩
            rw[hr] at this;simp_all
      rw[EH fx 0 t0 (S':=λ_=>true) (λi hi=>by grind),FD fx 0 m0 (S':=λ_=>true) (λi hi=>by grind)] at R
      grind
    · obtain⟨h1,o,ho,hall⟩:=mem_ready.1 hj
      have hjlt:j<ops.size:=(Array.getElem?_eq_some_iff.1 ho).1
      have hun:L.getD j false=false:=by rw[<- LW (by omega)];omega
      obtain⟨f,hfj⟩:∃ f,fx[j]? =some f:=⟨_,List.getElem?_eq_getElem (show j<fx.length by omega)⟩
      obtain⟨hdst,hdok,hstep⟩:=H j o f ho hfj
      obtain⟨bj,hbj⟩:∃ b,bef[j]? =some b:=⟨_,List.getElem?_eq_getElem (show j<bef.length by omega)⟩
      have hclj:∀ x∈bj,L.getD x false=true:=by
        intro x hx
        obtain⟨o',e,e1,e2,e3,e4⟩:=hb j bj x hbj hx
        rw[ho] at e1;cases e1
        have hl:=hall e e2 e3
        rcases e4 with rfl | ⟨bs',e5,e6⟩
        · omega
        grind
      -- ops before that touch it are done; ops behind that touch it are not
      have hbefore:∀ (i:Nat) (oi:Oper) (fi:Fx),i<j->ops[i]? =some oi->fx[i]? =some fi->L.getD i false=true\/nW ops.toList oi o (fi.tr.reverse,fi.wr) (f.tr.reverse,f.wr)=true:=by
        grind
      have hbehind:∀ (k:Nat) (ok:Oper) (fk:Fx),j<k->ops[k]? =some ok->fx[k]? =some fk->L.getD k false=true->nW ops.toList o ok (f.tr.reverse,f.wr) (fk.tr.reverse,fk.wr)=true:=by
        intro k ok fk hlt hok hfk hk
        obtain⟨bk,hbk⟩:∃ b,bef[k]? =some b:=⟨_,List.getElem?_eq_getElem (show k<bef.length by grind)⟩
        grind
      have hopi:∀ (i:Nat) (fi:Fx),fx[i]? =some fi->∃ oi:Oper,ops[i]? =some oi/\fi.dst=oi.dst:=by
        grind
      have hstep':=hstep.congr (t':=tS (λi=>L.getD i false) 0 fx t0) (m':=mS (λi=>L.getD i false) 0 fx m0) (λd hd=>by
          refine z6 fx 0 t0 t0 rfl λi fi hfi hdi=>?_
          obtain⟨oi,hoi,he⟩:=hopi i fi hfi
          rw[he] at hdi
          rw[Nat.zero_add]
          rcases Nat.lt_trichotomy i j with hlt | rfl | hlt
          · rcases hbefore i oi fi hlt hoi hfi with h | h
            · rw[h];simp_all
            · exact absurd hd ((i8 h).1 d hdi)
          · rw[hun];simp
          · cases hh:L.getD i false with
            | true=>exact absurd hd ((i8 (hbehind i oi fi hlt hoi hfi hh)).2.2.1 d hdi)
            | false=>grind) (λid hid=>by
          refine BD fx 0 m0 m0 rfl λi fi hfi hdi=>?_
          obtain⟨oi,hoi,he⟩:=hopi i fi hfi
          obtain⟨q,hq,rfl⟩:=hdi
          rw[Nat.zero_add]
          rcases Nat.lt_trichotomy i j with hlt | rfl | hlt
          · rcases hbefore i oi fi hlt hoi hfi with h | h
            · rw[h];simp_all
            · exact absurd (List.mem_reverse.2 hid) ((i8 h).2.2.2.1 q hq)
          · rw[hun];simp
          · cases hh:L.getD i false with
            | true=>exact absurd (List.mem_reverse.2 hid) ((i8 (hbehind i oi fi hlt hoi hfi hh)).2.2.2.2.1 q hq)
            | false=>grind)
      have hjL:j<L.size:=by omega
      have hset:∀ i,i≠j->(L.setIfInBounds j true).getD i false=L.getD i false:=λi hi=>getD_set_ne false (Ne.symm hi)
      have hsetj:(L.setIfInBounds j true).getD j false=true:=by simp_all
      refine hstep'.wp hT hD hC hN R ho hdok λa' w' loc' ow' R'=>?_
      refine ih (L.setIfInBounds j true) a' w' loc' ow' (by grind) ?_ ?_ ?_
      · have:=HU ops.size (λi=> !L.getD i true) (λi=> !(L.setIfInBounds j true).getD i true) (λi hi=>by
            grind) j hjlt (by rw[h1];rfl) (by
            simp)
        omega
      · intro k bs x hbk hk hx
        by_cases hkj:k=j
        · grind
        grind
      · rw[C0 (S:=λi=>L.getD i false) fx 0 j t0 hfj (by rw[Nat.zero_add];omega) (by rw[Nat.zero_add];omega) (λi hi=>by rw[Nat.zero_add];simp_all) (λi g hg hlt hi x hx hgx=>by
            rw[Nat.zero_add] at hi
            obtain⟨oi,hoi,he⟩:=hopi i g hg
            exact(i8 (hbehind i oi g hlt hoi hg hi)).2.1 x (by rw[<- hdst];omega) (by rw[<- he];omega)),
          DE (S:=λi=>L.getD i false) fx 0 j m0 hfj (by rw[Nat.zero_add];omega) (by rw[Nat.zero_add];omega) (λi hi=>by rw[Nat.zero_add];simp_all) (λi g hg hlt hi p hp q hq=>by
            rw[Nat.zero_add] at hi
            obtain⟨oi,hoi,he⟩:=hopi i g hg
            exact(i8 (hbehind i oi g hlt hoi hg hi)).2.2.2.2.2 p hp q hq),hdst]
        omega
end
end Go.Abs
