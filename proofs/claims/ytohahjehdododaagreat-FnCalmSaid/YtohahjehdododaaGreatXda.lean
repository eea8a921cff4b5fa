/- What the functions of this program answer, part da. -/
import Derived.Test.YtohahjehdododaaGreatXer
import Derived.Test.YtohahjehdododaaGreatW3
import Derived.Test.YtohahjehdododaaGreatW4
import Derived.Test.YtohahjehdododaaGreatXgo
set_option linter.unusedVariables false
set_option maxHeartbeats 4000000
open Go.IntKind (i64)
namespace Go.Abs.Wz
open Go Go.Abs
theorem f180(b:List aO)(hb:B8 b)(hl:b.length<=aW):Ran p 7 180 [vf K22 (b,())] (zR (jN b)):=go180 λn hn=>by
 rw[<- RP hb.byL]
 have hs:b.length<=1048576:=hl
 by_cases h2:(b.length:Int)<6
 ·exact Ev.now λaA=>by unfold T180;refine(aE h2).trans ?_;rw[show fO b=none by unfold fO;rw[decide_eq_true h2];rfl];rfl
 have h6:6<=b.length:=by omega
 have e4:i64.wrap ((b.length:Int) - 4)=((b.length - 4:Nat):Int):=by rw[IntKind.wrap_i64];omega
 have hlen2:decide ((b.length:Int)<6)=false:=decide_eq_false h2
 have hc4:(decide ((0:Int)<=((b.length - 4:Nat):Int))&&decide (((b.length - 4:Nat):Int)<=(b.length:Int)))=true:=rng (c:=True) (d:=True) (by omega) (by omega)
 have hr:=US hb hl h6
 have hbt:ByL (b.take (b.length - 4)):=hb.byL.sub λx hx=>List.mem_of_mem_take hx
 have hlt:(b.take (b.length - 4)).length<=aW:=by rw[List.length_take];show _<=1048576;omega
 have hsum:=f178 (b.take (b.length - 4)) hbt hlt
 have eT:List.drop (α:=Row K5) ((b.length - 4:Nat):Int).toNat (List.take (α:=Row K5) b.length b)=b.drop (b.length - 4):=by
  show List.drop ((b.length - 4:Nat):Int).toNat (List.take b.length b)=b.drop (b.length - 4)
  rw[List.take_length,Int.toNat_natCast]
 cases hk:cL (y3 (b.take (b.length - 4))) (b.drop (b.length - 4))with
 | false=>
  exact Ev.now λaA=>by
   unfold T180;refine(aI h2).trans ?_;rw[show i64.wrap (((List.length (α:=Row K5) b:Nat):Int) - 4)=((b.length - 4:Nat):Int)from e4];refine(aM hc4).trans ?_;refine(aB (hsum n (by omega))).trans ?_;refine(aM hc4).trans ?_
   refine(aM (show(!cL (y3 (b.take (b.length - 4))) (List.drop (α:=Row K5) ((b.length - 4:Nat):Int).toNat (List.take (α:=Row K5) b.length b)))=true by rw[eT,hk];rfl)).trans ?_
   rw[show fO b=none by unfold fO;rw[hlen2,hk];rfl];rfl
 | true=>
 have G:=UR U1 hr
 have lo:=G.e.lo;have hi:=G.e.hi;have nn:=G.nn
 have hlen:(mR b).1.length=b.length - 4:=by show(b.take (b.length - 4)).length=_;rw[List.length_take];omega
 have hle:(mgE NS (mR b)).2.1.length=b.length - 4:=by rw[G.list];exact hlen
 have head:∀ {R:Option Out} (aA:Nat),(bif(mgE NS (mR b)).2.2.2.1 then some (zR none)else bif decide ((mgE NS (mR b)).1>i64.wrap ((((mgE NS (mR b)).2.1.length:Nat):Int) - (mgE NS (mR b)).2.2.1))then some (zR none)else
   bif decide (0<=i64.wrap ((mgE NS (mR b)).2.2.1+(mgE NS (mR b)).1))&&decide (i64.wrap ((mgE NS (mR b)).2.2.1+(mgE NS (mR b)).1)<=(((mgE NS (mR b)).2.1.length:Nat):Int))then
   bif decide (0<=(mgE NS (mR b)).2.2.1)&&decide ((mgE NS (mR b)).2.2.1<=(((i64.wrap ((mgE NS (mR b)).2.2.1+(mgE NS (mR b)).1)).toNat:Nat):Int))then
   (((aK p n) 191 [vf K22 ((((mgE NS (mR b)).2.1.take (i64.wrap ((mgE NS (mR b)).2.2.1+(mgE NS (mR b)).1)).toNat).drop (mgE NS (mR b)).2.2.1.toNat),())]).bind (dR [K34,K4] [])).bind λo12=>
   (((aK p n) 190 [.ref ⟨K196,((mgE NS (mR b)).2.1,i64.wrap ((mgE NS (mR b)).2.2.1+(mgE NS (mR b)).1),(mgE NS (mR b)).2.2.2.1,())⟩, vf K3 ((2:Int),())]).bind (dR [K44] [K196])).bind λo13=>
    iter (c180_22 (aK p n) aA b (sI (mgD NS (mR b))) o12 o13 (lF (aQ (rdK (mR b) 0))) (lF (aQ (rdK (mR b) 1))) (lF (aQ (rdK (mR b) 2))) (lF (aQ (rdK (mR b) 3))) (lF (aQ (rdK (mR b) 4))) (sI (mgA NS (mR b))) (lF (mgB NS (mR b))) (sI (mgC NS (mR b)))) aA ((0:Int),([]:List aU))
   else none else none)=R->T180 (aK p n) aA b=R:=by
  intro R aA hR
  unfold T180;refine(aI h2).trans ?_;rw[show i64.wrap (((List.length (α:=Row K5) b:Nat):Int) - 4)=((b.length - 4:Nat):Int)from e4];refine(aM hc4).trans ?_;refine(aB (hsum n (by omega))).trans ?_;refine(aM hc4).trans ?_
  refine(aF (show(!cL (y3 (b.take (b.length - 4))) (List.drop (α:=Row K5) ((b.length - 4:Nat):Int).toNat (List.take (α:=Row K5) b.length b)))=false by rw[eT,hk];rfl)).trans ?_
  refine(aM hc4).trans ?_
  refine(aG (f189 (rdK (mR b) 0) (hr.k 0) n (by omega))).trans ?_;refine(aG (f189 (rdK (mR b) 1) (hr.k 1) n (by omega))).trans ?_;refine(aG (f189 (rdK (mR b) 2) (hr.k 2) n (by omega))).trans ?_;refine(aG (f189 (rdK (mR b) 3) (hr.k 3) n (by omega))).trans ?_;refine(aG (f189 (rdK (mR b) 4) (hr.k 4) n (by omega))).trans ?_
  refine(aG (f190 (rdK (mR b) 5) 1 1 rfl (hr.k 5) (by omega) n (by omega))).trans ?_;refine(aG (f189 (mgA NS (mR b)).2 G.a n (by omega))).trans ?_;refine(aG (f190 (mgB NS (mR b)).2 1 1 rfl G.b (by omega) n (by omega))).trans ?_;refine(aG (f190 (mgC NS (mR b)).2 1 1 rfl G.c (by omega) n (by omega))).trans ?_;refine(aG (f189 (mgD NS (mR b)).2 G.d n (by omega))).trans ?_
  exact hR
 have un:qA NS (mR b)=true->fO b=none:=λh=>by unfold fO;rw[hlen2,hk,h];rfl
 have hbadE:qA NS (mR b)=((mgE NS (mR b)).2.2.2.1||decide ((mgE NS (mR b)).1>(((mgE NS (mR b)).2.1.length:Nat):Int) - (mgE NS (mR b)).2.2.1)):=rfl
 have ew:i64.wrap ((((mgE NS (mR b)).2.1.length:Nat):Int) - (mgE NS (mR b)).2.2.1)=(((mgE NS (mR b)).2.1.length:Nat):Int) - (mgE NS (mR b)).2.2.1:=by rw[IntKind.wrap_i64];omega
 have ep:i64.wrap ((mgE NS (mR b)).2.2.1+(mgE NS (mR b)).1)=(mgE NS (mR b)).2.2.1+(mgE NS (mR b)).1:=by rw[IntKind.wrap_i64];omega
 cases hE:(mgE NS (mR b)).2.2.2.1 with
 | true=>
  have:=un (by rw[hbadE,hE];rfl)
  exact Ev.now λaA=>head aA (by rw[hE,this];rfl)
 | false=>
 by_cases hgt:(mgE NS (mR b)).1>(((mgE NS (mR b)).2.1.length:Nat):Int) - (mgE NS (mR b)).2.2.1
 ·have:=un (by rw[hbadE,hE,decide_eq_true hgt];rfl)
  exact Ev.now λaA=>head aA (by rw[hE,ew,decide_eq_true hgt,this];rfl)
 have hbad:qA NS (mR b)=false:=by rw[hbadE,hE,decide_eq_false hgt];rfl
 have hR:=TL G hbad
 have hpb:ByL (fG NS (mR b)):=G.e.b8.byL.sub λx hx=>List.mem_of_mem_take (List.mem_of_mem_drop hx)
 have hpl:(fG NS (mR b)).length<=aW:=by unfold fG;rw[List.length_drop,List.length_take];show _<=1048576;omega
 have i1:(decide (0<=(mgE NS (mR b)).2.2.1+(mgE NS (mR b)).1)&&decide ((mgE NS (mR b)).2.2.1+(mgE NS (mR b)).1<=(((mgE NS (mR b)).2.1.length:Nat):Int)))=true:=rng (c:=True) (d:=True) (by omega) (by omega)
 have i2:(decide (0<=(mgE NS (mR b)).2.2.1)&&decide ((mgE NS (mR b)).2.2.1<=((((mgE NS (mR b)).2.2.1+(mgE NS (mR b)).1).toNat:Nat):Int)))=true:=rng (c:=True) (d:=True) (by omega) (by omega)
 have hg:=f191 (fG NS (mR b)) hpb.b8 hpl
 rw[KM hpb,M3] at hg
 have hz0:=R8 (fG NS (mR b))
 have e:fO b=bif(cT (fG NS (mR b))).isNone||((msF b).2.2.2.1||(!eX (msM b)|| !cL (bP (msM b)) b))then none else some (msM b):=by unfold fO;rw[hlen2,hk,hbad];rfl
 have hz:SzM (msM b):=TM G hz0 (JX _)
 have hm2:=qY (mgR NS (mR b)) 2
 have inn:It (λaA (_:Unit)=>c180_22 (aK p n) aA b (sI (mgD NS (mR b))) (TE ((cT (fG NS (mR b))).getD iM) (cT (fG NS (mR b))).isSome) (sI (bV (mgR NS (mR b)) 2)) (lF (aQ (rdK (mR b) 0))) (lF (aQ (rdK (mR b) 1))) (lF (aQ (rdK (mR b) 2))) (lF (aQ (rdK (mR b) 3))) (lF (aQ (rdK (mR b) 4))) (sI (mgA NS (mR b))) (lF (mgB NS (mR b))) (sI (mgC NS (mR b)))) ((0:Int),([]:List aU)) (λ_=>some (zR (fO b))):=by
  refine It.run (λk=>(((2*k:Nat):Int),fN (bV (mgR NS (mR b)) 2).1 k)) ((bV (mgR NS (mR b)) 2).1.length / 2) (λk hk aA u rec=>?_) (It.stop λaA u rec=>?_)
  ·have h1:2*k<(bV (mgR NS (mR b)) 2).1.length:=by omega
   have h2:2*k+1<(bV (mgR NS (mR b)) 2).1.length:=by omega
   have e1:i64.wrap (((2*k:Nat):Int)+1)=((2*k+1:Nat):Int):=by rw[IntKind.wrap_i64];omega
   have e2:i64.wrap (((2*k:Nat):Int)+2)=((2*(k+1):Nat):Int):=by rw[IntKind.wrap_i64];omega
   have hbd:(fN (bV (mgR NS (mR b)) 2).1 k).length+1<=bound:=by rw[sJ];unfold bound;omega
   show c180_22 (aK p n) aA b (sI (mgD NS (mR b))) (TE ((cT (fG NS (mR b))).getD iM) (cT (fG NS (mR b))).isSome) (sI (bV (mgR NS (mR b)) 2)) (lF (aQ (rdK (mR b) 0))) (lF (aQ (rdK (mR b) 1))) (lF (aQ (rdK (mR b) 2))) (lF (aQ (rdK (mR b) 3))) (lF (aQ (rdK (mR b) 4))) (sI (mgA NS (mR b))) (lF (mgB NS (mR b))) (sI (mgC NS (mR b))) rec (((2*k:Nat):Int),fN (bV (mgR NS (mR b)) 2).1 k)=rec (((2*(k+1):Nat):Int),fN (bV (mgR NS (mR b)) 2).1 (k+1))
   unfold c180_22;dsimp only;rw[e1,e2,wY];refine(aE (Int.ofNat_lt.2 h2)).trans ?_;refine bif_nn.trans ?_;refine(aH h1).trans ?_;refine(aH h1).trans ?_;refine bif_nn.trans ?_;refine(aH h2).trans ?_;refine(aH h2).trans ?_;refine(aE hbd).trans ?_;rfl
  ·have e1:i64.wrap ((((2*((bV (mgR NS (mR b)) 2).1.length / 2):Nat)):Int)+1)=((2*((bV (mgR NS (mR b)) 2).1.length / 2)+1:Nat):Int):=by rw[IntKind.wrap_i64];omega
   show c180_22 (aK p n) aA b (sI (mgD NS (mR b))) (TE ((cT (fG NS (mR b))).getD iM) (cT (fG NS (mR b))).isSome) (sI (bV (mgR NS (mR b)) 2)) (lF (aQ (rdK (mR b) 0))) (lF (aQ (rdK (mR b) 1))) (lF (aQ (rdK (mR b) 2))) (lF (aQ (rdK (mR b) 3))) (lF (aQ (rdK (mR b) 4))) (sI (mgA NS (mR b))) (lF (mgB NS (mR b))) (sI (mgC NS (mR b))) rec (((2*((bV (mgR NS (mR b)) 2).1.length / 2):Nat):Int),(msF b).1)=_
   unfold c180_22;dsimp only;rw[e1];refine(aI (show ¬ (((2*((bV (mgR NS (mR b)) 2).1.length / 2)+1:Nat):Int)<(((bV (mgR NS (mR b)) 2).1.length:Nat):Int)) by omega)).trans ?_
   cases hso:(cT (fG NS (mR b))).isSome with
   | false=>refine(aM rfl).trans ?_;rw[show fO b=none by rw[e,show(cT (fG NS (mR b))).isNone=true by rw[<- Option.not_isSome,hso];rfl];rfl];rfl
   | true=>
    have hno:(cT (fG NS (mR b))).isNone=false:=by rw[<- Option.not_isSome,hso];rfl
    refine(aF rfl).trans ?_
    cases hbd:(msF b).2.2.2.1 with
    | true=>refine(aM hbd).trans ?_;rw[show fO b=none by rw[e,hno,hbd];rfl];rfl
    | false=>
     refine(aF hbd).trans ?_;refine(aB (f176 (msM b) hz n (by omega))).trans ?_
     cases hm:eX (msM b)with
     | false=>refine(aM rfl).trans ?_;rw[show fO b=none by rw[e,hno,hbd,hm];rfl];rfl
     | true=>
      refine(aF rfl).trans ?_;refine(aB (f164 (msM b) hz n (by omega))).trans ?_
      cases he:cL (bP (msM b)) b with
      | false=>refine(aM (show(!cL (bP (msM b)) b)=true by rw[he];rfl)).trans ?_;rw[show fO b=none by rw[e,hno,hbd,hm,he];rfl];rfl
      | true=>refine(aF (show(!cL (bP (msM b)) b)=false by rw[he];rfl)).trans ?_;rw[show fO b=some (msM b) by rw[e,hno,hbd,hm,he];rfl];rfl
 have hcn:Ran p 3 190 [.ref ⟨K196,((mgE NS (mR b)).2.1,(mgE NS (mR b)).2.2.1+(mgE NS (mR b)).1,false,())⟩, vf K3 ((2:Int),())] (qZ (bV (mgR NS (mR b)) 2)):=by
  have h:=f190 (mgR NS (mR b)) 2 2 rfl hR (by omega)
  rw[show mgR NS (mR b)=((mgE NS (mR b)).2.1,(mgE NS (mR b)).2.2.1+(mgE NS (mR b)).1,false,()) by unfold mgR;rw[hE]] at h ⊢
  exact h
 exact Ev.eq (λaA=>head aA (by
  rw[hE,ew,ep,decide_eq_false hgt];refine(aF rfl).trans ?_;refine(aF rfl).trans ?_;refine(aM i1).trans ?_;refine(aM i2).trans ?_;refine(bE (hg n (by omega))).trans ?_;refine(aG (hcn n (by omega))).trans ?_;rfl)) (inn.ev (i:=()) rfl)
-- receiving bytes
def eS(x:NodeT)(b:List aO):NodeT×List bQ×Int:=match jN b with
 | none=>(x,[],1)
 | some m=>((gY x m).1,(gY x m).2.1.map (λa=>(bP a,())),(gY x m).2.2)
def SM(r:NodeT×List bQ×Int):Out:=⟨[⟨K54,r.1⟩,⟨K156,(r.2.1,())⟩,⟨K3,(r.2.2,())⟩],[]⟩
theorem rM{x:NodeT}{b:List aO}(h:jN b=none):eS x b=(x,[],1):=by unfold eS;rw[h]
theorem rL{x:NodeT}{b:List aO}{m:MsgT}(h:jN b=some m):eS x b=((gY x m).1,(gY x m).2.1.map (λa=>(bP a,())),(gY x m).2.2):=by unfold eS;rw[h]
theorem f179(x:NodeT)(b:List aO)(hz:SzN x)(hb:B8 b)(hl:b.length<=aW):Ran p 11 179 [va K54 x, vf K22 (b,())] (SM (eS x b)):=go179 λn hn=>by
 have hg:=f180 b hb hl
 cases hm:jN b with
 | none=>
  rw[hm] at hg
  exact Ev.now λaA=>by unfold T179;refine(bE (hg n (by omega))).trans ?_;refine(aM rfl).trans ?_;refine(aB (f78 x hz n (by omega))).trans ?_;rw[rM hm];rfl
 | some m=>
  rw[hm] at hg
  have zm:=FJ hm
  have rs:=JF hz zm
  have hrc:=f188 x m hz zm
  have lp:It (λaA (_:Unit)=>c179_7 (aK p n) aA (((gY x m).1,((gY x m).2.1,()),((gY x m).2.2,()),()),())) ((0:Int),([]:List bQ)) (λ_=>some (SM (eS x b))):=by
   refine It.run (λi=>((i:Int),((gY x m).2.1.take i).map (λa=>((bP a,()):bQ)))) (gY x m).2.1.length (λi hi aA u rec=>?_) (It.stop λaA u rec=>?_)
   ·have hbd:(((gY x m).2.1.take i).map (λa=>((bP a,()):bQ))).length+1<=bound:=by have:=rs.len;rw[List.length_map,List.length_take];unfold bound;omega
    have e:((gY x m).2.1.take (i+1)).map (λa=>((bP a,()):bQ))=((gY x m).2.1.take i).map (λa=>((bP a,()):bQ))++[(bP (gt (gY x m).2.1 i),())]:=by rw[nY hi,List.map_append];rfl
    show c179_7 (aK p n) aA (((gY x m).1,((gY x m).2.1,()),((gY x m).2.2,()),()),()) rec ((i:Int),((gY x m).2.1.take i).map (λa=>((bP a,()):bQ)))=rec (((i+1:Nat):Int),((gY x m).2.1.take (i+1)).map (λa=>((bP a,()):bQ)))
    rw[e]
    unfold c179_7;dsimp only;rw[aL (show i<9223372036854775807 by have:=rs.len;omega)];refine(aE (Int.ofNat_lt.2 hi)).trans ?_;refine bif_nn.trans ?_;refine(aH hi).trans ?_;refine(aH hi).trans ?_;refine(aB (f164 (gt (gY x m).2.1 i) (rs.msg _ (cJ hi)) n (by omega))).trans ?_;refine(aE hbd).trans ?_;rfl
   ·show c179_7 (aK p n) aA (((gY x m).1,((gY x m).2.1,()),((gY x m).2.2,()),()),()) rec (((gY x m).2.1.length:Int),((gY x m).2.1.take (gY x m).2.1.length).map (λa=>((bP a,()):bQ)))=_
    rw[List.take_length,rL hm]
    unfold c179_7;dsimp only;refine(aI (Int.lt_irrefl _)).trans ?_;rfl
  exact Ev.eq (λaA=>by unfold T179;refine(bE (hg n (by omega))).trans ?_;refine(aF rfl).trans ?_;refine(dK (hrc n (by omega))).trans ?_;rfl) (lp.ev (i:=()) rfl)
end Go.Abs.Wz
namespace Go.Abs.Wz
open Go Go.Abs
def MY(r:UY):Out:=⟨[⟨K54,r.1⟩,⟨K143,r.2.1⟩,⟨K4,(r.2.2,())⟩],[]⟩
theorem f150(x:NodeT)(i:Int):Ran p 2 150 [va K54 x, vf K3 (i,())] (rO K4 (mG x i,())):=go150 λn hn=>Ev.now λaA=>by
 unfold T150 mG;refine(aB (f33 i 0 (i64.wrap (x.2.1 - 1)) n (by omega))).trans ?_
 cases inB i 0 (i64.wrap (x.2.1 - 1))<;>rfl
theorem f126(x:NodeT)(i:Int)(hz:SzN x):Ran p 8 126 [va K54 x, vf K3 (i,())] (MY (i7 x i)):=go126 λn hn=>Ev.now λaA=>by
 have bad:pO x i=false->(some ⟨[⟨K54,x⟩,⟨K143,BF⟩,⟨K4,(false,())⟩],[]⟩:Option Out)=some (MY (i7 x i)):=λh=>by rw[QR h];rfl
 unfold T126;refine(aB (f78 x hz n (by omega))).trans ?_;refine(aB (f34 x hz n (by omega))).trans ?_
 cases g1:dJ x with
 | false=>refine(aM rfl).trans ?_;exact bad (by unfold pO;rw[g1];rfl)
 | true=>
 refine(aF rfl).trans ?_;refine(aB (f150 x i n (by omega))).trans ?_
 cases g2:mG x i with
 | false=>refine(aM rfl).trans ?_;exact bad (by unfold pO;rw[g1,g2];rfl)
 | true=>
 refine(aF rfl).trans ?_;refine(aB (f151 x i false hz.sess n (by omega))).trans ?_
 by_cases g3:c6 x.sess i false>=0
 ·refine(aE g3).trans ?_;exact bad (by unfold pO;rw[g1,g2,decide_eq_true g3];rfl)
 refine(aI g3).trans ?_
 have hle:=((cV x).1 ((eU x).1 g1).sess).1
 cases g4:(x.sess.length:Int)==x.slots with
 | true=>
  have e:=eq_of_beq g4
  (first | refine(aM g4).trans ?_ | refine(aE (show(x.sess.length:Int)>=x.slots by omega)).trans ?_);exact bad (by unfold pO;rw[g1,g2,decide_eq_false g3,g4];rfl)
 | false=>
 have e:(x.sess.length:Int)≠x.slots:=by rw[beq_eq_false_iff_ne] at g4;exact g4
 (first | refine(aF g4).trans ?_ | refine(aI (show ¬ (x.sess.length:Int)>=x.slots by omega)).trans ?_)
 cases g5:x.num==100000 with
 | true=>(first | refine(aM g5).trans ?_ | refine(aM rfl).trans ?_);exact bad (by unfold pO;rw[g1,g2,decide_eq_false g3,g4,g5];rfl)
 | false=>
 (first | refine(aF g5).trans ?_ | refine(aF rfl).trans ?_)
 have ok:pO x i=true:=by unfold pO;rw[g1,g2,decide_eq_false g3,g4,g5];rfl
 have hb:x.sess.length+1<=bound:=by have:=hz.sess;unfold aW at this;unfold bound;omega
 have hz2:=EN hz (tL ok)
 rw[MW ok];refine(aE hb).trans ?_;refine(aB (f152 (EO x i) 2 i (i64.wrap (x.num+1)) hz2 n (by omega))).trans ?_;refine(aB (f109 x.tree hz.leaves n (by omega))).trans ?_;rfl
end Go.Abs.Wz
namespace Go.Abs.Wz
open Go Go.Abs
theorem y6(i:Int)(e:bF):∃ b:Bool,Ran p 4 142 [vf K3 (i,()), va K69 e] ⟨[⟨K34,zM i e⟩,⟨K4,(b,())⟩],[]⟩:=by
 have hs:=f25 ([(i,e)],[],()) (by show 1<=9223372036854775807;omega) (by show 0<=9223372036854775807;omega)
 unfold zM
 cases ho:aS ([(i,e)],[],())with
 | false=>exact⟨false,go142 λn hn=>Ev.now λaA=>by unfold T142;refine(aB (hs n (by omega))).trans ?_;rw[ho];rfl⟩
 | true=>exact⟨true,go142 λn hn=>Ev.now λaA=>by unfold T142;refine(aB (hs n (by omega))).trans ?_;rw[ho];rfl⟩
theorem f182(i:Int)(e:bF):Ran p 5 182 [vf K3 (i,()), va K69 e] ⟨[⟨K34,zM i e⟩,⟨K3,((0:Int),())⟩],[]⟩:=by
 obtain⟨b,hs⟩:=y6 i e
 exact go182 λn hn=>Ev.now λaA=>by unfold T182;refine(bE (hs n (by omega))).trans ?_;rfl
theorem f169(s:aJ)(i:Int)(hz:SzS s):Ran p 6 169 [va K34 s, vf K3 (i,())] ⟨[⟨K34,(qR s i).1⟩,⟨K3,((qR s i).2,())⟩],[]⟩:=go169 λn hn=>Ev.now λaA=>by
 unfold T169 qR;refine(aB (f25 s (aZ hz.a) (aZ hz.b) n (by omega))).trans ?_
 cases aS s with
 | false=>rfl
 | true=>
 refine(aF rfl).trans ?_;refine(aB (f52 i n (by omega))).trans ?_
 cases eM i with
 | false=>rfl
 | true=>
 refine(aF rfl).trans ?_;refine(bE (f181 s i hz n (by omega))).trans ?_
 cases (oP s i).2 with
 | true=>rfl
 | false=>
 refine(aF rfl).trans ?_;refine(bE (f62 s i (aZ hz.a) n (by omega))).trans ?_;refine(aB (f54 s i (aZ hz.b) n (by omega))).trans ?_;refine(aB (f61 (bJ s i).1.1 (cM s.2.1 i) n (by omega))).trans ?_
 cases h:uF s i==1000 with
 | true=>(first | refine(aM h).trans ?_ | refine(aM rfl).trans ?_);rfl
 | false=>(first | refine(aF h).trans ?_ | refine(aF rfl).trans ?_);refine(bE (f182 i (i64.wrap (uF s i+1),0,0,0,⟨#[]⟩,()) n (by omega))).trans ?_;rfl
theorem f183(s:aJ)(i:Int)(hz:SzS s):Ran p 6 183 [va K34 s, vf K3 (i,())] ⟨[⟨K69,(upE s i).1⟩,⟨K3,((upE s i).2,())⟩],[]⟩:=go183 λn hn=>Ev.now λaA=>by
 unfold T183 upE;refine(aB (f25 s (aZ hz.a) (aZ hz.b) n (by omega))).trans ?_
 cases aS s with
 | false=>rfl
 | true=>
 refine(aF rfl).trans ?_;refine(aB (f52 i n (by omega))).trans ?_
 cases eM i with
 | false=>rfl
 | true=>
 refine(aF rfl).trans ?_;refine(bE (f181 s i hz n (by omega))).trans ?_
 cases (oP s i).2<;>rfl
theorem f170(s:aJ)(i:Int)(hz:SzS s):Ran p 7 170 [va K34 s, vf K3 (i,())] ⟨[⟨K34,(qT s i).1⟩,⟨K3,((qT s i).2,())⟩],[]⟩:=go170 λn hn=>Ev.now λaA=>by
 unfold T170 qT;refine(bE (f183 s i hz n (by omega))).trans ?_
 cases h:(upE s i).2 != 0 with
 | true=>(first | refine(aM h).trans ?_ | refine(aM rfl).trans ?_);rfl
 | false=>
 (first | refine(aF h).trans ?_ | refine(aF rfl).trans ?_)
 cases h2:(upE s i).1.2.2.1==100000 with
 | true=>(first | refine(aM h2).trans ?_ | refine(aM rfl).trans ?_);rfl
 | false=>(first | refine(aF h2).trans ?_ | refine(aF rfl).trans ?_);refine(bE (f182 i ((upE s i).1.1,(upE s i).1.2.1,i64.wrap ((upE s i).1.2.2.1+1),(upE s i).1.2.2.2.1,(upE s i).1.2.2.2.2.1,()) n (by omega))).trans ?_;rfl
theorem f171(s:aJ)(i:Int)(t:ByteArray)(hz:SzS s):Ran p 7 171 [va K34 s, vf K3 (i,()), vf K9 (t,())] ⟨[⟨K34,(vA s i t).1⟩,⟨K3,((vA s i t).2,())⟩],[]⟩:=go171 λn hn=>Ev.now λaA=>by
 unfold T171 vA;refine(bE (f183 s i hz n (by omega))).trans ?_
 cases h:(upE s i).2 != 0 with
 | true=>(first | refine(aM h).trans ?_ | refine(aM rfl).trans ?_);rfl
 | false=>
 (first | refine(aF h).trans ?_ | refine(aF rfl).trans ?_)
 cases h2:(upE s i).1.2.2.2.1==1000 with
 | true=>(first | refine(aM h2).trans ?_ | refine(aM rfl).trans ?_);rfl
 | false=>
 (first | refine(aF h2).trans ?_ | refine(aF rfl).trans ?_)
 by_cases h3:((ByteArray.size t:Nat):Int)>8
 ·refine(aE h3).trans ?_;rw[decide_eq_true h3];rfl
 ·refine(aI h3).trans ?_;rw[decide_eq_false h3];refine(bE (f182 i ((upE s i).1.1,(upE s i).1.2.1,(upE s i).1.2.2.1,i64.wrap ((upE s i).1.2.2.2.1+1),t,()) n (by omega))).trans ?_;rfl
theorem f172(s:aJ)(i:Int)(hz:SzS s):Ran p 7 172 [va K34 s, vf K3 (i,())] ⟨[⟨K34,(qS s i).1⟩,⟨K3,((qS s i).2,())⟩],[]⟩:=go172 λn hn=>Ev.now λaA=>by
 unfold T172 qS;refine(bE (f183 s i hz n (by omega))).trans ?_
 cases h:(upE s i).2 != 0 with
 | true=>(first | refine(aM h).trans ?_ | refine(aM rfl).trans ?_);rfl
 | false=>(first | refine(aF h).trans ?_ | refine(aF rfl).trans ?_);refine(bE (f182 i ((upE s i).1.1,1,(upE s i).1.2.2.1,(upE s i).1.2.2.2.1,(upE s i).1.2.2.2.2.1,()) n (by omega))).trans ?_;rfl
theorem f153(s:aJ)(k i:Int)(t:ByteArray)(hz:SzS s):Ran p 8 153 [va K34 s, vf K3 (k,()), vf K3 (i,()), vf K9 (t,())] ⟨[⟨K34,(fT s k i t).1⟩,⟨K3,((fT s k i t).2,())⟩],[]⟩:=go153 λn hn=>Ev.now λaA=>by
 unfold T153 fT
 cases k==0 with
 | true=>refine(aM rfl).trans ?_;refine(bE (f169 s i hz n (by omega))).trans ?_;rfl
 | false=>
 refine(aF rfl).trans ?_
 cases k==1 with
 | true=>refine(aM rfl).trans ?_;refine(bE (f170 s i hz n (by omega))).trans ?_;rfl
 | false=>
 refine(aF rfl).trans ?_
 cases k==2 with
 | true=>refine(aM rfl).trans ?_;refine(bE (f171 s i t hz n (by omega))).trans ?_;rfl
 | false=>refine(aF rfl).trans ?_;refine(bE (f172 s i hz n (by omega))).trans ?_;rfl
theorem f154(l:f8)(d:aJ)(hl:l.2.2.1.length<=aW)(hs:∀ i,i<l.2.2.1.length->SzS (gt l.2.2.1 i))(hz:SzS d):Ran p 5 154 [va K49 l, va K34 d] ⟨[⟨K49,(sO l d).1⟩,⟨K4,((sO l d).2,())⟩],[]⟩:=go154 λn hn=>Ev.now λaA=>by
 unfold T154 sO mQ;refine(aB (f110 l hl hs n (by omega))).trans ?_;refine(aB (f66 l hl hs n (by omega))).trans ?_
 cases g1:gR l with
 | false=>rfl
 | true=>
 refine(aF rfl).trans ?_;refine(aB (f25 d (aZ hz.a) (aZ hz.b) n (by omega))).trans ?_
 cases aS d with
 | false=>rfl
 | true=>
 refine(aF rfl).trans ?_
 cases h:i64.wrap (l.2.1+(l.2.2.1.length:Int))==100000 with
 | true=>(first | refine(aM h).trans ?_ | refine(aM rfl).trans ?_);rfl
 | false=>
 (first | refine(aF h).trans ?_ | refine(aF rfl).trans ?_)
 have hb:l.2.2.1.length+1<=bound:=by unfold aW at hl;unfold bound;omega
 have hlen:(l.2.2.1++[d]).length=l.2.2.1.length+1:=by rw[List.length_append,List.length_singleton]
 refine(aB (f80 d hz n (by omega))).trans ?_;refine(aE hb).trans ?_
 show _=some (⟨[⟨K49,gM l d⟩,⟨K4,(true,())⟩],[]⟩:Out)
 unfold gM
 by_cases hc:(((l.2.2.1++[d]).length:Nat):Int)>l.1
 ·refine(aE hc).trans ?_;rw[decide_eq_true hc]
  refine(uT (show(0:Int)<=1 by omega) (show(1:Int)<=(((l.2.2.1++[d]).length:Nat):Int) by rw[hlen];omega)).trans ?_
  refine(aE (show List.length ([]:List aJ)+(((l.2.2.1++[d]).take (l.2.2.1++[d]).length).drop ((1:Int)).toNat).length<=bound by rw[List.take_length,List.length_drop,hlen];simp;omega)).trans ?_
  show(some ⟨[⟨K49,(l.1,i64.wrap (l.2.1+1),(((l.2.2.1++[d]).take (l.2.2.1++[d]).length).drop ((1:Int)).toNat),())⟩,⟨K4,(true,())⟩],[]⟩:Option Out)=_
  rw[List.take_length];rfl
 ·refine(aI hc).trans ?_;rw[decide_eq_false hc];rfl
end Go.Abs.Wz
namespace Go.Abs.Wz
open Go Go.Abs
def NC(r:J6):Out:=⟨[⟨K54,r.1⟩,⟨K34,r.2.1⟩,⟨K3,(r.2.2,())⟩],[]⟩
theorem sC{s:aJ}(h:aS s=true):SzS s:=by
 have:=((aV s).1 h).len
 exact⟨by unfold aW;omega,by unfold aW;omega⟩
theorem f127(x:NodeT)(k i:Int)(t:ByteArray)(hz:SzN x):Ran p 9 127 [va K54 x, vf K3 (k,()), vf K3 (i,()), vf K9 (t,())] (NC (jF x k i t)):=go127 λn hn=>Ev.now λaA=>by
 have bad:tO x k i=false->(some ⟨[⟨K54,x⟩,⟨K34,([],[],())⟩,⟨K3,((1:Int),())⟩],[]⟩:Option Out)=some (NC (jF x k i t)):=λh=>by unfold jF;rw[h];rfl
 unfold T127;refine(aB (f78 x hz n (by omega))).trans ?_;refine(aB (f34 x hz n (by omega))).trans ?_
 cases g1:dJ x with
 | false=>refine(aM rfl).trans ?_;exact bad (by unfold tO;rw[g1];rfl)
 | true=>
 refine(aF rfl).trans ?_;refine(aB (f33 k 0 4 n (by omega))).trans ?_
 cases g2:inB k 0 4 with
 | false=>refine(aM rfl).trans ?_;exact bad (by unfold tO;rw[g1,g2];rfl)
 | true=>
 refine(aF rfl).trans ?_;refine(aB (f33 i 0 (i64.wrap (x.2.1 - 1)) n (by omega))).trans ?_
 cases g3:inB i 0 (i64.wrap (x.2.1 - 1))with
 | false=>refine(aM rfl).trans ?_;exact bad (by unfold tO;rw[g1,g2,g3];rfl)
 | true=>
 refine(aF rfl).trans ?_
 cases g4:nU (k==4) (i==x.1)with
 | true=>(first | refine(aM g4).trans ?_ | refine(aM rfl).trans ?_);exact bad (by unfold tO;rw[g1,g2,g3,g4];rfl)
 | false=>
 have ok:tO x k i=true:=by unfold tO;rw[g1,g2,g3,g4];rfl
 have hN:=(eU x).1 g1
 have hd:=EW x.state k i t
 (first | refine(aF g4).trans ?_ | refine(aF rfl).trans ?_);refine(bE (f153 x.state k i t hz.state n (by omega))).trans ?_
 unfold jF;rw[ok]
 cases g5:(fT x.state k i t).2 != 0 with
 | true=>(first | refine(aM g5).trans ?_ | refine(aM rfl).trans ?_);rfl
 | false=>
 (first | refine(aF g5).trans ?_ | refine(aF rfl).trans ?_);refine(bE (f154 x.log (fT x.state k i t).1 hz.list hz.logs (sC hd) n (by omega))).trans ?_
 unfold sO
 cases hb:mQ x.log (fT x.state k i t).1 with
 | false=>rfl
 | true=>
 have hid:=hN.id;have hn5:=hN.n;have hv:=hN.got
 rw[aP] at hid hn5
 rw[IntKind.wrap_i64] at hid
 unfold eG at hv
 simp only[Bool.and_eq_true,beq_iff_eq] at hv
 have h0:(0:Int)<=x.1:=hid.1
 have hk:x.1.toNat<x.got.length:=by omega
 refine(aF rfl).trans ?_;refine(aB (f78 x hz n (by omega))).trans ?_;refine(aE h0).trans ?_;refine(bH hk).trans ?_;refine(bH hk).trans ?_;refine(aE h0).trans ?_;refine(bH hk).trans ?_;refine(bH hk).trans ?_
 refine(aB (f123 (JD x (fT x.state k i t).1) (fT x.state k i t).1 (EX hz hN hb) (sC hd) (C2 (y9 hN hb)) hd n (by omega))).trans ?_;rfl
theorem yU{x:NodeT}(h:NodeOk x):NodeOk (eZ x):=by
 unfold eZ
 rw[(eU x).2 h]
 cases hc:x.clock==100000 with
 | true=>exact h
 | false=>
  have hcl:=h.clock;have hwt:=h.wait
  rw[aP] at hcl hwt
  have hne:x.clock≠100000:=by rw[beq_eq_false_iff_ne] at hc;exact hc
  have hw:i64.wrap (x.clock+1)=x.clock+1:=by rw[IntKind.wrap_i64];omega
  have hs:=(cV x).1 h.sess
  have tw:∀ s∈x.sess,i64.wrap (s.2.2.2.1+1)=s.2.2.2.1+1:=λs hm=>by
   have:=(hs.2.1 s hm).2.2.2;rw[aP] at this;rw[IntKind.wrap_i64];omega
  show NodeOk (rI x)
  have e:(rI x).sess=x.sess.flatMap λs=>bif decide (i64.wrap (s.2.2.2.1+1)<=x.wait)then[tJ s] else[]:=cF (λs:dM=>bif decide (i64.wrap (s.2.2.2.1+1)<=x.wait)then[tJ s] else[]) x.sess
  have mem:∀ s∈(rI x).sess,∃ r∈x.sess,s=tJ r/\i64.wrap (r.2.2.2.1+1)<=x.wait:=λs hm=>by
   rw[e] at hm
   obtain⟨r,hr,hx⟩:=List.mem_flatMap.1 hm
   refine⟨r,hr,?_⟩
   by_cases hd:i64.wrap (r.2.2.2.1+1)<=x.wait
   ·rw[decide_eq_true hd] at hx;exact⟨List.mem_singleton.1 hx,hd⟩
   ·rw[decide_eq_false hd] at hx;cases hx
  have sub:∀ l:List dM,List.Sublist ((l.flatMap λs=>bif decide (i64.wrap (s.2.2.2.1+1)<=x.wait)then[tJ s] else[]).map pK) (l.map pK):=λl=>by
   induction l with
   | nil=>exact List.Sublist.slnil
   | cons s l ih=>
    rw[List.flatMap_cons,List.map_append,List.map_cons]
    cases decide (i64.wrap (s.2.2.2.1+1)<=x.wait)with
    | true=>exact List.Sublist.cons_cons _ ih
    | false=>exact List.Sublist.cons _ ih
  exact {
   n:=h.n,id:=h.id,state:=h.state,tree:=h.tree,log:=h.log,got:=h.got,acked:=h.acked,own:=h.own,seen:=h.seen,ack:=h.ack,num:=h.num
   clock:=by show inB (i64.wrap (x.clock+1)) 0 100000=true;rw[hw,aP];omega
   slots:=h.slots,wait:=h.wait,limit:=h.limit,rises:=h.rises
   rise:=by
    have h6:=h.rise
    rw[bI] at h6 ⊢
    intro i hi
    have h7:=h6 i hi
    unfold kH at h7 ⊢
    simp only[Bool.and_eq_true,aP] at h7 ⊢
    refine⟨h7.1,h7.2.1,h7.2.2.1,?_⟩
    show(gt x.rises i).2.2.1<=i64.wrap (x.clock+1)
    rw[hw];omega
   sess:=by
    refine(cV _).2 ⟨?_,λs hm=>?_,?_⟩
    ·have h8:=BN x
     show(((rI x).sess.length:Nat):Int)<=x.slots
     have:=hs.1;omega
    ·obtain⟨r,hr,rfl,hle⟩:=mem s hm
     have h9:=hs.2.1 r hr
     have h10:=h9.2.2.2
     rw[aP] at h10
     refine⟨h9.1,h9.2.1,h9.2.2.1,?_⟩
     show inB (i64.wrap (r.2.2.2.1+1)) 0 x.wait=true
     rw[aP];rw[tw r hr] at hle ⊢;omega
    ·rw[e];exact(sub x.sess).nodup hs.2.2 }
end Go.Abs.Wz
set_option maxHeartbeats 4000000
namespace Go.Abs.Wz
open Go Go.Abs
abbrev jR:=Int×Int×Int×Int×ByteArray×Unit
def NU(x:NodeT)(i:Int):MsgT:=(0,x.1,i,0,cE x.log,[],0,x.got,[],(rK x (gt x.acked i.toNat).1).1,(rK x (gt x.acked i.toNat).1).2.1,cX x.state,())
def jK(x:NodeT)(i:Int):MsgT×Bool:=bif dJ x&&mG x i then(NU x i,true)else(BF,false)
def RH(r:MsgT×Bool):Out:=⟨[⟨K143,r.1⟩,⟨K4,(r.2,())⟩],[]⟩
theorem NT{x:NodeT}(hz:SzN x)(i:Int):SzM (NU x i):=⟨Nat.zero_le _,hz.got,Nat.zero_le _,ET hz _,Nat.le_trans (fU _) (by decide)⟩
theorem NR{x:NodeT}(hz:SzN x)(i:Int):SzM (jK x i).1:=by
 unfold jK
 cases dJ x&&mG x i with
 | true=>exact NT hz i
 | false=>exact JM
theorem RL{x:NodeT}{i:Int}(h:dJ x=true)(hp:mG x i=true):0<=i/\i.toNat<x.acked.length:=by
 have hn:=(eU x).1 h
 have h1:=hn.n;have h2:=hn.acked
 unfold mG at hp
 rw[Bool.and_eq_true,aP] at hp
 unfold eG at h2
 rw[Bool.and_eq_true,Bool.and_eq_true] at h2
 have h3:=eq_of_beq h2.2.1
 rw[aP] at h1
 have h4:=hp.1
 rw[IntKind.wrap_i64] at h4
 omega
theorem f163(x:NodeT)(i:Int)(hz:SzN x):Ran p 8 163 [va K54 x, vf K3 (i,())] (RH (jK x i)):=go163 λn hn=>Ev.now λaA=>by
 unfold T163;refine(aB (f34 x hz n (by omega))).trans ?_
 cases g1:dJ x with
 | false=>refine(aM rfl).trans ?_;rw[show jK x i=(BF,false) by unfold jK;rw[g1];rfl];rfl
 | true=>
 refine(aF rfl).trans ?_;refine(aB (f150 x i n (by omega))).trans ?_
 cases g2:mG x i with
 | false=>refine(aM rfl).trans ?_;rw[show jK x i=(BF,false) by unfold jK;rw[g1,g2];rfl];rfl
 | true=>
 obtain⟨h0,hl⟩:=RL g1 g2
 rw[show jK x i=(NU x i,true) by unfold jK;rw[g1,g2];rfl]
 refine(aF rfl).trans ?_;refine(aB (f152 x 0 i 0 hz n (by omega))).trans ?_;refine(aE h0).trans ?_
 obtain⟨k,rfl⟩:∃ k:Nat,i=(k:Int):=⟨i.toNat,by omega⟩
 refine(aH (show k<x.acked.length by omega)).trans ?_;refine(bE (f175 x (gt x.acked k).1 hz n (by omega))).trans ?_;rfl
theorem f166(l:List dN)(i:Nat)(hi:i<l.length)(hl:l.length<=aW):Ran p 1 166 [vf K25 (l,()), vf K3 ((i:Int),())] (rO K25 (l.take i++l.drop (i+1),())):=go166 λn hn=>Ev.now λaA=>by
 have hs:l.length<=1048576:=hl
 have e1:i64.wrap ((i:Int)+1)=((i+1:Nat):Int):=aL (by omega)
 have b1:0+((l.take ((i:Int)).toNat).drop 0).length<=bound:=by rw[List.length_drop,List.length_take];unfold bound;omega
 have b2:(([]:List dN)++(l.take ((i:Int)).toNat).drop 0).length+((l.take l.length).drop ((i+1:Nat):Int).toNat).length<=bound:=by
  rw[List.nil_append,List.length_drop,List.length_take,List.length_drop,List.length_take];unfold bound;omega
 unfold T166;rw[e1];refine(aM (rng (c:=True) (d:=True) (show(0:Int)<=(i:Int) by omega) (show(i:Int)<=(l.length:Int) by omega))).trans ?_;refine(aE b1).trans ?_;refine(aM (rng (c:=True) (d:=True) (show(0:Int)<=((i+1:Nat):Int) by omega) (show((i+1:Nat):Int)<=(l.length:Int) by omega))).trans ?_;refine(aE b2).trans ?_
 exact congrArg (λq:List dN=>(rV K25 (q,()):Option Out)) (by
  show(([]:List dN)++List.drop (α:=dN) 0 (List.take (α:=dN) ((i:Int)).toNat l))++List.drop (α:=dN) ((i+1:Nat):Int).toNat (List.take (α:=dN) l.length l)=l.take i++l.drop (i+1)
  rw[List.take_length,Int.toNat_natCast,Int.toNat_natCast];rfl)
-- worlds, changed by deeds
structure SzY (w:a9):Prop extends SzX w where
 by_:∀ i,i<w.2.1.length->ByL (gt w.2.1 i).2.1
def JZ(r:a9×Int):Out:=⟨[⟨K28,r.1⟩,⟨K3,(r.2,())⟩],[]⟩
def cQ(w:a9)(d:jR):a9×Int:=
 bif d.1==1 then((w.1.set d.2.1.toNat (eZ (gt w.1 d.2.1.toNat)),w.2.1,w.2.2.1,()),0)else
 bif d.1==0 then(bif(w.2.2.1.length:Int)==40 then(w,3)else bif(jF (gt w.1 d.2.1.toNat) d.2.2.1 d.2.2.2.1 d.2.2.2.2.1).2.2 != 0 then(w,2)else
  ((w.1.set d.2.1.toNat (jF (gt w.1 d.2.1.toNat) d.2.2.1 d.2.2.2.1 d.2.2.2.2.1).1,w.2.1,w.2.2.1++[(d.2.1,(jF (gt w.1 d.2.1.toNat) d.2.2.1 d.2.2.2.1 d.2.2.2.2.1).2.1)],()),0))else
 bif(w.2.1.length:Int)==12 then(w,3)else
 bif d.1==2 then(bif !(jK (gt w.1 d.2.1.toNat) d.2.2.1).2 then(w,2)else((w.1,w.2.1++[(d.2.2.1,bP (jK (gt w.1 d.2.1.toNat) d.2.2.1).1,false,())],w.2.2.1,()),0))else
 (bif !(i7 (gt w.1 d.2.1.toNat) d.2.2.1).2.2 then((w.1.set d.2.1.toNat (i7 (gt w.1 d.2.1.toNat) d.2.2.1).1,w.2.1,w.2.2.1,()),2)else
  ((w.1.set d.2.1.toNat (i7 (gt w.1 d.2.1.toNat) d.2.2.1).1,w.2.1++[(d.2.2.1,bP (i7 (gt w.1 d.2.1.toNat) d.2.2.1).2.1,false,())],w.2.2.1,()),0))
theorem f144(w:a9)(d:jR)(hz:SzX w)(h0:0<=d.2.1)(ha:d.2.1.toNat<w.1.length)(hn0:w.2.1.length<=12)(hs0:w.2.2.1.length<=40):Ran p 10 144 [va K28 w, va K132 d] (JZ (cQ w d)):=go144 λn hn=>Ev.now λaA=>by
 obtain⟨dk,dA,dB,dC,dt,du⟩:=d
 obtain⟨a,rfl⟩:∃ a:Nat,dA=(a:Int):=⟨dA.toNat,by have h0:0<=dA:=h0;omega⟩
 have ha:a<w.1.length:=ha
 have hx:=hz.node a ha
 unfold T144;refine(aB (f41 w hz n (by omega))).trans ?_;refine bif_nn.trans ?_;refine(aH ha).trans ?_
 cases g1:dk==1 with
 | true=>
  (first | refine(aM g1).trans ?_ | refine(aM rfl).trans ?_);refine(aB (f42 (gt w.1 a) hx n (by omega))).trans ?_;refine bif_nn.trans ?_;refine(aH ha).trans ?_;refine(aH ha).trans ?_
  rw[show cQ w (dk,(a:Int),dB,dC,dt,du)=((w.1.set a (eZ (gt w.1 a)),w.2.1,w.2.2.1,()),0) by unfold cQ;rw[g1];rfl];rfl
 | false=>
 (first | refine(aF g1).trans ?_ | refine(aF rfl).trans ?_)
 cases g0:dk==0 with
 | true=>
  (first | refine(aM g0).trans ?_ | refine(aM rfl).trans ?_)
  cases gs:(w.2.2.1.length:Int)==40 with
  | true=>(first | refine(aM gs).trans ?_ | refine(aM rfl).trans ?_);rw[show cQ w (dk,(a:Int),dB,dC,dt,du)=(w,3) by unfold cQ;rw[g1,g0,gs];rfl];rfl
  | false=>
   (first | refine(aF gs).trans ?_ | refine(aF rfl).trans ?_);refine(dK (f127 (gt w.1 a) dB dC dt hx n (by omega))).trans ?_
   cases gc:(jF (gt w.1 a) dB dC dt).2.2 != 0 with
   | true=>(first | refine(aM gc).trans ?_ | refine(aM rfl).trans ?_);rw[show cQ w (dk,(a:Int),dB,dC,dt,du)=(w,2) by unfold cQ;rw[g1,g0,gs];show(bif(jF (gt w.1 a) dB dC dt).2.2 != 0 then(w,(2:Int))else _)=_;rw[gc];rfl];rfl
   | false=>
    have hbd:w.2.2.1.length+1<=bound:=by unfold bound;omega
    (first | refine(aF gc).trans ?_ | refine(aF rfl).trans ?_);refine bif_nn.trans ?_;refine(aH ha).trans ?_;refine(aH ha).trans ?_;refine(aE hbd).trans ?_
    rw[show cQ w (dk,(a:Int),dB,dC,dt,du)=((w.1.set a (jF (gt w.1 a) dB dC dt).1,w.2.1,w.2.2.1++[((a:Int),(jF (gt w.1 a) dB dC dt).2.1)],()),0) by unfold cQ;rw[g1,g0,gs];show(bif(jF (gt w.1 a) dB dC dt).2.2 != 0 then(w,(2:Int))else _)=_;rw[gc];rfl];rfl
 | false=>
 (first | refine(aF g0).trans ?_ | refine(aF rfl).trans ?_)
 cases gm:(w.2.1.length:Int)==12 with
 | true=>(first | refine(aM gm).trans ?_ | refine(aM rfl).trans ?_);rw[show cQ w (dk,(a:Int),dB,dC,dt,du)=(w,3) by unfold cQ;rw[g1,g0,gm];rfl];rfl
 | false=>
 have hbn:w.2.1.length+1<=bound:=by unfold bound;omega
 (first | refine(aF gm).trans ?_ | refine(aF rfl).trans ?_)
 cases g2:dk==2 with
 | true=>
  (first | refine(aM g2).trans ?_ | refine(aM rfl).trans ?_);refine(bE (f163 (gt w.1 a) dB hx n (by omega))).trans ?_
  cases gp:(jK (gt w.1 a) dB).2 with
  | false=>refine(aM rfl).trans ?_;rw[show cQ w (dk,(a:Int),dB,dC,dt,du)=(w,2) by unfold cQ;rw[g1,g0,gm,g2];show(bif !(jK (gt w.1 a) dB).2 then(w,(2:Int))else _)=_;rw[gp];rfl];rfl
  | true=>
   refine(aF rfl).trans ?_;refine(aB (f164 (jK (gt w.1 a) dB).1 (NR hx dB) n (by omega))).trans ?_;refine(aE hbn).trans ?_
   rw[show cQ w (dk,(a:Int),dB,dC,dt,du)=((w.1,w.2.1++[(dB,bP (jK (gt w.1 a) dB).1,false,())],w.2.2.1,()),0) by unfold cQ;rw[g1,g0,gm,g2];show(bif !(jK (gt w.1 a) dB).2 then(w,(2:Int))else _)=_;rw[gp];rfl];rfl
 | false=>
  (first | refine(aF g2).trans ?_ | refine(aF rfl).trans ?_);refine(dK (f126 (gt w.1 a) dB hx n (by omega))).trans ?_;refine bif_nn.trans ?_;refine(aH ha).trans ?_;refine(aH ha).trans ?_
  cases gp:(i7 (gt w.1 a) dB).2.2 with
  | false=>refine(aM rfl).trans ?_;rw[show cQ w (dk,(a:Int),dB,dC,dt,du)=((w.1.set a (i7 (gt w.1 a) dB).1,w.2.1,w.2.2.1,()),2) by unfold cQ;rw[g1,g0,gm,g2];show(bif !(i7 (gt w.1 a) dB).2.2 then _ else _)=_;rw[gp];rfl];rfl
  | true=>
   refine(aF rfl).trans ?_;refine(aB (f164 (i7 (gt w.1 a) dB).2.1 (C7 hx dB).2 n (by omega))).trans ?_;refine(aE hbn).trans ?_
   rw[show cQ w (dk,(a:Int),dB,dC,dt,du)=((w.1.set a (i7 (gt w.1 a) dB).1,w.2.1++[(dB,bP (i7 (gt w.1 a) dB).2.1,false,())],w.2.2.1,()),0) by unfold cQ;rw[g1,g0,gm,g2];show(bif !(i7 (gt w.1 a) dB).2.2 then _ else _)=_;rw[gp];rfl];rfl
def S1(b:List aO):Int:=((jN b).getD BF).2.2.1
def uW(rs:List bQ):Nat->Nat->List dN->List dN
 | 0,i,net=>net
 | k+1,i,net=>bif decide ((net.length:Int)<12)then uW rs k (i+1) (net++[(S1 (gt rs i).1,(gt rs i).1,false,())])else net
def gV(l:List dN)(i:Nat):List dN:=l.take i++l.drop (i+1)
def F1(w:a9)(a:Nat):a9:=
 (w.1.set (gt w.2.1 a).1.toNat (eS (gt w.1 (gt w.2.1 a).1.toNat) (gt w.2.1 a).2.1).1,uW (eS (gt w.1 (gt w.2.1 a).1.toNat) (gt w.2.1 a).2.1).2.1 (eS (gt w.1 (gt w.2.1 a).1.toNat) (gt w.2.1 a).2.1).2.1.length 0 (gV w.2.1 a),w.2.2.1,())
theorem LK(o:Option MsgT):zR o=⟨[⟨K143,o.getD BF⟩,⟨K4,(o.isSome,())⟩],[]⟩:=by cases o<;>rfl
structure RbOk (r:NodeT×List bQ×Int):Prop where
 node:SzN r.1
 len:r.2.1.length<=1
 row:∀ q∈r.2.1,ByL q.1/\q.1.length<=504
theorem wT{x:NodeT}(hz:SzN x)(b:List aO):RbOk (eS x b):=by
 cases h:jN b with
 | none=>rw[rM h];exact⟨hz,Nat.zero_le _,λq hq=>by cases hq⟩
 | some m=>
  have rs:=JF hz (FJ h)
  rw[rL h]
  refine⟨rs.node,by rw[List.length_map];exact rs.len,λq hq=>?_⟩
  obtain⟨a,_,rfl⟩:=List.mem_map.1 hq
  exact⟨mH a,uB a⟩
structure PkOk (p:dN):Prop where
 by_:ByL p.2.1
 len:p.2.1.length<=aW
theorem SzY.pk{w:a9}(h:SzY w){i:Nat}(hi:i<w.2.1.length):PkOk (gt w.2.1 i):=⟨h.by_ i hi,h.bytes i hi⟩
theorem SzY.all{w:a9}(h:SzY w):∀ q∈w.2.1,PkOk q:=λq hq=>by
 obtain⟨i,hi,rfl⟩:=fZ hq
 exact h.pk hi
theorem wJ{l:List dN}{i:Nat}{q:dN}(h:q∈gV l i):q∈l:=by
 rcases List.mem_append.1 h with h | h
 ·exact List.mem_of_mem_take h
 ·exact List.mem_of_mem_drop h
theorem kE(l:List dN)(i:Nat):(gV l i).length<=l.length:=by
 unfold gV;rw[List.length_append,List.length_take,List.length_drop];omega
theorem J5{rs:List bQ}(hr:∀ q∈rs,ByL q.1/\q.1.length<=504):∀ (k i:Nat) (net:List dN),i+k<=rs.length->(∀ q∈net,PkOk q)->net.length<=12->(∀ q∈uW rs k i net,PkOk q)/\(uW rs k i net).length<=12
 | 0,i,net,_,h,hl=>⟨h,hl⟩
 | k+1,i,net,hi,h,hl=>by
  unfold uW
  by_cases h12:(net.length:Int)<12
  ·rw[decide_eq_true h12]
   have hg:=hr _ (cJ (show i<rs.length by omega))
   refine J5 hr k (i+1) _ (by omega) (λq hq=>?_) (by rw[List.length_append,List.length_singleton];omega)
   rcases List.mem_append.1 hq with hq | hq
   ·exact h q hq
   ·rw[List.mem_singleton.1 hq];exact⟨hg.1,Nat.le_trans hg.2 (by decide)⟩
  ·rw[decide_eq_false h12];exact⟨h,hl⟩
theorem f165(w:a9)(a:Nat)(hz:SzY w)(ha:a<w.2.1.length)(hn0:w.2.1.length<=12)(hp0:0<=(gt w.2.1 a).1)(hp:(gt w.2.1 a).1.toNat<w.1.length):Ran p 12 165 [va K28 w, vf K3 ((a:Int),())] (rO K28 (F1 w a)):=go165 λn hn=>by
 have hq:=hz.pk ha
 have hx:=hz.node _ hp
 have hR:=wT hx (gt w.2.1 a).2.1
 have hrb:=f179 (gt w.1 (gt w.2.1 a).1.toNat) (gt w.2.1 a).2.1 hx hq.by_.b8 hq.len
 obtain⟨t,ht⟩:∃ t:Nat,(gt w.2.1 a).1=(t:Int):=⟨(gt w.2.1 a).1.toNat,by omega⟩
 have htn:(gt w.2.1 a).1.toNat=t:=by rw[ht];rfl
 have htl:t<w.1.length:=by rw[<- htn];exact hp
 have e1:i64.wrap ((a:Int)+1)=((a+1:Nat):Int):=aL (by omega)
 have b1:0+((w.2.1.take ((a:Int)).toNat).drop 0).length<=bound:=by rw[List.length_drop,List.length_take];unfold bound;omega
 have b2:(([]:List dN)++(w.2.1.take ((a:Int)).toNat).drop 0).length+((w.2.1.take w.2.1.length).drop ((a+1:Nat):Int).toNat).length<=bound:=by
  rw[List.nil_append,List.length_drop,List.length_take,List.length_drop,List.length_take];unfold bound;omega
 have ew:([]++(w.2.1.take ((a:Int)).toNat).drop 0)++(w.2.1.take w.2.1.length).drop ((a+1:Nat):Int).toNat=gV w.2.1 a:=by
  unfold gV;rw[List.take_length,Int.toNat_natCast,Int.toNat_natCast];rfl
 have hW:F1 w a=(w.1.set t (eS (gt w.1 t) (gt w.2.1 a).2.1).1,uW (eS (gt w.1 t) (gt w.2.1 a).2.1).2.1 (eS (gt w.1 t) (gt w.2.1 a).2.1).2.1.length 0 (gV w.2.1 a),w.2.2.1,()):=by unfold F1;rw[htn]
 rw[htn] at hrb hR
 generalize eS (gt w.1 t) (gt w.2.1 a).2.1=R at hrb hR hW
 have lp:∀ (k i:Nat) (net:List dN),i+k=R.2.1.length->net.length<=12->It (λaA (_:Unit)=>c165_7 (aK p n) aA ((w,()),()) ((R.1,(R.2.1,()),(R.2.2,()),()),()) (gt (α:=dN) w.2.1 a)) ((i:Int),net) (λ_=>rV K28 ((w.1.set t R.1,uW R.2.1 k i net,w.2.2.1,()):a9)):=by
  intro k
  induction k with
  | zero=>
   intro i net hi hl
   refine It.stop λaA u rec=>?_
   show c165_7 (aK p n) aA ((w,()),()) ((R.1,(R.2.1,()),(R.2.2,()),()),()) (gt (α:=dN) w.2.1 a) rec ((i:Int),net)=rV K28 ((w.1.set t R.1,net,w.2.2.1,()):a9)
   unfold c165_7;dsimp only;refine(aI (show ¬ ((i:Int)<(R.2.1.length:Int)) by omega)).trans ?_;rw[<- htn];rfl
  | succ k ih=>
   intro i net hi hl
   have hlt:i<R.2.1.length:=by omega
   by_cases h12:(net.length:Int)<12
   ·have hg:=hR.row _ (cJ hlt)
    have hmo:=f180 (gt R.2.1 i).1 hg.1.b8 (Nat.le_trans hg.2 (by decide))
    rw[LK] at hmo
    have hbd:net.length+1<=bound:=by unfold bound;omega
    have e2:uW R.2.1 (k+1) i net=uW R.2.1 k (i+1) (net++[(S1 (gt R.2.1 i).1,(gt R.2.1 i).1,false,())]):=by
     conv=>lhs;unfold uW
     rw[decide_eq_true h12];rfl
    rw[e2]
    refine It.next (λaA u rec=>?_) (ih (i+1) (net++[(S1 (gt R.2.1 i).1,(gt R.2.1 i).1,false,())]) (by omega) (by rw[List.length_append,List.length_singleton];omega))
    show c165_7 (aK p n) aA ((w,()),()) ((R.1,(R.2.1,()),(R.2.2,()),()),()) (gt (α:=dN) w.2.1 a) rec ((i:Int),net)=_
    unfold c165_7;dsimp only;rw[aL (show i<9223372036854775807 by have:=hR.len;omega)];refine(aE (Int.ofNat_lt.2 hlt)).trans ?_;refine(aE h12).trans ?_;refine bif_nn.trans ?_;refine(aH hlt).trans ?_;refine(aH hlt).trans ?_;refine(bE (hmo n (by omega))).trans ?_;refine bif_nn.trans ?_;refine(aH hlt).trans ?_;refine(aH hlt).trans ?_;refine(aE hbd).trans ?_;rfl
   ·have e2:uW R.2.1 (k+1) i net=net:=by
     conv=>lhs;unfold uW
     rw[decide_eq_false h12];rfl
    rw[e2]
    refine It.stop λaA u rec=>?_
    show c165_7 (aK p n) aA ((w,()),()) ((R.1,(R.2.1,()),(R.2.2,()),()),()) (gt (α:=dN) w.2.1 a) rec ((i:Int),net)=_
    unfold c165_7;dsimp only;refine(aE (Int.ofNat_lt.2 hlt)).trans ?_;refine(aI h12).trans ?_;rw[<- htn];rfl
 have lp0:=lp R.2.1.length 0 (gV w.2.1 a) (by omega) (Nat.le_trans (kE _ _) hn0)
 rw[hW]
 exact Ev.eq (λaA=>by
  unfold T165;refine(aB (f41 w hz.toSzX n (by omega))).trans ?_;refine bif_nn.trans ?_;refine(aH ha).trans ?_;refine(aB (f166 w.2.1 a ha (show w.2.1.length<=1048576 by omega) n (by omega))).trans ?_
  refine(aE hp0).trans ?_;rw[show vI (gt w.2.1 a).1=(t:Int)from ht];refine(aH htl).trans ?_;refine(dK (hrb n (by omega))).trans ?_;refine bif_nn.trans ?_;refine(aH htl).trans ?_;refine(aH htl).trans ?_
  rfl) (lp0.ev (i:=()) rfl)
end Go.Abs.Wz
set_option maxHeartbeats 4000000
namespace Go.Abs.Wz
open Go Go.Abs
def G1(q:dN)(b:Nat)(c:Int):dN:=(q.1,q.2.1.set b (kS .u8 (gt q.2.1 b).1 (IntKind.u8.wrap c),(gt q.2.1 b).2),true,q.2.2.2)
def oO(w:a9)(d:jR):Bool:=(gt w.2.1 d.2.1.toNat).2.2.1||(!inB d.2.2.1 0 (i64.wrap ((((gt w.2.1 d.2.1.toNat).2.1.length:Nat):Int) - 1))|| !inB d.2.2.2.1 1 255)
def mX(w:a9)(d:jR):a9×Int:=
 bif d.1==4 then(F1 w d.2.1.toNat,0)else
 bif d.1==5 then((w.1,gV w.2.1 d.2.1.toNat,w.2.2.1,()),0)else
 bif d.1==6 then(bif(w.2.1.length:Int)==12 then(w,3)else((w.1,w.2.1++[gt w.2.1 d.2.1.toNat],w.2.2.1,()),0))else
 bif oO w d then(w,2)else((w.1,w.2.1.set d.2.1.toNat (G1 (gt w.2.1 d.2.1.toNat) d.2.2.1.toNat d.2.2.2.1),w.2.2.1,()),0)
theorem f145(w:a9)(d:jR)(hz:SzY w)(h0:0<=d.2.1)(ha:d.2.1.toNat<w.2.1.length)(hn0:w.2.1.length<=12)(hp0:0<=(gt w.2.1 d.2.1.toNat).1)(hp:(gt w.2.1 d.2.1.toNat).1.toNat<w.1.length):
  Ran p 13 145 [va K28 w, va K132 d] (JZ (mX w d)):=go145 λn hn=>Ev.now λaA=>by
 obtain⟨dk,dA,dB,dC,dt,du⟩:=d
 obtain⟨a,rfl⟩:∃ a:Nat,dA=(a:Int):=⟨dA.toNat,by have h0:0<=dA:=h0;omega⟩
 have ha:a<w.2.1.length:=ha
 have hq:=hz.pk ha
 unfold T145;refine(aB (f41 w hz.toSzX n (by omega))).trans ?_;refine bif_nn.trans ?_;refine(aH ha).trans ?_;refine(aH ha).trans ?_
 cases g4:dk==4 with
 | true=>(first | refine(aM g4).trans ?_ | refine(aM rfl).trans ?_);refine(aB (f165 w a hz ha hn0 hp0 hp n (by omega))).trans ?_;rw[show mX w (dk,(a:Int),dB,dC,dt,du)=(F1 w a,0) by unfold mX;rw[g4];rfl];rfl
 | false=>
 (first | refine(aF g4).trans ?_ | refine(aF rfl).trans ?_)
 cases g5:dk==5 with
 | true=>(first | refine(aM g5).trans ?_ | refine(aM rfl).trans ?_);refine(aB (f166 w.2.1 a ha hz.net n (by omega))).trans ?_;rw[show mX w (dk,(a:Int),dB,dC,dt,du)=((w.1,gV w.2.1 a,w.2.2.1,()),0) by unfold mX;rw[g4,g5];rfl];rfl
 | false=>
 (first | refine(aF g5).trans ?_ | refine(aF rfl).trans ?_)
 cases g6:dk==6 with
 | true=>
  (first | refine(aM g6).trans ?_ | refine(aM rfl).trans ?_)
  cases gm:(w.2.1.length:Int)==12 with
  | true=>(first | refine(aM gm).trans ?_ | refine(aM rfl).trans ?_);rw[show mX w (dk,(a:Int),dB,dC,dt,du)=(w,3) by unfold mX;rw[g4,g5,g6,gm];rfl];rfl
  | false=>
   have hbn:w.2.1.length+1<=bound:=by unfold bound;omega
   (first | refine(aF gm).trans ?_ | refine(aF rfl).trans ?_);refine(aH ha).trans ?_;refine(aB (f79 (gt w.2.1 a) hq.len n (by omega))).trans ?_;refine(aE hbn).trans ?_;rw[show mX w (dk,(a:Int),dB,dC,dt,du)=((w.1,w.2.1++[gt w.2.1 a],w.2.2.1,()),0) by unfold mX;rw[g4,g5,g6,gm];rfl];rfl
 | false=>
 (first | refine(aF g6).trans ?_ | refine(aF rfl).trans ?_)
 have hNo:∀ B C:Int,oO w (dk,(a:Int),B,C,dt,du)=((gt w.2.1 a).2.2.1||(!inB B 0 (i64.wrap ((((gt w.2.1 a).2.1.length:Nat):Int) - 1))|| !inB C 1 255)):=λ_ _=>rfl
 have no:oO w (dk,(a:Int),dB,dC,dt,du)=true->mX w (dk,(a:Int),dB,dC,dt,du)=(w,2):=λh=>by unfold mX;rw[g4,g5,g6,h];rfl
 cases gs:(gt w.2.1 a).2.2.1 with
 | true=>(first | refine(aM gs).trans ?_ | refine(aM rfl).trans ?_);rw[no (by rw[hNo,gs];rfl)];rfl
 | false=>
 (first | refine(aF gs).trans ?_ | refine(aF rfl).trans ?_);refine(aH ha).trans ?_;refine(aB (f33 dB 0 (i64.wrap ((((gt w.2.1 a).2.1.length:Nat):Int) - 1)) n (by omega))).trans ?_
 cases gb:inB dB 0 (i64.wrap ((((gt w.2.1 a).2.1.length:Nat):Int) - 1))with
 | false=>refine(aM rfl).trans ?_;rw[no (by rw[hNo,gs,gb];rfl)];rfl
 | true=>
 refine(aF rfl).trans ?_;refine(aB (f33 dC 1 255 n (by omega))).trans ?_
 cases gc:inB dC 1 255 with
 | false=>refine(aM rfl).trans ?_;rw[no (by rw[hNo,gs,gb,gc];rfl)];rfl
 | true=>
 have hb:=gb
 rw[aP] at hb
 have hql:(gt w.2.1 a).2.1.length<=1048576:=hq.len
 rw[IntKind.wrap_i64] at hb
 obtain⟨b,rfl⟩:∃ b:Nat,dB=(b:Int):=⟨dB.toNat,by omega⟩
 have hbl:b<(gt w.2.1 a).2.1.length:=by omega
 have hN:mX w (dk,(a:Int),(b:Int),dC,dt,du)=((w.1,w.2.1.set a (G1 (gt w.2.1 a) b dC),w.2.2.1,()),0):=by
  unfold mX;rw[g4,g5,g6,show oO w (dk,(a:Int),(b:Int),dC,dt,du)=false by rw[hNo,gs,gb,gc];rfl];rfl
 have hs2:a<(w.2.1.set a ((gt w.2.1 a).1,(gt w.2.1 a).2.1.set b (kS .u8 (gt (gt w.2.1 a).2.1 b).1 (IntKind.u8.wrap dC),(gt (gt w.2.1 a).2.1 b).2),(gt w.2.1 a).2.2)).length:=by rw[List.length_set];exact ha
 refine(aF rfl).trans ?_;refine bif_nn.trans ?_;refine(aH ha).trans ?_;refine(aH hbl).trans ?_;refine(aH ha).trans ?_;refine(aH hbl).trans ?_;refine bif_nn.trans ?_;refine(aH ha).trans ?_;refine(aH hbl).trans ?_;refine(aH ha).trans ?_;refine(aH hbl).trans ?_;rw[JA];refine bif_nn.trans ?_;refine(aH hs2).trans ?_;refine(aH hs2).trans ?_;refine(aE rfl).trans ?_;rw[JA,hN]
 have e:(w.2.1.set a ((gt w.2.1 a).1,(gt w.2.1 a).2.1.set b (kS .u8 (gt (gt w.2.1 a).2.1 b).1 (IntKind.u8.wrap dC),(gt (gt w.2.1 a).2.1 b).2),(gt w.2.1 a).2.2)).set a ((gt w.2.1 a).1,(gt (w.2.1.set a ((gt w.2.1 a).1,(gt w.2.1 a).2.1.set b (kS .u8 (gt (gt w.2.1 a).2.1 b).1 (IntKind.u8.wrap dC),(gt (gt w.2.1 a).2.1 b).2),(gt w.2.1 a).2.2)) a).2.1,true,(gt (w.2.1.set a ((gt w.2.1 a).1,(gt w.2.1 a).2.1.set b (kS .u8 (gt (gt w.2.1 a).2.1 b).1 (IntKind.u8.wrap dC),(gt (gt w.2.1 a).2.1 b).2),(gt w.2.1 a).2.2)) a).2.2.2)=w.2.1.set a (G1 (gt w.2.1 a) b dC):=by
  rw[cC (xs:=w.2.1) (i:=a) ha,List.set_set];rfl
 exact congrArg (λq:List dN=>(some (JZ ((w.1,q,w.2.2.1,()),0)):Option Out)) e
def doW(w:a9)(d:jR):a9×Int:=
 bif !bT w then(w,1)else bif !inB d.1 0 7 then(w,1)else
 bif decide (d.1<=3)then(bif !inB d.2.1 0 (i64.wrap ((w.1.length:Int) - 1))then(w,1)else cQ w d)else
 (bif !inB d.2.1 0 (i64.wrap ((w.2.1.length:Int) - 1))then(w,1)else mX w d)
theorem vN{x:Int}{n:Nat}(hn:n<=1000)(h:inB x 0 (i64.wrap (((n:Nat):Int) - 1))=true):0<=x/\x.toNat<n:=by
 rw[aP,IntKind.wrap_i64] at h;omega
theorem N9{w:a9}(h:bT w=true){i:Nat}(hi:i<w.2.1.length):0<=(gt w.2.1 i).1/\(gt w.2.1 i).1.toNat<w.1.length:=by
 have hl:=tD h
 unfold bT at h;simp only[Bool.and_eq_true,bI] at h
 exact vN (by omega) (h.2.2.2.2.1 i hi)
theorem f121(w:a9)(d:jR)(hz:SzY w):Ran p 14 121 [va K28 w, va K132 d] (JZ (doW w d)):=go121 λn hn=>Ev.now λaA=>by
 unfold T121;refine(aB (f11 w hz.toSzW n (by omega))).trans ?_
 cases ho:bT w with
 | false=>refine(aM rfl).trans ?_;refine(aB (f41 w hz.toSzX n (by omega))).trans ?_;rw[show doW w d=(w,1) by unfold doW;rw[ho];rfl];rfl
 | true=>
 have hl:=tD ho
 refine(aF rfl).trans ?_;refine(aB (f33 d.1 0 7 n (by omega))).trans ?_
 cases hk:inB d.1 0 7 with
 | false=>refine(aM rfl).trans ?_;refine(aB (f41 w hz.toSzX n (by omega))).trans ?_;rw[show doW w d=(w,1) by unfold doW;rw[ho,hk];rfl];rfl
 | true=>
 refine(aF rfl).trans ?_
 by_cases h3:d.1<=3
 ·refine(aE h3).trans ?_;refine(aB (f33 d.2.1 0 (i64.wrap ((w.1.length:Int) - 1)) n (by omega))).trans ?_
  cases ha:inB d.2.1 0 (i64.wrap ((w.1.length:Int) - 1))with
  | false=>refine(aM rfl).trans ?_;refine(aB (f41 w hz.toSzX n (by omega))).trans ?_;rw[show doW w d=(w,1) by unfold doW;rw[ho,hk,decide_eq_true h3,ha];rfl];rfl
  | true=>
   have hA:=vN (by omega) ha
   refine(aF rfl).trans ?_;refine(bE (f144 w d hz.toSzX hA.1 hA.2 hl.2.2.1 hl.2.2.2 n (by omega))).trans ?_;rw[show doW w d=cQ w d by unfold doW;rw[ho,hk,decide_eq_true h3,ha];rfl];rfl
 ·refine(aI h3).trans ?_;refine(aB (f33 d.2.1 0 (i64.wrap ((w.2.1.length:Int) - 1)) n (by omega))).trans ?_
  cases ha:inB d.2.1 0 (i64.wrap ((w.2.1.length:Int) - 1))with
  | false=>refine(aM rfl).trans ?_;refine(aB (f41 w hz.toSzX n (by omega))).trans ?_;rw[show doW w d=(w,1) by unfold doW;rw[ho,hk,decide_eq_false h3,ha];rfl];rfl
  | true=>
   have hA:=vN (by omega) ha
   have hT:=N9 ho hA.2
   refine(aF rfl).trans ?_;refine(bE (f145 w d hz hA.1 hA.2 hl.2.2.1 hT.1 hT.2 n (by omega))).trans ?_;rw[show doW w d=mX w d by unfold doW;rw[ho,hk,decide_eq_false h3,ha];rfl];rfl
-- sizes
theorem jV{ns:List NodeT}{net:List dN}{sd:List xO}(h1:ns.length<=aW)(h2:∀ i,i<ns.length->SzN (gt ns i))(h3:net.length<=aW)(h4:∀ q∈net,PkOk q)(h5:sd.length<=aW)(h6:∀ i,i<sd.length->SzS (gt sd i).2):SzY (ns,net,sd,()) where
 nodes:=h1
 node:=h2
 net:=h3
 said:=h5
 part:=h6
 bytes:=λi hi=>(h4 _ (cJ hi)).len
 by_:=λi hi=>(h4 _ (cJ hi)).by_
theorem u9{ns:List NodeT}(h:∀ i,i<ns.length->SzN (gt ns i))(a:Nat){x:NodeT}(hx:SzN x):∀ i,i<(ns.set a x).length->SzN (gt (ns.set a x) i):=λi hi=>by
 rw[List.length_set] at hi
 by_cases e:a=i
 ·subst e;rw[cC hi];exact hx
 ·rw[eC e];exact h i hi
theorem KR(x:NodeT)(k id:Int)(t:ByteArray):SzS (jF x k id t).2.1:=by
 unfold jF
 cases tO x k id with
 | false=>exact kA
 | true=>
  show SzS (bif _ then _ else _:J6).2.1
  cases (fT x.state k id t).2 != 0 with
  | true=>exact kA
  | false=>
   show SzS (bif _ then _ else _:J6).2.1
   cases hb:mQ x.log (fT x.state k id t).1 with
   | false=>exact kA
   | true=>
    unfold mQ at hb
    simp only[Bool.and_eq_true] at hb
    exact HE ((aV _).1 hb.2.1)
theorem OE(m:MsgT)(t:Int):PkOk (t,bP m,false,()):=⟨mH m,Nat.le_trans (uB m) (by decide)⟩
theorem yE{net:List dN}(h:∀ q∈net,PkOk q){x:dN}(hx:PkOk x):∀ q∈net++[x],PkOk q:=λq hq=>by
 rcases List.mem_append.1 hq with hq | hq
 ·exact h q hq
 ·rw[List.mem_singleton.1 hq];exact hx
theorem IM{w:a9}{d:jR}(hz:SzY w)(ha:d.2.1.toNat<w.1.length)(hn0:w.2.1.length<=12)(hs0:w.2.2.1.length<=40):SzY (cQ w d).1:=by
 have hx:=hz.node _ ha
 have hA:=hz.all
 have hn1:∀ x:dN,(w.2.1++[x]).length<=aW:=λx=>by rw[List.length_append,List.length_singleton];unfold aW;omega
 have hl:∀ x:NodeT,(w.1.set d.2.1.toNat x).length<=aW:=λx=>by rw[List.length_set];exact hz.nodes
 unfold cQ
 cases d.1==1 with
 | true=>exact jV (hl _) (u9 hz.node _ (yT hx)) hz.net hA hz.said hz.part
 | false=>
 cases d.1==0 with
 | true=>
  cases (w.2.2.1.length:Int)==40 with
  | true=>exact hz
  | false=>
   show SzY (bif _ then _ else _:a9×Int).1
   cases (jF (gt w.1 d.2.1.toNat) d.2.2.1 d.2.2.2.1 d.2.2.2.2.1).2.2 != 0 with
   | true=>exact hz
   | false=>
    refine jV (hl _) (u9 hz.node _ (JC hx _ _ _)) hz.net hA (by rw[List.length_append,List.length_singleton];unfold aW;omega) (λi hi=>?_)
    rw[List.length_append,List.length_singleton] at hi
    by_cases e:i<w.2.2.1.length
    ·have:gt (w.2.2.1++[((d.2.1,(jF (gt w.1 d.2.1.toNat) d.2.2.1 d.2.2.2.1 d.2.2.2.2.1).2.1):xO)]) i=gt w.2.2.1 i:=by
      rw[cK (by rw[List.length_append];omega),cK e,List.getElem_append_left e]
     rw[this];exact hz.part i e
    ·have:gt (w.2.2.1++[((d.2.1,(jF (gt w.1 d.2.1.toNat) d.2.2.1 d.2.2.2.1 d.2.2.2.2.1).2.1):xO)]) i=(d.2.1,(jF (gt w.1 d.2.1.toNat) d.2.2.1 d.2.2.2.1 d.2.2.2.2.1).2.1):=by
      have ei:i=w.2.2.1.length:=by omega
      subst ei
      rw[cK (by rw[List.length_append];simp)];simp
     rw[this];exact KR _ _ _ _
 | false=>
 cases (w.2.1.length:Int)==12 with
 | true=>exact hz
 | false=>
 cases d.1==2 with
 | true=>
  show SzY (bif _ then _ else _:a9×Int).1
  cases (jK (gt w.1 d.2.1.toNat) d.2.2.1).2 with
  | false=>exact hz
  | true=>exact jV hz.nodes hz.node (hn1 _) (yE hA (OE _ _)) hz.said hz.part
 | false=>
  show SzY (bif _ then _ else _:a9×Int).1
  have hy:=(C7 hx d.2.2.1).1
  cases (i7 (gt w.1 d.2.1.toNat) d.2.2.1).2.2 with
  | false=>exact jV (hl _) (u9 hz.node _ hy) hz.net hA hz.said hz.part
  | true=>exact jV (hl _) (u9 hz.node _ hy) (hn1 _) (yE hA (OE _ _)) hz.said hz.part
theorem RO{w:a9}{d:jR}(hz:SzY w)(ha:d.2.1.toNat<w.2.1.length)(hn0:w.2.1.length<=12)(hp:(gt w.2.1 d.2.1.toNat).1.toNat<w.1.length):SzY (mX w d).1:=by
 have hA:=hz.all
 have hq:=hz.pk ha
 have hn1:∀ x:dN,(w.2.1++[x]).length<=aW:=λx=>by rw[List.length_append,List.length_singleton];unfold aW;omega
 have hwl:=kE w.2.1 d.2.1.toNat
 unfold mX
 cases d.1==4 with
 | true=>
  have hx:=hz.node _ hp
  have hR:=wT hx (gt w.2.1 d.2.1.toNat).2.1
  have hk:=J5 hR.row (eS (gt w.1 (gt w.2.1 d.2.1.toNat).1.toNat) (gt w.2.1 d.2.1.toNat).2.1).2.1.length 0 (gV w.2.1 d.2.1.toNat) (by omega) (λq hq=>hA q (wJ hq)) (by omega)
  exact jV (by rw[List.length_set];exact hz.nodes) (u9 hz.node _ hR.node) (Nat.le_trans hk.2 (by decide)) hk.1 hz.said hz.part
 | false=>
 cases d.1==5 with
 | true=>exact jV hz.nodes hz.node (Nat.le_trans (kE _ _) hz.net) (λq hq=>hA q (wJ hq)) hz.said hz.part
 | false=>
 cases d.1==6 with
 | true=>
  show SzY (bif _ then _ else _:a9×Int).1
  cases (w.2.1.length:Int)==12 with
  | true=>exact hz
  | false=>exact jV hz.nodes hz.node (hn1 _) (yE hA hq) hz.said hz.part
 | false=>
  show SzY (bif _ then _ else _:a9×Int).1
  cases oO w d with
  | true=>exact hz
  | false=>
   refine jV hz.nodes hz.node (by rw[List.length_set];exact hz.net) (λq hq2=>?_) hz.said hz.part
   rcases List.mem_or_eq_of_mem_set hq2 with h1 | h1
   ·exact hA q h1
   ·rw[h1];exact⟨TZ hq.by_ _ _ _ _,by show(List.set _ _ _).length<=aW;rw[List.length_set];exact hq.len⟩
theorem TV{w:a9}(hz:SzY w)(d:jR):SzY (doW w d).1:=by
 unfold doW
 cases ho:bT w with
 | false=>exact hz
 | true=>
 have hl:=tD ho
 cases inB d.1 0 7 with
 | false=>exact hz
 | true=>
 cases decide (d.1<=3)with
 | true=>
  cases ha:inB d.2.1 0 (i64.wrap ((w.1.length:Int) - 1))with
  | false=>exact hz
  | true=>exact IM hz (vN (by omega) ha).2 hl.2.2.1 hl.2.2.2
 | false=>
  cases ha:inB d.2.1 0 (i64.wrap ((w.2.1.length:Int) - 1))with
  | false=>exact hz
  | true=>exact RO hz (vN (by omega) ha).2 hl.2.2.1 (N9 ho (vN (by omega) ha).2).2
end Go.Abs.Wz
namespace Go.Abs.Wz
open Go Go.Abs
theorem f57(c:eQ)(h:CurOk c):∃ (x:Int) (d:eQ),Ran p 1 57 [.ref ⟨K88,c⟩] ⟨[⟨K3,(x,())⟩],[⟨K88,d⟩]⟩/\CurOk d/\0<=x/\x<=255:=by
 by_cases hi:c.2.1<(c.1.length:Int)
 ·obtain⟨i,hi'⟩:∃ i:Nat,c.2.1=i:=⟨c.2.1.toNat,by have:=h.lo;omega⟩
  have hi2:i<c.1.length:=by omega
  have e:(at? (α:=Row K5) c.1 (c.2.1).toNat)=some (gt (α:=aO) c.1 i):=by rw[hi',Int.toNat_natCast];exact(P6 hi2).trans (by rw[cK hi2])
  refine⟨_,_,go57 λn hn=>Ev.now λaA=>by
   unfold T57;refine(aI (by decide)).trans ?_;refine(aI (by decide)).trans ?_;refine(aE hi).trans ?_;refine(aE h.lo).trans ?_
   refine(congrArg (λo=>Option.bind o _) e).trans ?_
   rfl,?_⟩
  have hl:=h.len
  refine⟨⟨h.len,?_,?_⟩,(yK _).1,(yK _).2⟩
  ·show 0<=i64.wrap (c.2.1+1);have:=h.lo;rw[IntKind.wrap_i64];omega
  ·show i64.wrap (c.2.1+1)<=_;have:=h.lo;rw[IntKind.wrap_i64];show _<=(c.1.length:Int);omega
 ·refine⟨_,_,go57 λn hn=>Ev.now λaA=>by
   unfold T57;refine(aI (by decide)).trans ?_;refine(aI (by decide)).trans ?_;refine(aI hi).trans ?_;rfl,?_⟩
  exact⟨⟨h.len,h.lo,h.hi⟩,(yK _).1,(yK _).2⟩
theorem f30(c:eQ)(k:Int)(h:CurOk c):∃ (x:Int) (d:eQ),Ran p 2 30 [.ref ⟨K88,c⟩, vf K3 (k,())] ⟨[⟨K3,(x,())⟩],[⟨K88,d⟩]⟩/\CurOk d/\0<=x/\(0<k->x<k)/\(k<=0->x=0):=by
 by_cases h0:k<=0
 ·exact⟨0,c,go30 λn hn=>Ev.now λaA=>by unfold T30;exact aE h0,h,by omega,λh=>by omega,λ_=>rfl⟩
 by_cases h1:k<=256
 ·obtain⟨x,d,hx,hd,b0,b1⟩:=f57 c h
  refine⟨x.tmod k,d,go30 λn hn=>Ev.now λaA=>?_,hd,(tI b0 (by omega)).1,λh=>(tI b0 h).2,λh=>by omega⟩
  unfold T30;refine(aI h0).trans ?_;refine(aE h1).trans ?_;refine(aG (hx n (by omega))).trans ?_;exact aI (by omega)
 ·obtain⟨x,d,hx,hd,b0,b1⟩:=f57 c h
  obtain⟨x2,d2,hx2,hq2,b2,b3⟩:=f57 d hd
  obtain⟨x3,d3,hx3,hq3,b4,b5⟩:=f57 d2 hq2
  obtain⟨x4,d4,hx4,hq4,b6,b7⟩:=f57 d3 hq3
  have e:i64.wrap (i64.wrap (i64.wrap (i64.wrap (x*16777216)+i64.wrap (x2*65536))+i64.wrap (x3*256))+x4)=x*16777216+x2*65536+x3*256+x4:=by
   repeat rw[IntKind.wrap_i64]
   omega
  have hp:0<=x*16777216+x2*65536+x3*256+x4:=by omega
  refine⟨(x*16777216+x2*65536+x3*256+x4).tmod k,d4,go30 λn hn=>Ev.now λaA=>?_,hq4,(tI hp (by omega)).1,λh=>(tI hp h).2,λh=>by omega⟩
  unfold T30;refine(aI h0).trans ?_;refine(aI h1).trans ?_;refine(aG (hx n (by omega))).trans ?_;refine(aG (hx2 n (by omega))).trans ?_;refine(aG (hx3 n (by omega))).trans ?_;refine(aG (hx4 n (by omega))).trans ?_;refine(aI (by omega)).trans ?_;rw[<- e]
theorem f90(c:eQ)(k:Int)(h:CurOk c):∃ (x:Bool) (d:eQ),Ran p 3 90 [.ref ⟨K88,c⟩, vf K3 (k,())] ⟨[⟨K4,(x,())⟩],[⟨K88,d⟩]⟩/\CurOk d:=by
 obtain⟨x,d,hx,hd,_⟩:=f30 c k h
 exact⟨_,d,go90 λn hn=>Ev.now λaA=>by unfold T90;refine(aG (hx n (by omega))).trans ?_;rfl,hd⟩
theorem f96(c:eQ)(ls:List aO)(h:CurOk c)(h0:0<ls.length):∃ (x:Int) (d:eQ),Ran p 3 96 [.ref ⟨K88,c⟩, vf K44 (ls,())] ⟨[⟨K3,(x,())⟩],[⟨K88,d⟩]⟩/\CurOk d/\(x,())∈ls:=by
 obtain⟨x,d,hx,hd,b0,b1,_⟩:=f30 c (ls.length:Int) h
 have b2:=b1 (by omega)
 obtain⟨i,rfl⟩:∃ i:Nat,x=i:=⟨x.toNat,by omega⟩
 have hi:i<ls.length:=by omega
 refine⟨(gt ls i).1,d,go96 λn hn=>Ev.now λaA=>?_,hd,?_⟩
 ·unfold T96;refine(aG (hx n (by omega))).trans ?_;refine bif_nn.trans ?_;refine(aH hi).trans ?_;rfl
 ·show gt ls i∈ls;rw[cK hi];exact List.getElem_mem hi
theorem f128(c:eQ)(ls:List (ByteArray×Unit))(h:CurOk c)(h0:0<ls.length):∃ (x:ByteArray) (d:eQ),Ran p 3 128 [.ref ⟨K88,c⟩, vf K149 (ls,())] ⟨[⟨K9,(x,())⟩],[⟨K88,d⟩]⟩/\CurOk d/\(x,())∈ls:=by
 obtain⟨x,d,hx,hd,b0,b1,_⟩:=f30 c (ls.length:Int) h
 have b2:=b1 (by omega)
 obtain⟨i,rfl⟩:∃ i:Nat,x=i:=⟨x.toNat,by omega⟩
 have hi:i<ls.length:=by omega
 refine⟨(gt ls i).1,d,go128 λn hn=>Ev.now λaA=>?_,hd,?_⟩
 ·unfold T128;refine(aG (hx n (by omega))).trans ?_;refine bif_nn.trans ?_;refine(aH hi).trans ?_;rfl
 ·show gt ls i∈ls;rw[cK hi];exact List.getElem_mem hi
theorem f143(c:eQ)(h:CurOk c):∃ (e:bF) (d:eQ),Ran p 4 143 [.ref ⟨K88,c⟩] ⟨[⟨K69,e⟩],[⟨K88,d⟩]⟩/\CurOk d/\QG e/\1<=e.1:=by
 obtain⟨x1,d1,h1,k1,a1,b1,_⟩:=f30 c 3 h
 obtain⟨x2,d2,h2,k2,a2,b2,_⟩:=f30 d1 2 k1
 obtain⟨x3,d3,h3,k3,a3,b3,_⟩:=f30 d2 3 k2
 obtain⟨x4,d4,h4,k4,a4,b4,_⟩:=f30 d3 3 k3
 obtain⟨x5,d5,h5,k5,m5⟩:=f128 d4 [((⟨#[]⟩:ByteArray),()),((⟨#[97]⟩:ByteArray),()),((⟨#[98]⟩:ByteArray),()),((⟨#[97,98]⟩:ByteArray),()),((⟨#[49,50,51,52,53,54,55,56]⟩:ByteArray),())] k4 (by show 0<5;omega)
 refine⟨_,d5,go143 λn hn=>Ev.now λaA=>by unfold T143;refine(aG (h1 n (by omega))).trans ?_;refine(aG (h2 n (by omega))).trans ?_;refine(aG (h3 n (by omega))).trans ?_;refine(aG (h4 n (by omega))).trans ?_;refine(aG (h5 n (by omega))).trans ?_;rfl,k5,?_,?_⟩
 ·have:x5∈datas.take 5:=by
   have:=List.mem_map_of_mem (f:=λy:ByteArray×Unit=>y.1) m5
   exact this
  exact List.mem_of_mem_take this
 ·show 1<=i64.wrap (1+x1);have:=b1 (by omega);rw[IntKind.wrap_i64];omega
theorem f118(c:eQ)(h:CurOk c):∃ (e:bF) (d:eQ),Ran p 5 118 [.ref ⟨K88,c⟩] ⟨[⟨K69,e⟩],[⟨K88,d⟩]⟩/\CurOk d/\QG e:=by
 obtain⟨e,d1,h1,k1,he,_⟩:=f143 c h
 obtain⟨x,d2,h2,k2,_⟩:=f30 d1 14 k1
 cases q0:x==0 with
 | true=>
  obtain⟨y,d3,h3,k3,_⟩:=f96 d2 [((0:Int),()),((1000:Int),()),((1001:Int),()),((-1:Int),())] k2 (by show 0<4;omega)
  exact⟨(y,e.2),d3,go118 λn hn=>Ev.now λaA=>by unfold T118;refine(aG (h1 n (by omega))).trans ?_;refine(aG (h2 n (by omega))).trans ?_;refine(aM q0).trans ?_;refine(aG (h3 n (by omega))).trans ?_;rfl,k3,he⟩
 | false=>
 cases q1:x==1 with
 | true=>
  obtain⟨y,d3,h3,k3,_⟩:=f96 d2 [((-1:Int),()),((2:Int),())] k2 (by show 0<2;omega)
  exact⟨(e.1,y,e.2.2),d3,go118 λn hn=>Ev.now λaA=>by unfold T118;refine(aG (h1 n (by omega))).trans ?_;refine(aG (h2 n (by omega))).trans ?_;refine(aF q0).trans ?_;refine(aM q1).trans ?_;refine(aG (h3 n (by omega))).trans ?_;rfl,k3,he⟩
 | false=>
 cases q2:x==2 with
 | true=>
  obtain⟨y,d3,h3,k3,_⟩:=f96 d2 [((-1:Int),()),((100000:Int),()),((100001:Int),())] k2 (by show 0<3;omega)
  exact⟨(e.1,e.2.1,y,e.2.2.2),d3,go118 λn hn=>Ev.now λaA=>by unfold T118;refine(aG (h1 n (by omega))).trans ?_;refine(aG (h2 n (by omega))).trans ?_;refine(aF q0).trans ?_;refine(aF q1).trans ?_;refine(aM q2).trans ?_;refine(aG (h3 n (by omega))).trans ?_;rfl,k3,he⟩
 | false=>
 cases q3:x==3 with
 | true=>
  obtain⟨y,d3,h3,k3,_⟩:=f96 d2 [((-1:Int),()),((1000:Int),()),((1001:Int),())] k2 (by show 0<3;omega)
  exact⟨(e.1,e.2.1,e.2.2.1,y,e.2.2.2.2),d3,go118 λn hn=>Ev.now λaA=>by unfold T118;refine(aG (h1 n (by omega))).trans ?_;refine(aG (h2 n (by omega))).trans ?_;refine(aF q0).trans ?_;refine(aF q1).trans ?_;refine(aF q2).trans ?_;refine(aM q3).trans ?_;refine(aG (h3 n (by omega))).trans ?_;rfl,k3,he⟩
 | false=>
 cases q4:x==4 with
 | true=>exact⟨(e.1,e.2.1,e.2.2.1,e.2.2.2.1,⟨#[49,50,51,52,53,54,55,56,57]⟩,()),d2,go118 λn hn=>Ev.now λaA=>by unfold T118;refine(aG (h1 n (by omega))).trans ?_;refine(aG (h2 n (by omega))).trans ?_;refine(aF q0).trans ?_;refine(aF q1).trans ?_;refine(aF q2).trans ?_;refine(aF q3).trans ?_;refine(aM q4).trans ?_;rfl,k2,by show(⟨#[49,50,51,52,53,54,55,56,57]⟩:ByteArray)∈datas;unfold datas;simp⟩
 | false=>exact⟨e,d2,go118 λn hn=>Ev.now λaA=>by unfold T118;refine(aG (h1 n (by omega))).trans ?_;refine(aG (h2 n (by omega))).trans ?_;refine(aF q0).trans ?_;refine(aF q1).trans ?_;refine(aF q2).trans ?_;refine(aF q3).trans ?_;refine(aF q4).trans ?_;rfl,k2,he⟩
theorem f142(i:Int)(e:bF):∃ (s:aJ) (b:Bool),Ran p 4 142 [vf K3 (i,()), va K69 e] ⟨[⟨K34,s⟩,⟨K4,(b,())⟩],[]⟩/\(s=([(i,e)],[],())\/s=([],[],()))/\aS s=true:=by
 have hs:=f25 ([(i,e)],[],()) (by show 1<=9223372036854775807;omega) (by show 0<=9223372036854775807;omega)
 cases ho:aS ([(i,e)],[],())with
 | false=>exact⟨_,false,go142 λn hn=>Ev.now λaA=>by unfold T142;refine(aB (hs n (by omega))).trans ?_;rw[ho];rfl,.inr rfl,rfl⟩
 | true=>exact⟨_,true,go142 λn hn=>Ev.now λaA=>by unfold T142;refine(aB (hs n (by omega))).trans ?_;rw[ho];rfl,.inl rfl,ho⟩
end Go.Abs.Wz
