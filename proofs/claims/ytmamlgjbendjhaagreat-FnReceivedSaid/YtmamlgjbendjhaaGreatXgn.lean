/- What the functions of this program answer, part gn. -/
import Derived.Test.YtmamlgjbendjhaaGreatXl
set_option linter.unusedVariables false
namespace Go.Abs.Xz
open Go Go.Abs
def zF:bQ:=(List.replicate ((5:Int)).toNat (eH K3),())
def dI(n:Int):List bQ:=bif inB n 1 5 then List.replicate n.toNat zF else[]
theorem f372(a:Int):Ran p 2 372 [.val false ⟨K3,(a,())⟩] ⟨[⟨K34,(dI a,())⟩],[]⟩:=go372 fun n hn=>by
 cases h:inB a 1 5 with
 | false=>exact Ev.now fun aA=>by unfold T372 dI;refine(aB (f211 a 1 5 n (by omega))).trans ?_;rw[h];rfl
 | true=>
  have ha:=aS.1 h
  have lp:It (fun aA (_:Unit)=>c372_5 (aK p n) aA a) ((0:Int),([]:List (Row K28))) (fun _=>some ⟨[⟨K34,(dI a,())⟩],[]⟩):=by
   refine It.run (fun i=>((i:Int),List.replicate i zF)) a.toNat (fun i hi aA u rec=>?_) (It.stop fun aA u rec=>?_)
   ·show c372_5 (aK p n) aA a rec ((i:Int),List.replicate i zF)=rec (((i+1:Nat):Int),List.replicate (i+1) zF)
    unfold c372_5;dsimp only;rw[aL (by omega)];refine(aE (by omega)).trans ?_;refine(aN (by decide)).trans ?_;refine(aE ?_).trans ?_
    ·show List.length (List.replicate i zF)+1≤bound;rw[List.length_replicate];unfold bound;omega
    ·rw[List.replicate_succ'];rfl
   ·show c372_5 (aK p n) aA a rec ((a.toNat:Int),List.replicate a.toNat zF)=_
    unfold c372_5;dsimp only;refine(aI (by omega)).trans ?_;unfold dI;rw[h];rfl
  exact Ev.eq (fun aA=>by unfold T372;refine(aB (f211 a 1 5 n (by omega))).trans ?_;rw[h];rfl) (lp.ev (i:=()) rfl)
def NN:NodeT:=((0:Int),(0:Int),[],[],[],(0:Int),(0:Int),(0:Int),[],[],[],[],(0:Int),(0:Int),[],(0:Int),(0:Int),(0:Int),[],())
def gU(id n cap slots wait lim:Int):NodeT:=(id,n,[],[],(bX ([],[],())).1,(bX ([],[],())).2.1,cap,(0:Int),[],List.replicate n.toNat (eH K3),List.replicate n.toNat (eH K3),dI n,
 (0:Int),slots,[],wait,lim,(0:Int),List.replicate ((5:Int)).toNat (eH K147),())
theorem pE(s:aH):(bX s).1.length≤4:=by
 unfold bX;cases aO s with
 | true=>exact Nat.le_refl 4
 | false=>exact Nat.zero_le _
theorem y6{n:Int}(h:inB n 1 5=true):(dI n).length≤5:=by
 have:=aS.1 h
 unfold dI;rw[h];show(List.replicate n.toNat zF).length≤5;rw[List.length_replicate];omega
theorem lU{n:Int}(h:inB n 1 5=true){i:Nat}(hi:i<(dI n).length):gt (dI n) i=zF:=by
 rw[cV hi];unfold dI;simp[h]
theorem vQ(id n cap slots wait lim:Int)(h:inB n 1 5=true):SzN (gU id n cap slots wait lim):=by
 have hh:=aS.1 h
 have e:List.length (List.replicate n.toNat (eH K3))≤aU:=by rw[List.length_replicate];unfold aU;omega
 refine⟨⟨Nat.zero_le _,Nat.zero_le _⟩,Nat.le_trans (pE _) (by decide),Nat.zero_le _,(fun i hi=>absurd hi (Nat.not_lt_zero _)),e,e,Nat.le_trans (y6 h) (by decide),fun i hi=>?_,Nat.zero_le _,?_⟩
 ·rw[show gt (gU id n cap slots wait lim).seen i=zF from lU h hi];decide
 ·show List.length (List.replicate ((5:Int)).toNat (eH K147))≤aU
  rw[List.length_replicate];decide
def CZ(id n cap slots wait lim:Int):Bool:=inB n 1 5&&eF (gU id n cap slots wait lim)
def A8(id n cap slots wait lim:Int):NodeT:=bif CZ id n cap slots wait lim then gU id n cap slots wait lim else NN
theorem s00:SzS ([],[],()):=⟨Nat.zero_le _,Nat.zero_le _⟩
theorem dd{n:Int}(h:inB n 1 5=true):(decide (0≤n)&&decide (n≤(bound:Int))&&decide (n=n))=true:=by
 have:=aS.1 h
 unfold bound;simp;omega
theorem f348(id m cap slots wait lim:Int):Ran p 8 348 [.val false ⟨K3,(id,())⟩, .val false ⟨K3,(m,())⟩, .val false ⟨K3,(cap,())⟩, .val false ⟨K3,(slots,())⟩, .val false ⟨K3,(wait,())⟩, .val false ⟨K3,(lim,())⟩] ⟨[⟨K38,A8 id m cap slots wait lim⟩,⟨K4,(CZ id m cap slots wait lim,())⟩],[]⟩:=go348 fun n hn=>Ev.now fun aA=>by
 show T348 (aK p n) aA id m cap slots wait lim=some ⟨[⟨K38,A8 id m cap slots wait lim⟩,⟨K4,(CZ id m cap slots wait lim,())⟩],[]⟩
 unfold T348 A8 CZ
 refine(aB (f211 m 1 5 n (by omega))).trans ?_
 cases h:inB m 1 5 with
 | false=>rfl
 | true=>
  refine(aF rfl).trans ?_
  refine(aB (f228 ([],[],()) s00 n (by omega))).trans ?_
  refine(aN (dd h)).trans ?_;refine(aN (dd h)).trans ?_
  refine(aB (f372 m n (by omega))).trans ?_
  refine(aN (by decide)).trans ?_
  refine(aB (f86 (gU id m cap slots wait lim) (vQ _ _ _ _ _ _ h) n (by omega))).trans ?_
  cases eF (gU id m cap slots wait lim)<;>rfl
end Go.Abs.Xz
