/- What the functions of this program answer, part gn. -/
import Derived.Test.YtmamlgjbendjhaaGreatXl
set_option linter.unusedVariables false
namespace Go.Abs.Xz
open Go Go.Abs
def y9:bQ:=(List.replicate ((5:Int)).toNat (eB K3),())
def dG(n:Int):List bQ:=bif inB n 1 5 then List.replicate n.toNat y9 else[]
theorem f372(a:Int):Ran p 2 372 [.val false ⟨K3,(a,())⟩] ⟨[⟨K34,(dG a,())⟩],[]⟩:=go372 fun n hn=>by
 cases h:inB a 1 5 with
 | false=>exact Ev.now fun aA=>by unfold T372 dG;refine(aB (f211 a 1 5 n (by omega))).trans ?_;rw[h];rfl
 | true=>
  have ha:=aU.1 h
  have lp:It (fun aA (_:Unit)=>c372_5 (aK p n) aA a) ((0:Int),([]:List (Row K28))) (fun _=>some ⟨[⟨K34,(dG a,())⟩],[]⟩):=by
   refine It.run (fun i=>((i:Int),List.replicate i y9)) a.toNat (fun i hi aA u rec=>?_) (It.stop fun aA u rec=>?_)
   ·show c372_5 (aK p n) aA a rec ((i:Int),List.replicate i y9)=rec (((i+1:Nat):Int),List.replicate (i+1) y9)
    unfold c372_5;dsimp only;rw[aL (by omega)];refine(aE (by omega)).trans ?_;refine(aM (by decide)).trans ?_;refine(aE ?_).trans ?_
    ·show List.length (List.replicate i y9)+1≤bound;rw[List.length_replicate];unfold bound;omega
    ·rw[List.replicate_succ'];rfl
   ·show c372_5 (aK p n) aA a rec ((a.toNat:Int),List.replicate a.toNat y9)=_
    unfold c372_5;dsimp only;refine(aI (by omega)).trans ?_;unfold dG;rw[h];rfl
  exact Ev.eq (fun aA=>by unfold T372;refine(aB (f211 a 1 5 n (by omega))).trans ?_;rw[h];rfl) (lp.ev (i:=()) rfl)
def M8:NodeT:=((0:Int),(0:Int),[],[],[],(0:Int),(0:Int),(0:Int),[],[],[],[],(0:Int),(0:Int),[],(0:Int),(0:Int),(0:Int),[],())
def gR(id n cap slots wait lim:Int):NodeT:=(id,n,[],[],(bX ([],[],())).1,(bX ([],[],())).2.1,cap,(0:Int),[],List.replicate n.toNat (eB K3),List.replicate n.toNat (eB K3),dG n,
 (0:Int),slots,[],wait,lim,(0:Int),List.replicate ((5:Int)).toNat (eB K147),())
theorem oX(s:aH):(bX s).1.length≤4:=by
 unfold bX;cases aO s with
 | true=>exact Nat.le_refl 4
 | false=>exact Nat.zero_le _
theorem yY{n:Int}(h:inB n 1 5=true):(dG n).length≤5:=by
 have:=aU.1 h
 unfold dG;rw[h];show(List.replicate n.toNat y9).length≤5;rw[List.length_replicate];omega
theorem lN{n:Int}(h:inB n 1 5=true){i:Nat}(hi:i<(dG n).length):gt (dG n) i=y9:=by
 rw[cZ hi];unfold dG;simp[h]
theorem vG(id n cap slots wait lim:Int)(h:inB n 1 5=true):SzN (gR id n cap slots wait lim):=by
 have hh:=aU.1 h
 have e:List.length (List.replicate n.toNat (eB K3))≤aS:=by rw[List.length_replicate];unfold aS;omega
 refine⟨⟨Nat.zero_le _,Nat.zero_le _⟩,Nat.le_trans (oX _) (by decide),Nat.zero_le _,(fun i hi=>absurd hi (Nat.not_lt_zero _)),e,e,Nat.le_trans (yY h) (by decide),fun i hi=>?_,Nat.zero_le _,?_⟩
 ·rw[show gt (gR id n cap slots wait lim).seen i=y9 from lN h hi];decide
 ·show List.length (List.replicate ((5:Int)).toNat (eB K147))≤aS
  rw[List.length_replicate];decide
def CL(id n cap slots wait lim:Int):Bool:=inB n 1 5&&dP (gR id n cap slots wait lim)
def AV(id n cap slots wait lim:Int):NodeT:=bif CL id n cap slots wait lim then gR id n cap slots wait lim else M8
theorem s00:SzS ([],[],()):=⟨Nat.zero_le _,Nat.zero_le _⟩
theorem dd{n:Int}(h:inB n 1 5=true):(decide (0≤n)&&decide (n≤(bound:Int))&&decide (n=n))=true:=by
 have:=aU.1 h
 unfold bound;simp;omega
theorem f348(id m cap slots wait lim:Int):Ran p 8 348 [.val false ⟨K3,(id,())⟩, .val false ⟨K3,(m,())⟩, .val false ⟨K3,(cap,())⟩, .val false ⟨K3,(slots,())⟩, .val false ⟨K3,(wait,())⟩, .val false ⟨K3,(lim,())⟩] ⟨[⟨K38,AV id m cap slots wait lim⟩,⟨K4,(CL id m cap slots wait lim,())⟩],[]⟩:=go348 fun n hn=>Ev.now fun aA=>by
 show T348 (aK p n) aA id m cap slots wait lim=some ⟨[⟨K38,AV id m cap slots wait lim⟩,⟨K4,(CL id m cap slots wait lim,())⟩],[]⟩
 unfold T348 AV CL
 refine(aB (f211 m 1 5 n (by omega))).trans ?_
 cases h:inB m 1 5 with
 | false=>rfl
 | true=>
  refine(aF rfl).trans ?_
  refine(aB (f228 ([],[],()) s00 n (by omega))).trans ?_
  refine(aM (dd h)).trans ?_;refine(aM (dd h)).trans ?_
  refine(aB (f372 m n (by omega))).trans ?_
  refine(aM (by decide)).trans ?_
  refine(aB (f86 (gR id m cap slots wait lim) (vG _ _ _ _ _ _ h) n (by omega))).trans ?_
  cases dP (gR id m cap slots wait lim)<;>rfl
end Go.Abs.Xz
