/- What the functions of this program answer, part gn. -/
import Derived.Test.YtmamlgjbendjhaaGreatXl
set_option linter.unusedVariables false
namespace Go.Abs.Xz
open Go Go.Abs
def wL:cD:=(List.replicate ((5:Int)).toNat (c8 K3),())
def cT(n:Int):List cD:=bif inB n 1 5 then List.replicate n.toNat wL else[]
theorem f372(a:Int):Ran p 2 372 [.val false ⟨K3,(a,())⟩] ⟨[⟨K34,(cT a,())⟩],[]⟩:=go372 fun n hn=>by
 cases h:inB a 1 5 with
 | false=>exact Ev.now fun aA=>by unfold T372 cT;refine(aB (f211 a 1 5 n (by omega))).trans ?_;rw[h];rfl
 | true=>
  have ha:=aQ.1 h
  have lp:It (fun aA (_:Unit)=>c372_5 (aJ p n) aA a) ((0:Int),([]:List (Row K28))) (fun _=>some ⟨[⟨K34,(cT a,())⟩],[]⟩):=by
   refine It.run (fun i=>((i:Int),List.replicate i wL)) a.toNat (fun i hi aA u rec=>?_) (It.stop fun aA u rec=>?_)
   ·show c372_5 (aJ p n) aA a rec ((i:Int),List.replicate i wL)=rec (((i+1:Nat):Int),List.replicate (i+1) wL)
    unfold c372_5;dsimp only;rw[aL (by omega)];refine(aE (by omega)).trans ?_;refine(aN (by decide)).trans ?_;refine(aE ?_).trans ?_
    ·show List.length (List.replicate i wL)+1≤bound;rw[List.length_replicate];unfold bound;omega
    ·rw[List.replicate_succ'];rfl
   ·show c372_5 (aJ p n) aA a rec ((a.toNat:Int),List.replicate a.toNat wL)=_
    unfold c372_5;dsimp only;refine(aG (by omega)).trans ?_;unfold cT;rw[h];rfl
  exact Ev.eq (fun aA=>by unfold T372;refine(aB (f211 a 1 5 n (by omega))).trans ?_;rw[h];rfl) (lp.ev (i:=()) rfl)
def H5:NodeT:=((0:Int),(0:Int),[],[],[],(0:Int),(0:Int),(0:Int),[],[],[],[],(0:Int),(0:Int),[],(0:Int),(0:Int),(0:Int),[],())
def fP(id n cap slots wait lim:Int):NodeT:=(id,n,[],[],(cA ([],[],())).1,(cA ([],[],())).2.1,cap,(0:Int),[],List.replicate n.toNat (c8 K3),List.replicate n.toNat (c8 K3),cT n,
 (0:Int),slots,[],wait,lim,(0:Int),List.replicate ((5:Int)).toNat (c8 K147),())
theorem y8(s:aK):(cA s).1.length≤4:=by
 unfold cA;cases aP s with
 | true=>exact Nat.le_refl 4
 | false=>exact Nat.zero_le _
theorem wC{n:Int}(h:inB n 1 5=true):(cT n).length≤5:=by
 have:=aQ.1 h
 unfold cT;rw[h];show(List.replicate n.toNat wL).length≤5;rw[List.length_replicate];omega
theorem kA{n:Int}(h:inB n 1 5=true){i:Nat}(hi:i<(cT n).length):gt (cT n) i=wL:=by
 rw[dY hi];unfold cT;simp[h]
theorem tD(id n cap slots wait lim:Int)(h:inB n 1 5=true):SzN (fP id n cap slots wait lim):=by
 have hh:=aQ.1 h
 have e:List.length (List.replicate n.toNat (c8 K3))≤aS:=by rw[List.length_replicate];unfold aS;omega
 refine⟨⟨Nat.zero_le _,Nat.zero_le _⟩,Nat.le_trans (y8 _) (by decide),Nat.zero_le _,(fun i hi=>absurd hi (Nat.not_lt_zero _)),e,e,Nat.le_trans (wC h) (by decide),fun i hi=>?_,Nat.zero_le _,?_⟩
 ·rw[show gt (fP id n cap slots wait lim).seen i=wL from kA h hi];decide
 ·show List.length (List.replicate ((5:Int)).toNat (c8 K147))≤aS
  rw[List.length_replicate];decide
def zT(id n cap slots wait lim:Int):Bool:=inB n 1 5&&dA (fP id n cap slots wait lim)
def yE(id n cap slots wait lim:Int):NodeT:=bif zT id n cap slots wait lim then fP id n cap slots wait lim else H5
theorem s00:SzS ([],[],()):=⟨Nat.zero_le _,Nat.zero_le _⟩
theorem dd{n:Int}(h:inB n 1 5=true):(decide (0≤n)&&decide (n≤(bound:Int))&&decide (n=n))=true:=by
 have:=aQ.1 h
 unfold bound;simp;omega
theorem f348(id m cap slots wait lim:Int):Ran p 8 348 [.val false ⟨K3,(id,())⟩, .val false ⟨K3,(m,())⟩, .val false ⟨K3,(cap,())⟩, .val false ⟨K3,(slots,())⟩, .val false ⟨K3,(wait,())⟩, .val false ⟨K3,(lim,())⟩] ⟨[⟨K38,yE id m cap slots wait lim⟩,⟨K4,(zT id m cap slots wait lim,())⟩],[]⟩:=go348 fun n hn=>Ev.now fun aA=>by
 show T348 (aJ p n) aA id m cap slots wait lim=some ⟨[⟨K38,yE id m cap slots wait lim⟩,⟨K4,(zT id m cap slots wait lim,())⟩],[]⟩
 unfold T348 yE zT
 refine(aB (f211 m 1 5 n (by omega))).trans ?_
 cases h:inB m 1 5 with
 | false=>rfl
 | true=>
  refine(aF rfl).trans ?_
  refine(aB (f228 ([],[],()) s00 n (by omega))).trans ?_
  refine(aN (dd h)).trans ?_;refine(aN (dd h)).trans ?_
  refine(aB (f372 m n (by omega))).trans ?_
  refine(aN (by decide)).trans ?_
  refine(aB (f86 (fP id m cap slots wait lim) (tD _ _ _ _ _ _ h) n (by omega))).trans ?_
  cases dA (fP id m cap slots wait lim)<;>rfl
end Go.Abs.Xz
