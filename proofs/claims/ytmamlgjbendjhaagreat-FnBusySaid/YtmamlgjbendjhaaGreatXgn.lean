/- What the functions of this program answer, part gn. -/
import Derived.Test.YtmamlgjbendjhaaGreatXl
set_option linter.unusedVariables false
namespace Go.Abs.Xz
open Go Go.Abs
def oM:cE:=(List.replicate ((5:Int)).toNat (cG K3),())
def cF(n:Int):List cE:=bif inB n 1 5 then List.replicate n.toNat oM else[]
theorem f372(a:Int):Ran p 2 372 [.val false ⟨K3,(a,())⟩] ⟨[⟨K34,(cF a,())⟩],[]⟩:=go372 fun n hn=>by
 cases h:inB a 1 5 with
 | false=>exact Ev.now fun aA=>by unfold T372 cF;refine(aB (f211 a 1 5 n (by omega))).trans ?_;rw[h];rfl
 | true=>
  have ha:=aQ.1 h
  have lp:It (fun aA (_:Unit)=>c372_5 (aK p n) aA a) ((0:Int),([]:List (Row K28))) (fun _=>some ⟨[⟨K34,(cF a,())⟩],[]⟩):=by
   refine It.run (fun i=>((i:Int),List.replicate i oM)) a.toNat (fun i hi aA u rec=>?_) (It.stop fun aA u rec=>?_)
   ·show c372_5 (aK p n) aA a rec ((i:Int),List.replicate i oM)=rec (((i+1:Nat):Int),List.replicate (i+1) oM)
    unfold c372_5;dsimp only;rw[aL (by omega)];refine(aE (by omega)).trans ?_;refine(aN (by decide)).trans ?_;refine(aE ?_).trans ?_
    ·show List.length (List.replicate i oM)+1≤bound;rw[List.length_replicate];unfold bound;omega
    ·rw[List.replicate_succ'];rfl
   ·show c372_5 (aK p n) aA a rec ((a.toNat:Int),List.replicate a.toNat oM)=_
    unfold c372_5;dsimp only;refine(aG (by omega)).trans ?_;unfold cF;rw[h];rfl
  exact Ev.eq (fun aA=>by unfold T372;refine(aB (f211 a 1 5 n (by omega))).trans ?_;rw[h];rfl) (lp.ev (i:=()) rfl)
theorem f111(a:Int):Ran p 2 111 [.val false ⟨K3,(a,())⟩] ⟨[⟨K34,(cF a,())⟩],[]⟩:=go111 fun n hn=>by
 cases h:inB a 1 5 with
 | false=>exact Ev.now fun aA=>by unfold T111 cF;refine(aB (f100 a 1 5 n (by omega))).trans ?_;rw[h];rfl
 | true=>
  have ha:=aQ.1 h
  have lp:It (fun aA (_:Unit)=>c111_5 (aK p n) aA a) ((0:Int),([]:List (Row K28))) (fun _=>some ⟨[⟨K34,(cF a,())⟩],[]⟩):=by
   refine It.run (fun i=>((i:Int),List.replicate i oM)) a.toNat (fun i hi aA u rec=>?_) (It.stop fun aA u rec=>?_)
   ·show c111_5 (aK p n) aA a rec ((i:Int),List.replicate i oM)=rec (((i+1:Nat):Int),List.replicate (i+1) oM)
    unfold c111_5;dsimp only;rw[aL (by omega)];refine(aE (by omega)).trans ?_;refine(aN (by decide)).trans ?_;refine(aE ?_).trans ?_
    ·show List.length (List.replicate i oM)+1≤bound;rw[List.length_replicate];unfold bound;omega
    ·rw[List.replicate_succ'];rfl
   ·show c111_5 (aK p n) aA a rec ((a.toNat:Int),List.replicate a.toNat oM)=_
    unfold c111_5;dsimp only;refine(aG (by omega)).trans ?_;unfold cF;rw[h];rfl
  exact Ev.eq (fun aA=>by unfold T111;refine(aB (f100 a 1 5 n (by omega))).trans ?_;rw[h];rfl) (lp.ev (i:=()) rfl)
def IW:NodeT:=((0:Int),(0:Int),[],[],[],(0:Int),(0:Int),(0:Int),[],[],[],[],(0:Int),(0:Int),[],(0:Int),(0:Int),(0:Int),[],())
def eD(id n cap slots wait lim:Int):NodeT:=(id,n,[],[],(bS ([],[],())).1,(bS ([],[],())).2.1,cap,(0:Int),[],List.replicate n.toNat (cG K3),List.replicate n.toNat (cG K3),cF n,
 (0:Int),slots,[],wait,lim,(0:Int),List.replicate ((5:Int)).toNat (cG K147),())
theorem zJ(s:aI):(bS s).1.length≤4:=by
 unfold bS;cases aO s with
 | true=>exact Nat.le_refl 4
 | false=>exact Nat.zero_le _
theorem wR{n:Int}(h:inB n 1 5=true):(cF n).length≤5:=by
 have:=aQ.1 h
 unfold cF;rw[h];show(List.replicate n.toNat oM).length≤5;rw[List.length_replicate];omega
theorem kK{n:Int}(h:inB n 1 5=true){i:Nat}(hi:i<(cF n).length):gt (cF n) i=oM:=by
 rw[dQ hi];unfold cF;simp[h]
theorem kV(id n cap slots wait lim:Int)(h:inB n 1 5=true):SzN (eD id n cap slots wait lim):=by
 have hh:=aQ.1 h
 have e:List.length (List.replicate n.toNat (cG K3))≤aW:=by rw[List.length_replicate];unfold aW;omega
 refine⟨⟨Nat.zero_le _,Nat.zero_le _⟩,Nat.le_trans (zJ _) (by decide),Nat.zero_le _,(fun i hi=>absurd hi (Nat.not_lt_zero _)),e,e,Nat.le_trans (wR h) (by decide),fun i hi=>?_,Nat.zero_le _,?_⟩
 ·rw[show gt (eD id n cap slots wait lim).seen i=oM from kK h hi];decide
 ·show List.length (List.replicate ((5:Int)).toNat (cG K147))≤aW
  rw[List.length_replicate];decide
def uZ(id n cap slots wait lim:Int):Bool:=inB n 1 5&&dC (eD id n cap slots wait lim)
def rG(id n cap slots wait lim:Int):NodeT:=bif uZ id n cap slots wait lim then eD id n cap slots wait lim else IW
theorem s00:SzS ([],[],()):=⟨Nat.zero_le _,Nat.zero_le _⟩
theorem dd{n:Int}(h:inB n 1 5=true):(decide (0≤n)&&decide (n≤(bound:Int))&&decide (n=n))=true:=by
 have:=aQ.1 h
 unfold bound;simp;omega
theorem f348(id m cap slots wait lim:Int):Ran p 8 348 [.val false ⟨K3,(id,())⟩, .val false ⟨K3,(m,())⟩, .val false ⟨K3,(cap,())⟩, .val false ⟨K3,(slots,())⟩, .val false ⟨K3,(wait,())⟩, .val false ⟨K3,(lim,())⟩] ⟨[⟨K38,rG id m cap slots wait lim⟩,⟨K4,(uZ id m cap slots wait lim,())⟩],[]⟩:=go348 fun n hn=>Ev.now fun aA=>by
 show T348 (aK p n) aA id m cap slots wait lim=some ⟨[⟨K38,rG id m cap slots wait lim⟩,⟨K4,(uZ id m cap slots wait lim,())⟩],[]⟩
 unfold T348 rG uZ
 refine(aB (f211 m 1 5 n (by omega))).trans ?_
 cases h:inB m 1 5 with
 | false=>rfl
 | true=>
  refine(aF rfl).trans ?_
  refine(aB (f228 ([],[],()) s00 n (by omega))).trans ?_
  refine(aN (dd h)).trans ?_;refine(aN (dd h)).trans ?_
  refine(aB (f372 m n (by omega))).trans ?_
  refine(aN (by decide)).trans ?_
  refine(aB (f86 (eD id m cap slots wait lim) (kV _ _ _ _ _ _ h) n (by omega))).trans ?_
  cases dC (eD id m cap slots wait lim)<;>rfl
theorem f24(id m cap slots wait lim:Int):Ran p 8 24 [.val false ⟨K3,(id,())⟩, .val false ⟨K3,(m,())⟩, .val false ⟨K3,(cap,())⟩, .val false ⟨K3,(slots,())⟩, .val false ⟨K3,(wait,())⟩, .val false ⟨K3,(lim,())⟩] ⟨[⟨K38,rG id m cap slots wait lim⟩,⟨K4,(uZ id m cap slots wait lim,())⟩],[]⟩:=go24 fun n hn=>Ev.now fun aA=>by
 show T24 (aK p n) aA id m cap slots wait lim=some ⟨[⟨K38,rG id m cap slots wait lim⟩,⟨K4,(uZ id m cap slots wait lim,())⟩],[]⟩
 unfold T24 rG uZ
 refine(aB (f100 m 1 5 n (by omega))).trans ?_
 cases h:inB m 1 5 with
 | false=>rfl
 | true=>
  refine(aF rfl).trans ?_
  refine(aB (f103 ([],[],()) s00 n (by omega))).trans ?_
  refine(aN (dd h)).trans ?_;refine(aN (dd h)).trans ?_
  refine(aB (f111 m n (by omega))).trans ?_
  refine(aN (by decide)).trans ?_
  refine(aB (f23 (eD id m cap slots wait lim) (kV _ _ _ _ _ _ h) n (by omega))).trans ?_
  cases dC (eD id m cap slots wait lim)<;>rfl
end Go.Abs.Xz
