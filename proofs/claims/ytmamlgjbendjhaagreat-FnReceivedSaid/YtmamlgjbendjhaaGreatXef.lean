/- What the functions of this program answer, part ef. -/
import Derived.Test.YtmamlgjbendjhaaGreatXdj
set_option linter.unusedVariables false
set_option maxHeartbeats 2000000
namespace Go.Abs.Xz
open Go Go.Abs
structure MsgD (m:MsgT):Prop where
 leaves:m.tree.1.length≤4
 vec:m.vec.length≤5
 list:m.leaves.length≤5
 part:SzS m.part
 marks:m.marks.length≤6
theorem MsgD.sz{m:MsgT}(h:MsgD m):SzM m:=
 ⟨Nat.le_trans h.leaves (by decide),Nat.le_trans h.vec (by decide),Nat.le_trans h.list (by decide),h.part,Nat.le_trans h.marks (by decide)⟩
theorem f324(c:dL)(h:CurOk c):∃ (ms:List aR) (d:dL),Ran p 6 324 [.ref ⟨K264,c⟩] ⟨[⟨K41,(ms,())⟩],[⟨K264,d⟩]⟩∧CurOk d∧ms.length≤6:=by
 obtain⟨s,d1,h1,k1,hs,_⟩:=f349 c h
 have h2:=f234 s (hs.sz (by omega))
 have hl:=dZ s
 obtain⟨b,d3,h3,k3⟩:=f128 d1 10 k1
 cases b with
 | true=>
  obtain⟨x4,d4,h4,k4,_⟩:=f219 d3 7 k3
  obtain⟨x5,d5,h5,k5,_⟩:=f249 d4 [((0:Int),()),((1:Int),()),((1001:Int),())] k4 (by show 0<3;omega)
  have hb:(cB s).length+1≤bound:=by unfold bound;omega
  refine⟨cB s++[(IntKind.i64.wrap (x4 - 1),x5,())],d5,go324 fun n hn=>Ev.now fun aA=>by unfold T324;refine(aG (h1 n (by omega))).trans ?_;refine(aB (h2 n (by omega))).trans ?_;refine(aG (h3 n (by omega))).trans ?_;refine(aN rfl).trans ?_;refine(aG (h4 n (by omega))).trans ?_;refine(aG (h5 n (by omega))).trans ?_;refine(aE hb).trans ?_;rfl,k5,?_⟩
  rw[List.length_append,List.length_singleton];omega
 | false=>exact⟨cB s,d3,go324 fun n hn=>Ev.now fun aA=>by unfold T324;refine(aG (h1 n (by omega))).trans ?_;refine(aB (h2 n (by omega))).trans ?_;refine(aG (h3 n (by omega))).trans ?_;refine(aF rfl).trans ?_;rfl,k3,by omega⟩
theorem f323(c:dL)(h:CurOk c):∃ (m:MsgT) (d:dL),Ran p 7 323 [.ref ⟨K264,c⟩] ⟨[⟨K43,m⟩],[⟨K264,d⟩]⟩∧CurOk d∧MsgD m:=by
 obtain⟨s,d1,h1,k1,hs,ho⟩:=f349 c h
 obtain⟨x2,d2,h2,k2,_⟩:=f219 d1 5 k1
 obtain⟨x3,d3,h3,k3,_⟩:=f219 d2 6 k2
 obtain⟨x4,d4,h4,k4,_⟩:=f219 d3 4 k3
 obtain⟨x5,d5,h5,k5,_⟩:=f219 d4 5 k4
 obtain⟨x6,d6,h6,k6,_⟩:=f219 d5 300 k5
 obtain⟨b7,d7,h7,k7⟩:=f128 d6 2 k6
 have h8:=f228 s (hs.sz (by omega))
 obtain⟨x9,d9,h9,k9,a9,b9,_⟩:=f219 d7 4 k7
 have c9:=b9 (by omega)
 have hsm:=u6 ho
 let Good:Out→Prop:=fun o=>∃ (m:MsgT) (d:dL),o=⟨[⟨K43,m⟩],[⟨K264,d⟩]⟩∧CurOk d∧MsgD m
 have second:∀ (r:Int) (lv v:List aX) (d:dL),CurOk d→lv.length≤4→v.length≤5→∃ o,Good o∧∀ n,7 - 1≤n→It (fun aA (_:Unit)=>c323_12 (aK p n) aA ((s,()),(d1,())) (((x2,()),()),(d2,())) (((x3,()),()),(d3,())) (((x4,()),()),(d4,())) (((x5,()),()),(d5,())) (((x6,()),()),(d6,())) v) (r,lv,(0:Int),([]:List aX),d.1,d.2.1,d.2.2.1) (fun _=>some o):=by
  intro r lv v d hd hlv hv
  refine It.ex (c:=fun n aA (_:Unit)=>c323_12 (aK p n) aA ((s,()),(d1,())) (((x2,()),()),(d2,())) (((x3,()),()),(d3,())) (((x4,()),()),(d4,())) (((x5,()),()),(d5,())) (((x6,()),()),(d6,())) v) (fun i z=>∃ (a:List aX) (d:dL),z=(r,lv,(i:Int),a,d.1,d.2.1,d.2.2.1)∧CurOk d∧a.length≤i) Good 4 ?_ ?_ 4 0 _ (by omega) ⟨[],d,rfl,hd,Nat.le_refl _⟩
  ·rintro i z hi ⟨a,d,rfl,hd,ha⟩
   obtain⟨b,e,hb,ke⟩:=f128 d 2 hd
   have hbd:a.length+1≤bound:=by unfold bound;omega
   cases b with
   | true=>
    refine⟨_,⟨a++[((i:Int),())],e,rfl,ke,by rw[List.length_append,List.length_singleton];omega⟩,fun n hn aA u rec=>?_⟩
    show c323_12 (aK p n) aA ((s,()),(d1,())) (((x2,()),()),(d2,())) (((x3,()),()),(d3,())) (((x4,()),()),(d4,())) (((x5,()),()),(d5,())) (((x6,()),()),(d6,())) v rec (r,lv,(i:Int),a,d.1,d.2.1,d.2.2.1)=_
    unfold c323_12;dsimp only;rw[aL (show i<9223372036854775807 by omega)];refine(aE (show(i:Int)<4 by omega)).trans ?_;refine(aG (hb n (by omega))).trans ?_;refine(aN rfl).trans ?_;refine(aE hbd).trans ?_;rfl
   | false=>
    refine⟨_,⟨a,e,rfl,ke,by omega⟩,fun n hn aA u rec=>?_⟩
    show c323_12 (aK p n) aA ((s,()),(d1,())) (((x2,()),()),(d2,())) (((x3,()),()),(d3,())) (((x4,()),()),(d4,())) (((x5,()),()),(d5,())) (((x6,()),()),(d6,())) v rec (r,lv,(i:Int),a,d.1,d.2.1,d.2.2.1)=_
    unfold c323_12;dsimp only;rw[aL (show i<9223372036854775807 by omega)];refine(aE (show(i:Int)<4 by omega)).trans ?_;refine(aG (hb n (by omega))).trans ?_;refine(aF rfl).trans ?_;rfl
  ·rintro z ⟨a,d,rfl,hd,ha⟩
   have g1:=f261 s a (Nat.le_trans ha (by decide)) hsm.1 hsm.2
   have g2:=f234 s (hs.sz (by omega))
   refine⟨_,⟨(x3,x2,(IntKind.i64.wrap (IntKind.i64.wrap (x2+1)+x4)).tmod 5,x5,x6,lv,r,v,a,(f0 s a).1,(f0 s a).2.1,cB s,()),d,rfl,hd,⟨hlv,hv,by show a.length≤5;omega,u7 (hs.sz (by omega)) a,by show(cB s).length≤6;have:=dZ s;omega⟩⟩,fun n hn=>It.stop fun aA u rec=>?_⟩
   show c323_12 (aK p n) aA ((s,()),(d1,())) (((x2,()),()),(d2,())) (((x3,()),()),(d3,())) (((x4,()),()),(d4,())) (((x5,()),()),(d5,())) (((x6,()),()),(d6,())) v rec (r,lv,(4:Int),a,d.1,d.2.1,d.2.2.1)=_
   unfold c323_12;dsimp only;refine(aI (show ¬ (4:Int)<4 by omega)).trans ?_;refine(aB (g1 n (by omega))).trans ?_;refine(aB (g2 n (by omega))).trans ?_;rfl
 obtain⟨t,rfl⟩:∃ t:Nat,x9=t:=⟨x9.toNat,by omega⟩
 have first:∀ (r:Int) (lv:List aX),lv.length≤4→∃ o,Good o∧∀ n,7 - 1≤n→It (fun aA (_:Unit)=>c323_8 (aK p n) aA ((s,()),(d1,())) (((x2,()),()),(d2,())) (((x3,()),()),(d3,())) (((x4,()),()),(d4,())) (((x5,()),()),(d5,())) (((x6,()),()),(d6,()))) ((t:Int),r,lv,(0:Int),([]:List aX),d9.1,d9.2.1,d9.2.2.1) (fun _=>some o):=by
  intro r lv hlv
  refine It.ex (c:=fun n aA (_:Unit)=>c323_8 (aK p n) aA ((s,()),(d1,())) (((x2,()),()),(d2,())) (((x3,()),()),(d3,())) (((x4,()),()),(d4,())) (((x5,()),()),(d5,())) (((x6,()),()),(d6,()))) (fun i z=>∃ (v:List aX) (d:dL),z=((t:Int),r,lv,(i:Int),v,d.1,d.2.1,d.2.2.1)∧CurOk d∧v.length≤i) Good t ?_ ?_ t 0 _ (by omega) ⟨[],d9,rfl,k9,Nat.le_refl _⟩
  ·rintro i z hi ⟨v,d,rfl,hd,hv⟩
   obtain⟨y,e,hy,ke,_⟩:=f219 d 200 hd
   have hbd:v.length+1≤bound:=by unfold bound;omega
   refine⟨_,⟨v++[(y,())],e,rfl,ke,by rw[List.length_append,List.length_singleton];omega⟩,fun n hn aA u rec=>?_⟩
   show c323_8 (aK p n) aA ((s,()),(d1,())) (((x2,()),()),(d2,())) (((x3,()),()),(d3,())) (((x4,()),()),(d4,())) (((x5,()),()),(d5,())) (((x6,()),()),(d6,())) rec ((t:Int),r,lv,(i:Int),v,d.1,d.2.1,d.2.2.1)=_
   unfold c323_8;dsimp only;rw[aL (show i<9223372036854775807 by omega)];refine(aE (show(i:Int)<(t:Int) by omega)).trans ?_;refine(aG (hy n (by omega))).trans ?_;refine(aE hbd).trans ?_;rfl
  ·rintro z ⟨v,d,rfl,hd,hv⟩
   obtain⟨o,hg,hL⟩:=second r lv v d hd hlv (by omega)
   refine⟨o,hg,fun n hn=>It.stopE (T:=fun aA _=>iter (c323_12 (aK p n) aA ((s,()),(d1,())) (((x2,()),()),(d2,())) (((x3,()),()),(d3,())) (((x4,()),()),(d4,())) (((x5,()),()),(d5,())) (((x6,()),()),(d6,())) v) aA (r,lv,(0:Int),([]:List aX),d.1,d.2.1,d.2.2.1)) (fun aA u rec=>?_) (hL n hn).all_i⟩
   show c323_8 (aK p n) aA ((s,()),(d1,())) (((x2,()),()),(d2,())) (((x3,()),()),(d3,())) (((x4,()),()),(d4,())) (((x5,()),()),(d5,())) (((x6,()),()),(d6,())) rec ((t:Int),r,lv,(t:Int),v,d.1,d.2.1,d.2.2.1)=_
   unfold c323_8;dsimp only;refine(aI (Int.lt_irrefl _)).trans ?_;rfl
 have n5:¬ ((5:Int)=0):=by omega
 cases b7 with
 | true=>
  obtain⟨o,⟨m,d,rfl,hd,hm⟩,hL⟩:=first (bX s).2.1 (bX s).1 (pE s)
  exact⟨m,d,go323 fun n hn=>Ev.eq (fun aA=>by unfold T323;refine(aG (h1 n (by omega))).trans ?_;refine(aG (h2 n (by omega))).trans ?_;refine(aG (h3 n (by omega))).trans ?_;refine(aG (h4 n (by omega))).trans ?_;refine(aI n5).trans ?_;refine(aG (h5 n (by omega))).trans ?_;refine(aG (h6 n (by omega))).trans ?_;refine(aG (h7 n (by omega))).trans ?_;refine(aN rfl).trans ?_;refine(aB (h8 n (by omega))).trans ?_;refine(aG (h9 n (by omega))).trans ?_;rfl) ((hL n (by omega)).ev (i:=()) rfl),hd,hm⟩
 | false=>
  obtain⟨o,⟨m,d,rfl,hd,hm⟩,hL⟩:=first 0 [] (Nat.zero_le _)
  exact⟨m,d,go323 fun n hn=>Ev.eq (fun aA=>by unfold T323;refine(aG (h1 n (by omega))).trans ?_;refine(aG (h2 n (by omega))).trans ?_;refine(aG (h3 n (by omega))).trans ?_;refine(aG (h4 n (by omega))).trans ?_;refine(aI n5).trans ?_;refine(aG (h5 n (by omega))).trans ?_;refine(aG (h6 n (by omega))).trans ?_;refine(aG (h7 n (by omega))).trans ?_;refine(aF rfl).trans ?_;refine(aG (h9 n (by omega))).trans ?_;rfl) ((hL n (by omega)).ev (i:=()) rfl),hd,hm⟩
end Go.Abs.Xz
