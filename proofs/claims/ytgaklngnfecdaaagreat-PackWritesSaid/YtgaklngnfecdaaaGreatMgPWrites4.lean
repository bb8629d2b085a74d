import Derived.Test.YtgaklngnfecdaaaGreatMgPWrites3
import Derived.Shelf.Strings.Search1
import Derived.Test.YtgaklngnfecdaaaGreatMgPWrites2
import Derived.Recover
import Derived.Maps.Views
import Derived.StringKeys
set_option linter.unusedSimpArgs false
set_option linter.unusedVariables false
set_option maxRecDepth 100000
namespace Go.Proofs.YtgaklngnfecdaaaGreat
namespace Rev
open Go.RowKit Zk Zx
open Oid (idf hexL ris gM_ B_)
open Tre (aw_)
structure Cm where
  tr:Oid.Id
  A:Option Addr
  n:Nat
  c:Nat
  ps:List Oid.Id
  au:ByteArray
  tm:Int
  tx:ByteArray
def cmf (x:Cm):List Value:=idf x.tr++[.slice x.A x.n x.c,.string x.au,.int .i64 x.tm,.string x.tx]
theorem ll_ (x:Cm):(cmf x).length=36:=by simp [cmf,B_]
theorem aY_ (x:Cm):∀ u ∈ cmf x,u.oneCell'=true:=fun u hu=>by
  rcases List.mem_append.1 hu with h | h
  · exact R_ _ u h
  · simp at h
    rcases h with rfl | rfl | rfl | rfl <;> rfl
theorem cm_at (x:Cm) (k:Nat):(cmf x).toArray[32+k]?=[Value.slice x.A x.n x.c,.string x.au,.int .i64 x.tm,.string x.tx][k]?:=by
  rw [List.getElem?_toArray,cmf,List.getElem?_append_right (by rw [B_];omega),B_]
  congr 1
  omega
theorem cm32 (x:Cm):(cmf x).toArray[32]?=some (.slice x.A x.n x.c):=cm_at x 0
theorem cm33 (x:Cm):(cmf x).toArray[33]?=some (.string x.au):=cm_at x 1
theorem cm34 (x:Cm):(cmf x).toArray[34]?=some (.int .i64 x.tm):=cm_at x 2
theorem cm35 (x:Cm):(cmf x).toArray[35]?=some (.string x.tx):=cm_at x 3
theorem dd_ (x:Cm):((cmf x).toArray.toList.drop 0).take 36=cmf x∧(cmf x).length=36:=⟨by rw [List.drop_zero];exact List.take_of_length_le (by have:=ll_ x;simp only [] at this ⊢;omega),ll_ x⟩
def chk (x:Cm):Int:=if 6 < x.n∨400 < x.tx.size then 3 else if ¬ x.ps.Nodup then 17 else if aw_ x.au=false then 15 else if x.tm < 0∨1099511627776 < x.tm then 2 else 0
theorem ju_ {α:Type} [DecidableEq α]:∀ (a b:List α),a.Nodup→(∀ x ∈ a,x ∈ b)→a.length≤b.length
  | [],b,_,_=>Nat.zero_le _
  | x::a,b,hn,h=>by
    rw [List.nodup_cons] at hn
    have hx:=h x List.mem_cons_self
    have ih:=ju_ a (b.erase x) hn.2 fun y hy=>(List.mem_erase_of_ne (fun e=>by subst e;exact hn.1 hy)).2 (h y (List.mem_cons_of_mem _ hy))
    rw [List.length_erase_of_mem hx] at ih
    have:=List.length_pos_of_mem hx
    rw [List.length_cons]
    omega
theorem shorter {α:Type} [DecidableEq α]:∀ (l:List α),¬ l.Nodup→∃ m:List α,m.length < l.length∧∀ z ∈ l,z ∈ m
  | [],h=>absurd List.nodup_nil h
  | x :: l,h=>by
    by_cases hx:x ∈ l
    · exact ⟨l,by simp,fun z hz=>by rcases List.mem_cons.1 hz with rfl | hz;exact hx;exact hz⟩
    · obtain ⟨m,h1,h2⟩:=shorter l (fun hn=>h (List.nodup_cons.2 ⟨hx,hn⟩))
      exact ⟨x::m,by simp;exact h1,fun z hz=>by rcases List.mem_cons.1 hz with rfl | hz;exact List.mem_cons_self;exact List.mem_cons_of_mem _ (h2 z hz)⟩
theorem ris_nodup {s:List Oid.Id} (h:ris s=true):s.Nodup:=by
  unfold List.Nodup
  rw [List.pairwise_iff_getElem]
  exact fun i j hi hj hij=>gM_ h (List.getElem?_eq_getElem hi) (List.getElem?_eq_getElem hj) (by omega)
theorem twice_iff {s l:List Oid.Id} (hr:ris s=true) (hm:∀ z,z ∈ s↔z ∈ l):s.length < l.length↔¬ l.Nodup:=by
  have hs:=ris_nodup hr
  constructor
  · intro h hn
    have:=ju_ l s hn fun z hz=>(hm z).2 hz
    omega
  · intro h
    obtain ⟨m,h1,h2⟩:=shorter l h
    have:=ju_ s m hs fun z hz=>h2 z ((hm z).1 hz)
    omega
theorem take_nodup {l:List Oid.Id} {k:Nat} {x:Oid.Id} (hx:l[k]?=some x) (h:(l.take k).Nodup) (hn:∀ i y,i < k→l[i]?=some y→y≠x):(l.take (k+1)).Nodup:=by
  rw [List.take_add_one,hx]
  show (l.take k++[x]).Nodup
  rw [List.nodup_append]
  refine ⟨h,by simp,fun a ha b hb e=>?_⟩
  obtain rfl:=List.mem_singleton.1 hb
  obtain ⟨i,hi,he⟩:=List.getElem_of_mem ha
  rw [List.length_take] at hi
  exact hn i a (by omega) (by rw [← he,List.getElem_take];exact List.getElem?_eq_getElem (by omega)) e
theorem not_nodup {l:List Oid.Id} {i k:Nat} {x:Oid.Id} (hi:l[i]?=some x) (hk:l[k]?=some x) (h:i < k):¬ l.Nodup:=fun hn=>by
  unfold List.Nodup at hn
  rw [List.pairwise_iff_getElem] at hn
  obtain ⟨h1,h2⟩:=List.getElem?_eq_some_iff.1 hi
  obtain ⟨h3,h4⟩:=List.getElem?_eq_some_iff.1 hk
  exact hn i k h1 h3 h (by rw [h2,h4])
theorem check (x:Cm) (w0:World) (hps:Rs w0 32 x.A x.n x.c (x.ps.flatMap idf)) :
    Calls Tryz.prog 109 #[.agg (cmf x).toArray] w0 fun e w'=>∃ u,e=.returned u∧Like w0 w'∧u=.int .i64 (chk x):=by
 refine v_ (env:=[(0,.agg (cmf x).toArray)]) [.agg (cmf x).toArray] Tryz.func109 Z Tryz.ntmps109 Z Z ?_;have hpn:x.n=x.ps.length:=Oid.io_ hps;have S0:=St.start w0 noM;refine a_ fun K1 hK1=>b_ (L_o (bO_ Z S0 Z fun b1 w1 hb1 S1=>Lan Z Z (hK1 _ _ (a_ fun K2 hK2=>r_ (a_ fun K3 hK3=>b_ (L_y (g_ 32 Tryz.underlying83 Z sz81 Z Z Z) Z (L_y (t_ Tryz.underlying81 Z Z (((S1.blk 0 Z).cell _).trans (cm32 x))) Z (L_y (I_ Tryz.underlying81 Z) Z (L_y (Z_ Z Z) Z ?_)))))))));refine Lm Z Z ?_;refine y_ 8 Z (fun h8=>?_) (fun h8=>?_)
 ·
  refine h_ Z Z Z (h_ Z Z Z (h_ Z Z Z (h_ Z Z Z (Lp Z Z Z (Lan Z Z (hK3 _ _ (W_ Z (a_ fun K4 hK4=>b_ (Lan Z Z (hK4 _ _ ?_))))))))));refine l_ (ur (F_ Z Z ?_));exact ⟨_,rfl,S1.like0,by unfold chk;first | rw [if_pos (by omega)] | rw [if_neg (by omega),if_pos (by assumption)] | rw [if_neg (by omega),if_neg hnd,if_pos hnm] | rw [if_neg (by omega),if_neg hnd,if_neg hnm,if_pos htm] | rw [if_neg (by omega),if_neg hnd,if_neg hnm,if_neg htm]⟩
 ·
  refine d_ Z Z (L_y (g_ 35 Tryz.underlying83 Z sz9 Z Z Z) Z (d_ Z Z (L_y (t_ Tryz.underlying9 Z Z (((S1.blk 0 Z).cell _).trans (cm35 x))) Z (d_ Z Z (L_y (av_ Tryz.underlying9 Z) Z (d_ Z Z (L_y (Z_ Z Z) Z (Lp Z Z Z (Lan Z Z (hK3 _ _ ?_))))))))));refine o_ Z (fun h3=>?_) (fun h3=>?_)
  ·
   refine a_ fun K5 hK5=>b_ (Lan Z Z (hK5 _ _ (l_ (ur (F_ Z Z ?_)))));exact ⟨_,rfl,S1.like0,by unfold chk;first | rw [if_pos (by omega)] | rw [if_neg (by omega),if_pos (by assumption)] | rw [if_neg (by omega),if_neg hnd,if_pos hnm] | rw [if_neg (by omega),if_neg hnd,if_neg hnm,if_pos htm] | rw [if_neg (by omega),if_neg hnd,if_neg hnm,if_neg htm]⟩
  ·
   refine a_ fun K6 hK6=>ak_ [(0,true),(1,true),(4,true),(5,true),(6,true),(2,false),(3,true),(7,true),(8,true)] aS_ (by kernel_rfl) fun w3 l3=>have S3:=S1.like l3;u_ Z (g_ 32 Tryz.underlying83 Z sz81 Z Z Z) Z (u_ Z (t_ Tryz.underlying81 Z Z (((S3.blk 0 Z).cell _).trans (cm32 x))) Z (u_ Z (g_ 32 Tryz.underlying83 Z sz81 Z Z Z) Z (u_ Z (t_ Tryz.underlying81 Z Z (((S3.blk 0 Z).cell _).trans (cm32 x))) Z (u_ Z (I_ Tryz.underlying81 Z) Z (eH_ Z (n_ Tryz.func150 Z Z (Oid.psorted x.A x.n x.c x.ps w3 (S3.rd hps) (by omega)) Z Z ?_))))));rintro e4 w4 ⟨v4,rfl,l4,A',m',c',s,rfl,hs,hri,hmem⟩;refine ⟨_,rfl,l4,(have S4:=S3.like l4;have hti:=twice_iff hri hmem;have hsn:m'=s.length:=Oid.io_ hs;have q4:=l4;u_ Z (I_ Tryz.underlying81 Z) Z (u_ Z (L_ Z Z) Z (u_ Z (J_ Z) Z (aH_ (hK6 _ _ ?_)))))⟩;refine o_ Z (fun h14=>?_) (fun h14=>?_)
   ·
    have hnd:¬ x.ps.Nodup:=hti.1 (by omega);refine a_ fun K7 hK7=>b_ (Lan Z Z (hK7 _ _ (l_ (ur (F_ Z Z ?_)))));exact ⟨_,rfl,S4.like0,by unfold chk;first | rw [if_pos (by omega)] | rw [if_neg (by omega),if_pos (by assumption)] | rw [if_neg (by omega),if_neg hnd,if_pos hnm] | rw [if_neg (by omega),if_neg hnd,if_neg hnm,if_pos htm] | rw [if_neg (by omega),if_neg hnd,if_neg hnm,if_neg htm]⟩
   ·
    have hnd:¬ ¬ x.ps.Nodup:=fun h=>by have:=hti.2 h;omega
    refine a_ fun K8 hK8=>b_ (L_y (g_ 33 Tryz.underlying83 Z sz9 Z Z Z) Z (L_y (t_ Tryz.underlying9 Z Z (((S4.blk 0 Z).cell _).trans (cm33 x))) Z (L_o (n_ Tryz.func142 Z Z (Tre.pname x.au w4) Z Z ?_))));rintro e5 w5 ⟨v5,rfl,l5,rfl⟩;refine ⟨_,rfl,(have S5:=S4.like l5;L_y ((by first | exact aA_ Z | exact aZ_ Z)) Z ?_)⟩;refine Lan Z Z (hK8 _ _ ?_);refine aD_ Z (fun h23=>?_) (fun h23=>?_)
    ·
     have hnm:aw_ x.au=false:=by simpa using h23
     refine a_ fun K9 hK9=>b_ (Lan Z Z (hK9 _ _ (l_ (ur (F_ Z Z ?_)))));exact ⟨_,rfl,S5.like0,by unfold chk;first | rw [if_pos (by omega)] | rw [if_neg (by omega),if_pos (by assumption)] | rw [if_neg (by omega),if_neg hnd,if_pos hnm] | rw [if_neg (by omega),if_neg hnd,if_neg hnm,if_pos htm] | rw [if_neg (by omega),if_neg hnd,if_neg hnm,if_neg htm]⟩
    ·
     have hnm:¬ aw_ x.au=false:=by simpa using h23
     refine a_ fun K10 hK10=>b_ (L_y (g_ 34 Tryz.underlying83 Z sz3 Z Z Z) Z (L_y (t_ Tryz.underlying3 Z Z (((S5.blk 0 Z).cell _).trans (cm34 x))) Z (L_o (n_ Tryz.func151 Z Z (time_ x.tm w5) Z Z ?_))));rintro e6 w6 ⟨v6,rfl,l6,rfl⟩;refine ⟨_,rfl,(have S6:=S5.like l6;L_y ((by first | exact aA_ Z | exact aZ_ Z)) Z ?_)⟩;refine Lan Z Z (hK10 _ _ ?_);refine aD_ Z (fun h28=>?_) (fun h28=>?_)
     ·
      have htm:x.tm < 0∨1099511627776 < x.tm:=by simpa using h28
      refine a_ fun K11 hK11=>b_ (Lan Z Z (hK11 _ _ (l_ (ur (F_ Z Z ?_)))));exact ⟨_,rfl,S6.like0,by unfold chk;first | rw [if_pos (by omega)] | rw [if_neg (by omega),if_pos (by assumption)] | rw [if_neg (by omega),if_neg hnd,if_pos hnm] | rw [if_neg (by omega),if_neg hnd,if_neg hnm,if_pos htm] | rw [if_neg (by omega),if_neg hnd,if_neg hnm,if_neg htm]⟩
     ·
      have htm:¬ (x.tm < 0∨1099511627776 < x.tm):=by simpa using h28
      refine j_ (hK2 _ _ (a_ fun K12 hK12=>b_ (Lan Z Z (hK12 _ _ (l_ (ur (F_ Z Z ?_)))))));exact ⟨_,rfl,S6.like0,by unfold chk;first | rw [if_pos (by omega)] | rw [if_neg (by omega),if_pos (by assumption)] | rw [if_neg (by omega),if_neg hnd,if_pos hnm] | rw [if_neg (by omega),if_neg hnd,if_neg hnm,if_pos htm] | rw [if_neg (by omega),if_neg hnd,if_neg hnm,if_neg htm]⟩
end Rev
namespace Rev
open Go.RowKit Zk Zx
open Oid (idf hexL ris gM_ B_)
open Tre (aw_)
theorem hO_ (x:Cm) (w0:World) (hps:Rs w0 32 x.A x.n x.c (x.ps.flatMap idf)) :
    Calls Tryz.prog 80 #[.agg (cmf x).toArray] w0 fun e w'=>∃ u,e=.returned u∧Like w0 w'∧u=.int .i64 (chk x):=by
 refine v_ (env:=[(0,.agg (cmf x).toArray)]) [.agg (cmf x).toArray] Tryz.func80 Z Tryz.ntmps80 Z Z ?_;have hpn:x.n=x.ps.length:=Oid.io_ hps;have S0:=St.start w0 noM;refine a_ fun K1 hK1=>b_ (L_o (bO_ Z S0 Z fun b1 w1 hb1 S1=>Lan Z Z (hK1 _ _ (a_ fun K2 hK2=>a_ fun K3 hK3=>b_ (L_y (g_ 32 Tryz.underlying83 Z sz81 Z Z Z) Z (L_y (t_ Tryz.underlying81 Z Z (((S1.blk 0 Z).cell _).trans (cm32 x))) Z (L_y (I_ Tryz.underlying81 Z) Z (L_y (Z_ Z Z) Z (Lm Z Z ?_)))))))));refine y_ 9 Z (fun h9=>?_) (fun h9=>?_)
 ·
  refine h_ Z Z Z (h_ Z Z Z (h_ Z Z Z (h_ Z Z Z (Lp Z Z Z (f_ (hK3 _ _ (W_ Z (a_ fun K4 hK4=>b_ (Lan Z Z (hK4 _ _ (l_ ?_)))))))))));refine ur (F_ Z Z ?_);exact ⟨_,rfl,S1.like0,by unfold chk;first | rw [if_pos (by omega)] | rw [if_neg (by omega),if_pos (by assumption)] | rw [if_neg (by omega),if_neg hnd,if_pos hnm] | rw [if_neg (by omega),if_neg hnd,if_neg hnm,if_pos htm] | rw [if_neg (by omega),if_neg hnd,if_neg hnm,if_neg htm]⟩
 ·
  refine d_ Z Z (L_y (g_ 35 Tryz.underlying83 Z sz9 Z Z Z) Z (d_ Z Z (L_y (t_ Tryz.underlying9 Z Z (((S1.blk 0 Z).cell _).trans (cm35 x))) Z (d_ Z Z (L_y (av_ Tryz.underlying9 Z) Z (d_ Z Z (L_y (Z_ Z Z) Z (Lp Z Z Z (f_ (hK3 _ _ ?_))))))))));refine o_ Z (fun h14=>?_) (fun h14=>?_)
  ·
   refine a_ fun K5 hK5=>b_ (Lan Z Z (hK5 _ _ (l_ (ur (F_ Z Z ?_)))));exact ⟨_,rfl,S1.like0,by unfold chk;first | rw [if_pos (by omega)] | rw [if_neg (by omega),if_pos (by assumption)] | rw [if_neg (by omega),if_neg hnd,if_pos hnm] | rw [if_neg (by omega),if_neg hnd,if_neg hnm,if_pos htm] | rw [if_neg (by omega),if_neg hnd,if_neg hnm,if_neg htm]⟩
  ·
   refine j_ (hK2 _ _ (a_ fun K6 hK6=>a_ fun K7 hK7=>b_ (Lan Z Z (hK7 _ _ (r_ ?_)))));refine an_ [(1,_)] (fun (k:Nat)=>[(3,.int .i64 (k:Int))]) (fun (k:Nat)=>x.ps.length - k) (fun (k:Nat) (w:World)=>(k≤x.ps.length∧(x.ps.take k).Nodup)∧St w0 noM [blk b1 83 (cmf x).toArray] w) 0 (Sc Z (Sub.nil _)) (Sub.cons Z Z (Sub.nil _)) ?_ ?_
   ·
    exact ⟨⟨by omega,by simp⟩,S1⟩
   ·
    intro k w3 hrel;obtain ⟨⟨hk,hnk⟩,S3⟩:=hrel;refine a_ fun K8 hK8=>a_ fun K9 hK9=>Rm Z Z (L_y (g_ 32 Tryz.underlying83 Z sz81 Z Z Z) Z (L_y (t_ Tryz.underlying81 Z Z (((S3.blk 0 Z).cell _).trans (cm32 x))) Z (L_y (I_ Tryz.underlying81 Z) Z (L_y (L_ Z Z) Z (f_ (hK9 _ _ ?_))))));refine o_ Z (fun h19=>?_) (fun h19=>?_)
    ·
     obtain ⟨px,hpx⟩:∃ px,x.ps[k]?=some px:=⟨_,List.getElem?_eq_getElem (by omega)⟩;refine j_ (hK8 _ _ (a_ fun K10 hK10=>r_ (a_ fun K11 hK11=>b_ (Lan Z Z (hK11 _ _ (r_ ?_))))));refine an_ [(1,_),(3,_)] (fun (j:Nat)=>[(4,.int .i64 (j:Int))]) (fun (j:Nat)=>k - j) (fun (j:Nat) (w:World)=>(j≤k∧∀ i y,i < j→x.ps[i]?=some y→y≠px)∧St w0 noM [blk b1 83 (cmf x).toArray] w) 0 (Sc Z (Sub.nil _)) (Sub.cons Z Z (Sub.cons Z Z (Sub.nil _))) ?_ ?_
     ·
      exact ⟨⟨by omega,fun i y hi=>by omega⟩,S3⟩
     ·
      intro j w4 hrel;obtain ⟨⟨hj,hne⟩,S4⟩:=hrel;refine a_ fun K12 hK12=>a_ fun K13 hK13=>Rm Z Z (Lm Z Z (L_y (L_ Z Z) Z (f_ (hK13 _ _ ?_))));refine o_ Z (fun h24=>?_) (fun h24=>?_)
      ·
       obtain ⟨y,hy⟩:∃ y,x.ps[j]?=some y:=⟨_,List.getElem?_eq_getElem (by omega)⟩;refine j_ (hK12 _ _ (a_ fun K14 hK14=>r_ (a_ fun K15 hK15=>ak_ [(0,true),(1,true),(2,true),(3,true),(4,true),(5,true),(6,true),(7,true),(8,true),(9,true),(10,true)] aS_ (by kernel_rfl) fun w5 l5=>have S5:=S4.like l5;u_ Z (g_ 32 Tryz.underlying83 Z sz81 Z Z Z) Z (u_ Z (t_ Tryz.underlying81 Z Z (((S5.blk 0 Z).cell _).trans (cm32 x))) Z (u_ Z (p_ Z) Z (u_ Z (T_ Tryz.underlying81 ao_ Z Z (S5.rd hps) inferInstance (by omega)) Z (u_ Z (cp_ (f:=idf) B_ Tryz.underlying41 Z ao_ Z (S5.rd hps) (by omega) hy) Z (u_ Z (g_ 32 Tryz.underlying83 Z sz81 Z Z Z) Z (u_ Z (t_ Tryz.underlying81 Z Z (((S5.blk 0 Z).cell _).trans (cm32 x))) Z ?_)))))))));refine u_ Z (p_ Z) Z (u_ Z (T_ Tryz.underlying81 ao_ Z Z (S5.rd hps) inferInstance (by omega)) Z (u_ Z (cp_ (f:=idf) B_ Tryz.underlying41 Z ao_ Z (S5.rd hps) (by omega) hpx) Z (u_ Z (y_eqB Tryz.underlying41 Tryz.underlying5 sz5 (by kernel_rfl) Z Z (Oid.Id.h _) (Oid.Id.h _)) Z (aH_ (hK15 _ _ ?_)))));refine o_ Z (fun h37=>?_) (fun h37=>?_)
       ·
        have hnd:¬ x.ps.Nodup:=by have e:y=px:=Oid.Id.ext h37;subst e;exact not_nodup hy hpx (by omega)
        refine a_ fun K16 hK16=>b_ (Lan Z Z (hK16 _ _ (l_ (ur (F_ Z Z ?_)))));exact ⟨_,rfl,S5.like0,by unfold chk;first | rw [if_pos (by omega)] | rw [if_neg (by omega),if_pos (by assumption)] | rw [if_neg (by omega),if_neg hnd,if_pos hnm] | rw [if_neg (by omega),if_neg hnd,if_neg hnm,if_pos htm] | rw [if_neg (by omega),if_neg hnd,if_neg hnm,if_neg htm]⟩
       ·
        refine j_ (hK14 _ _ (Rm Z Z (L_y (w_ Z Z (z_ (by omega))) Z (Lan Z Z (⟨j+1,by omega,⟨⟨by omega,fun i z hi hz=>by rcases Nat.lt_or_eq_of_le (Nat.le_of_lt_succ hi) with h | h;exact hne i z h hz;subst h;rw [hy] at hz;cases hz;exact fun e=>h37 (by rw [e])⟩,S5⟩,?_⟩)))));exact (Sc Z (Sub.cons Z Z (Sub.cons Z Z (Sub.nil _))))
      ·
       refine K_ (hK10 _ _ (Rm Z Z (L_y (w_ Z Z (z_ (by omega))) Z (Lan Z Z (⟨k+1,by omega,⟨⟨by omega,take_nodup hpx hnk (fun i y hi hy=>hne i y (by omega) hy)⟩,S4⟩,?_⟩)))));exact (Sc Z (Sub.cons Z Z (Sub.nil _)))
    ·
     have hke:k=x.ps.length:=by omega
     rw [hke,List.take_length] at hnk;have hnd:¬ ¬ x.ps.Nodup:=fun h=>h hnk;refine K_ (hK6 _ _ (a_ fun K17 hK17=>a_ fun K18 hK18=>b_ (L_y (g_ 33 Tryz.underlying83 Z sz9 Z Z Z) Z (L_y (t_ Tryz.underlying9 Z Z (((S3.blk 0 Z).cell _).trans (cm33 x))) Z (L_o (n_ Tryz.func76 Z Z (Tre.rname x.au w3) Z Z ?_))))));rintro e6 w6 ⟨v6,rfl,l6,rfl⟩;refine ⟨_,rfl,(have S6:=S3.like l6;L_y ((by first | exact aA_ Z | exact aZ_ Z)) Z ?_)⟩;refine f_ (hK18 _ _ ?_);refine aD_ Z (fun h41=>?_) (fun h41=>?_)
     ·
      have hnm:aw_ x.au=false:=by simpa using h41
      refine a_ fun K19 hK19=>b_ (Lan Z Z (hK19 _ _ (l_ (ur (F_ Z Z ?_)))));exact ⟨_,rfl,S6.like0,by unfold chk;first | rw [if_pos (by omega)] | rw [if_neg (by omega),if_pos (by assumption)] | rw [if_neg (by omega),if_neg hnd,if_pos hnm] | rw [if_neg (by omega),if_neg hnd,if_neg hnm,if_pos htm] | rw [if_neg (by omega),if_neg hnd,if_neg hnm,if_neg htm]⟩
     ·
      have hnm:¬ aw_ x.au=false:=by simpa using h41
      refine j_ (hK17 _ _ (a_ fun K20 hK20=>a_ fun K21 hK21=>b_ (L_y (g_ 34 Tryz.underlying83 Z sz3 Z Z Z) Z (L_y (t_ Tryz.underlying3 Z Z (((S6.blk 0 Z).cell _).trans (cm34 x))) Z (L_y (L_ Z Z) Z (Lm Z Z ?_))))));refine y_ 45 Z (fun h45=>?_) (fun h45=>?_)
      ·
       refine h_ Z Z Z (h_ Z Z Z (h_ Z Z Z (Lp Z Z Z (f_ (hK21 _ _ (W_ Z (a_ fun K22 hK22=>?_)))))));have htm:x.tm < 0∨1099511627776 < x.tm:=by omega
       refine b_ (Lan Z Z (hK22 _ _ (l_ (ur (F_ Z Z ?_)))));exact ⟨_,rfl,S6.like0,by unfold chk;first | rw [if_pos (by omega)] | rw [if_neg (by omega),if_pos (by assumption)] | rw [if_neg (by omega),if_neg hnd,if_pos hnm] | rw [if_neg (by omega),if_neg hnd,if_neg hnm,if_pos htm] | rw [if_neg (by omega),if_neg hnd,if_neg hnm,if_neg htm]⟩
      ·
       refine d_ Z Z (L_y (g_ 34 Tryz.underlying83 Z sz3 Z Z Z) Z (d_ Z Z (L_y (t_ Tryz.underlying3 Z Z (((S6.blk 0 Z).cell _).trans (cm34 x))) Z (d_ Z Z (L_y (Z_ Z Z) Z (Lp Z Z Z (f_ (hK21 _ _ ?_))))))));refine o_ Z (fun h49=>?_) (fun h49=>?_)
       ·
        refine a_ fun K23 hK23=>?_;have htm:x.tm < 0∨1099511627776 < x.tm:=by omega
        refine b_ (Lan Z Z (hK23 _ _ (l_ (ur (F_ Z Z ?_)))));exact ⟨_,rfl,S6.like0,by unfold chk;first | rw [if_pos (by omega)] | rw [if_neg (by omega),if_pos (by assumption)] | rw [if_neg (by omega),if_neg hnd,if_pos hnm] | rw [if_neg (by omega),if_neg hnd,if_neg hnm,if_pos htm] | rw [if_neg (by omega),if_neg hnd,if_neg hnm,if_neg htm]⟩
       ·
        refine j_ (hK20 _ _ (a_ fun K24 hK24=>?_));have htm:¬ (x.tm < 0∨1099511627776 < x.tm):=by omega
        refine b_ (Lan Z Z (hK24 _ _ (l_ (ur (F_ Z Z ?_)))));exact ⟨_,rfl,S6.like0,by unfold chk;first | rw [if_pos (by omega)] | rw [if_neg (by omega),if_pos (by assumption)] | rw [if_neg (by omega),if_neg hnd,if_pos hnm] | rw [if_neg (by omega),if_neg hnd,if_neg hnm,if_pos htm] | rw [if_neg (by omega),if_neg hnd,if_neg hnm,if_neg htm]⟩
end Rev
namespace Rev
open Go.RowKit Zk Zx
open Oid (idf hexL ris gM_ B_ cU_)
open Tre (aw_)
def gA_:List UInt8:=[116,114,101,101]
def bo_:List UInt8:=[112,97,114,101,110,116]
def dr_:List UInt8:=[97,117,116,104,111,114]
def dF_:List UInt8:=[116,105,109,101]
end Rev
namespace Rev
open Go.RowKit Zk Zx
open Oid (idf hexL ris gM_ B_ cU_)
open Tre (aw_)
end Rev
namespace Rev
open Go.RowKit Zk Zx
open Oid (idf hexL ris gM_ B_ cU_)
open Tre (aw_)
end Rev
namespace Rev
open Go.ChangeShapes Go.WideShapes Go.ChangeAt Go.RowKit Go.Deep Zk Zx
open Oid (idf B_)
section
variable {H : Type} {enc : TypeId × Value → H} {w : World} {base : Nat} {spare : Nat → Bool} {held : Bool}
theorem c9:Tryz.prog.cellsOf 9=1:=by kernel_rfl
theorem c3:Tryz.prog.cellsOf 3=1:=by kernel_rfl
theorem c23:Tryz.prog.cellsOf 41=32:=by kernel_rfl
end
end Rev
namespace Rev
open Go.RowKit Zk Zx
open Oid (idf hexL)
open Tre (aw_)
def aT_ (c:UInt8):List UInt8→Option (List UInt8 × List UInt8)
  | []=>none
  | x::r=>if x=c then some ([],r) else (aT_ c r).map fun p=>(x::p.1,p.2)
theorem ar_ {c:UInt8}:∀ {s a b:List UInt8},aT_ c s=some (a,b)→s=a++c::b∧c ∉ a
  | [],a,b,h=>by cases h
  | x :: r,a,b,h=>by
    unfold aT_ at h
    split at h
    · rename_i hx
      cases h
      exact ⟨by rw [hx];rfl,by simp⟩
    · rename_i hx
      cases hr:aT_ c r with
      | none=>rw [hr] at h;cases h
      | some p =>
        rw [hr] at h
        cases h
        obtain ⟨h1,h2⟩:=ar_ hr
        refine ⟨by rw [h1];rfl,fun hm=>?_⟩
        rcases List.mem_cons.1 hm with e | hm
        · exact hx e.symm
        · exact h2 hm
theorem bb_ {c:UInt8}:∀ {s:List UInt8},aT_ c s=none→c ∉ s
  | [],_=>by simp
  | x :: r,h=>by
    unfold aT_ at h
    split at h
    · cases h
    · rename_i hx
      intro hm
      rcases List.mem_cons.1 hm with e | hm
      · exact hx e.symm
      · cases hr:aT_ c r with
        | none=>exact bb_ hr hm
        | some p=>rw [hr] at h;cases h
theorem lh_ {c:UInt8}:∀ {a b:List UInt8},c ∉ a→aT_ c (a++c::b)=some (a,b)
  | [],b,_=>by rw [List.nil_append,aT_,if_pos Z]
  | x::a,b,h=>by
    rw [List.cons_append,aT_,if_neg (fun e=>h (by rw [e];exact List.mem_cons_self)),lh_ (fun hm=>h (List.mem_cons_of_mem _ hm))]
    rfl
theorem li_ {c:UInt8} {s:List UInt8} (h:c ∉ s):aT_ c s=none:=by
  cases hs:aT_ c s with
  | none=>rfl
  | some p =>
    obtain ⟨h1,_⟩:=ar_ hs
    rw [h1] at h
    exact absurd (by simp) h
theorem iF_ (c:UInt8):∀ s:List UInt8,Lib.indexByte s c=match aT_ c s with
    | some (a,_)=>(a.length:Int)
    | none => -1
  | []=>rfl
  | x :: r=>by
    have ih:=iF_ c r
    unfold Lib.indexByte aT_
    by_cases h:x=c
    · subst h
      simp
    · have hb:(x == c)=false:=by simp [h]
      rw [hb,if_neg h,if_neg (by decide),ih]
      cases aT_ c r with
      | none=>rfl
      | some p =>
        obtain ⟨a,b⟩:=p
        have:((a.length:Int) == -1)=false:=by simp
        simp only [this,Bool.false_eq_true,if_false,Option.map_some]
        simp
def cutV (c:UInt8) (s:List UInt8):Value:=match aT_ c s with
  | some (a,b)=>.tuple #[.string ⟨a.toArray⟩,.string ⟨b.toArray⟩,.bool true]
  | none=>.tuple #[.string ⟨s.toArray⟩,.string ⟨#[]⟩,.bool false]
theorem strIdx (s:ByteArray) (c:UInt8) (w0:World):Calls Tryz.prog 154 #[.string s,.int .u8 (c.toNat:Int)] w0 fun e w'=>∃ u,e=.returned u∧Like w0 w'∧u=.int .i64 (Lib.indexByte s.data.toList c):=by
  have h:=Any.stringslite_IndexByte Tre.idxS s (c.toNat:Int) w0
  rw [Int.toNat_natCast,show (c.toNat).toUInt8=c from UInt8.ofNat_toNat] at h
  refine (show Calls Tryz.prog 154 _ _ _ from h).mono fun e w' ⟨h1,h2⟩=>?_
  subst h2
  exact ⟨_,h1,Like.refl _,rfl⟩
theorem jA_ (c:UInt8):Lib.indexByte [c] c=0:=by unfold Lib.indexByte;simp
theorem ext_list (l:List UInt8) (i j:Nat):(⟨l.toArray⟩:ByteArray).extract i j=⟨((l.drop i).take (j - i)).toArray⟩:=by
  apply ByteArray.ext
  simp
theorem ext_a (a b:List UInt8):(⟨(a++b).toArray⟩:ByteArray).extract 0 a.length=⟨a.toArray⟩:=by rw [ext_list];simp
theorem ext_b (a b:List UInt8) (n k:Nat) (h:n=(a++b).length) (hk:k=a.length):(⟨(a++b).toArray⟩:ByteArray).extract k n=⟨b.toArray⟩:=by
  rw [ext_list,h,hk,List.drop_left,List.take_of_length_le (by simp)]
theorem cut_b {a b s:List UInt8} {c:UInt8} (hs:s=a++c::b):(⟨s.toArray⟩:ByteArray).extract (a.length+1) (⟨s.toArray⟩:ByteArray).size=⟨b.toArray⟩:=by
  subst hs
  have h:=ext_b (a++[c]) b (⟨(a++c::b).toArray⟩:ByteArray).size (a.length+1) (by rw [bsz];simp) (by simp)
  rw [show a++[c]++b=a++c::b by simp] at h
  exact h
theorem cut_a {a b s:List UInt8} {c:UInt8} (hs:s=a++c::b):(⟨s.toArray⟩:ByteArray).extract 0 a.length=⟨a.toArray⟩:=by
  subst hs
  exact ext_a a (c::b)
theorem g8_one (c:UInt8):g8 [c] 0=(c.toNat:Int):=rfl
theorem sidx (c:UInt8) (s:List UInt8) (w0:World)  :
    Calls Tryz.prog 116 #[.string ⟨s.toArray⟩,.string ⟨[c].toArray⟩] w0 fun e w'=>∃ u,e=.returned u∧Like w0 w'∧u=.int .i64 (Lib.indexByte s c):=by
 refine v_ (env:=[(0,.string ⟨s.toArray⟩),(1,.string ⟨[c].toArray⟩)]) [.string ⟨s.toArray⟩,.string ⟨[c].toArray⟩] Tryz.func116 Z Tryz.ntmps116 Z Z ?_;have h1z:(⟨[c].toArray⟩:ByteArray).size=1:=rfl;have S0:=St.start w0 noM;refine a_ fun K1 hK1=>b_ (Lan Z Z (hK1 _ _ (a_ fun K2 hK2=>Rm Z Z (L_y (av_ Tryz.underlying9 Z) Z (Lan Z Z (hK2 _ _ (a_ fun K3 hK3=>r_ ?_)))))));refine a_ fun K4 hK4=>Rm Z Z (L_y (am_ Z Z) Z (Lm Z Z ?_));refine y_ 19 Z (fun h19=>?_) (fun h19=>?_)
 ·
  omega
 ·
  refine d_ Z Z (Lm Z Z (d_ Z Z (Lm Z Z (d_ Z Z (L_y (cW_ Z Z) Z (Lp Z Z Z (Lan Z Z (hK4 _ _ ?_))))))));refine o_ Z (fun h16=>?_) (fun h16=>?_)
  ·
   refine a_ fun K5 hK5=>b_ (Lan Z Z (hK5 _ _ (l_ (ur (F_ Z Z ?_)))));have e1:s=[c]:=by have e2:=congrArg (fun b:ByteArray=>b.data.toList) h16;exact e2.symm
   exact ⟨_,rfl,S0.like0,by rw [e1,jA_]⟩
  ·
   refine a_ fun K6 hK6=>Rm Z Z (L_y (am_ Z Z) Z (Lan Z Z (hK6 _ _ ?_)));refine o_ Z (fun h24=>?_) (fun h24=>?_)
   ·
    refine a_ fun K7 hK7=>Rm Z Z (Lm Z Z (L_y (bz_ Tryz.underlying9 Z Z inferInstance (by omega)) Z ?_));rw [g8_one];refine L_o (n_ Tryz.func154 Z Z (strIdx ⟨s.toArray⟩ c w0) Z Z ?_);rintro e2 w2 ⟨v2,rfl,l2,rfl⟩;refine ⟨_,rfl,(have S2:=S0.like l2;Lan Z Z (hK7 _ _ (l_ (ur (F_ Z Z ?_)))))⟩;exact ⟨_,rfl,S2.like0,rfl⟩
   ·
    omega
theorem scut0 (c:UInt8) (s:List UInt8) (w0:World) (hl:s.length≤1000000000) :
    Calls Tryz.prog 83 #[.string ⟨s.toArray⟩,.string ⟨[c].toArray⟩] w0 fun e w'=>∃ u,e=.returned u∧Like w0 w'∧u=cutV c s:=by
 refine v_ (env:=[(0,.string ⟨s.toArray⟩),(1,.string ⟨[c].toArray⟩)]) [.string ⟨s.toArray⟩,.string ⟨[c].toArray⟩] Tryz.func83 Z Tryz.ntmps83 Z Z ?_;have hix:=iF_ c s;have h1z:(⟨[c].toArray⟩:ByteArray).size=1:=rfl;have S0:=St.start w0 noM;refine a_ fun K1 hK1=>b_ (La Z Z (La Z Z (Lan Z Z (hK1 _ _ (a_ fun K2 hK2=>a_ fun K3 hK3=>Rm Z Z (Lm Z Z (L_o (n_ Tryz.func116 Z Z (sidx c s w0) Z Z ?_))))))));rintro e1 w1 ⟨v1,rfl,l1,rfl⟩;refine ⟨_,rfl,(have S1:=S0.like l1;Lan Z Z (hK3 _ _ (a_ fun K4 hK4=>Rm Z Z (L_y (cq_ Z Z) Z (f_ (hK4 _ _ ?_))))))⟩;refine o_ Z (fun h12=>?_) (fun h12=>?_)
 ·
  obtain ⟨a,b,hcf⟩:∃ a b,aT_ c s=some (a,b):=by cases hc:aT_ c s with | none=>rw [hc] at hix;simp only [] at hix;omega | some p=>exact ⟨p.1,p.2,rfl⟩
  rw [hcf] at hix;have hix2:Lib.indexByte s c=(a.length:Int):=hix;obtain ⟨hs,hca⟩:=ar_ hcf;have hsz:=bsz s;have hsl:s.length=a.length+1+b.length:=by rw [hs,List.length_append,List.length_cons];omega
  rw [hix2];refine a_ fun K5 hK5=>ak_ [(0,true),(1,true),(2,true),(3,true),(4,true),(5,true),(6,true),(7,true),(8,true),(9,true),(10,true),(11,true)] aS_ (by kernel_rfl) fun w2 l2=>have S2:=S1.like l2;u_ Z (p_ Z) Z (u_ Z (p_ Z) Z (u_ Z (eI_ Tryz.underlying9 Z Z inferInstance (by omega)) Z (u_ Z (p_ Z) Z (u_ Z (p_ Z) Z (u_ Z (p_ Z) Z (u_ Z (av_ Tryz.underlying9 Z) Z (u_ Z (w_ Z Z (z_ (by omega))) Z (u_ Z (cQ_ Tryz.underlying9 Z Z inferInstance (by omega)) Z (u_ Z (J_ Z) Z (u_ Z (J_ Z) Z ?_))))))))));refine u_ Z (J_ Z) Z (aH_ (hK5 _ _ (l_ (ur (cN_ Z Z Z Z ?_)))));exact ⟨_,rfl,S2.like0,by unfold cutV;rw [hcf,cut_a hs,h1z,cut_b hs]⟩
 ·
  have hcf:aT_ c s=none:=by cases hc:aT_ c s with | none=>rfl | some p=>rw [hc] at hix;have hix2:Lib.indexByte s c=(p.1.length:Int):=hix;omega
  refine j_ (hK2 _ _ (a_ fun K6 hK6=>Rm Z Z (La Z Z (La Z Z (Lan Z Z (hK6 _ _ (l_ (ur (cN_ Z Z Z Z ?_)))))))));exact ⟨_,rfl,S1.like0,by unfold cutV;rw [hcf]⟩
theorem cutV_form (c:UInt8) (s:List UInt8):∃ a b f:Value,cutV c s=.tuple #[a,b,f]:=by
  unfold cutV
  split
  · exact ⟨_,_,_,rfl⟩
  · exact ⟨_,_,_,rfl⟩
def cG_ (s p:List UInt8):Prop:=s.take p.length=p
instance (s p:List UInt8):Decidable (cG_ s p):=inferInstanceAs (Decidable (s.take p.length=p))
theorem hk_ (s p:List UInt8):((⟨s.toArray⟩:ByteArray).extract 0 p.length=⟨p.toArray⟩)↔cG_ s p:=by
  rw [ext_list,List.drop_zero,Nat.sub_zero]
  constructor
  · intro h
    have:=congrArg (fun b:ByteArray=>b.data.toList) h
    exact this
  · intro h
    rw [show s.take p.length=p from h]
theorem kI_ {s p:List UInt8} (h:cG_ s p):p.length≤s.length:=by
  have:=congrArg List.length h
  rw [List.length_take] at this
  omega
def cutP (s p:List UInt8):Value:=if cG_ s p then .tuple #[.string ⟨(s.drop p.length).toArray⟩,.bool true] else .tuple #[.string ⟨s.toArray⟩,.bool false]
theorem cutP_form (s p:List UInt8):∃ a b:Value,cutP s p=.tuple #[a,b]:=by
  unfold cutP
  split
  · exact ⟨_,_,rfl⟩
  · exact ⟨_,_,rfl⟩
theorem eS_ (s:List UInt8) (k:Nat):(⟨s.toArray⟩:ByteArray).extract k (⟨s.toArray⟩:ByteArray).size=⟨(s.drop k).toArray⟩:=by
  rw [ext_list,bsz,List.take_of_length_le (by rw [List.length_drop];omega)]
theorem scut (c:UInt8) (s:List UInt8) (w0:World) (hl:s.length≤1000000000) :
    Calls Tryz.prog 46 #[.string ⟨s.toArray⟩,.string ⟨[c].toArray⟩] w0 fun e w'=>∃ u,e=.returned u∧Like w0 w'∧u=cutV c s:=by
 refine v_ (env:=[(0,.string ⟨s.toArray⟩),(1,.string ⟨[c].toArray⟩)]) [.string ⟨s.toArray⟩,.string ⟨[c].toArray⟩] Tryz.func46 Z Tryz.ntmps46 Z Z ?_;have S0:=St.start w0 noM;refine a_ fun K1 hK1=>b_ (La Z Z (La Z Z (Lan Z Z (hK1 _ _ (a_ fun K2 hK2=>Rm Z Z (Lm Z Z (L_o (n_ Tryz.func83 Z Z (scut0 c s w0 hl) Z Z ?_))))))));rintro e1 w1 ⟨v1,rfl,l1,hu1⟩;refine ⟨_,rfl,?_⟩;have S1:=S0.like l1;obtain ⟨va,vb,vf,hcv⟩:=cutV_form c s;rw [hcv] at hu1;subst hu1;refine L_y (m_ Z Z) Z (L_y (m_ Z Z) Z (L_y (m_ Z Z) Z (La Z Z (La Z Z (Lan Z Z (hK2 _ _ (l_ (ur (cN_ Z Z Z Z ?_)))))))));exact ⟨_,rfl,S1.like0,by rw [hcv];rfl⟩
theorem pref0 (s p:List UInt8) (w0:World)  :
    Calls Tryz.prog 193 #[.string ⟨s.toArray⟩,.string ⟨p.toArray⟩] w0 fun e w'=>∃ u,e=.returned u∧Like w0 w'∧u=.bool (decide (cG_ s p)):=by
 refine v_ (env:=[(0,.string ⟨s.toArray⟩),(1,.string ⟨p.toArray⟩)]) [.string ⟨s.toArray⟩,.string ⟨p.toArray⟩] Tryz.func193 Z Tryz.ntmps193 Z Z ?_;have hs:=bsz s;have hp:=bsz p;have S0:=St.start w0 noM;refine a_ fun K1 hK1=>b_ (Lan Z Z (hK1 _ _ (a_ fun K2 hK2=>Rm Z Z (L_y (av_ Tryz.underlying9 Z) Z (Lm Z Z (L_y (av_ Tryz.underlying9 Z) Z (L_y (cq_ Z Z) Z (Lm Z Z ?_))))))));refine y_ 10 Z (fun h10=>?_) (fun h10=>?_)
 ·
  refine d_ Z Z (Lm Z Z (d_ Z Z (Lm Z Z (d_ Z Z (L_y (av_ Tryz.underlying9 Z) Z (d_ Z Z (L_y (eI_ (u:=p.length) Tryz.underlying9 Z Z (Nt.mk (by omega)) (by omega)) Z (d_ Z Z (Lm Z Z (d_ Z Z (L_y (cW_ Z Z) Z (Lp Z Z Z (La Z Z ?_)))))))))))));refine f_ (hK2 _ _ (l_ (ur (F_ Z Z ?_))));first | exact ⟨_,rfl,S0.like0,congrArg Value.bool (decide_eq_decide.2 (hk_ s p))⟩ | exact ⟨_,rfl,S0.like0,congrArg Value.bool (decide_eq_false (fun h=>by have:=kI_ h;omega)).symm⟩
 ·
  refine h_ Z Z Z (h_ Z Z Z (h_ Z Z Z (h_ Z Z Z (h_ Z Z Z (h_ Z Z Z (Lp Z Z Z (Lan Z Z (hK2 _ _ (l_ (ur (F_ Z Z ?_)))))))))));first | exact ⟨_,rfl,S0.like0,congrArg Value.bool (decide_eq_decide.2 (hk_ s p))⟩ | exact ⟨_,rfl,S0.like0,congrArg Value.bool (decide_eq_false (fun h=>by have:=kI_ h;omega)).symm⟩
theorem pref (s p:List UInt8) (w0:World)  :
    Calls Tryz.prog 176 #[.string ⟨s.toArray⟩,.string ⟨p.toArray⟩] w0 fun e w'=>∃ u,e=.returned u∧Like w0 w'∧u=.bool (decide (cG_ s p)):=by
 refine v_ (env:=[(0,.string ⟨s.toArray⟩),(1,.string ⟨p.toArray⟩)]) [.string ⟨s.toArray⟩,.string ⟨p.toArray⟩] Tryz.func176 Z Tryz.ntmps176 Z Z ?_;have S0:=St.start w0 noM;refine a_ fun K1 hK1=>b_ (Lan Z Z (hK1 _ _ (a_ fun K2 hK2=>Rm Z Z (Lm Z Z (L_o (n_ Tryz.func193 Z Z (pref0 s p w0) Z Z ?_))))));rintro e1 w1 ⟨v1,rfl,l1,rfl⟩;refine ⟨_,rfl,(have S1:=S0.like l1;Lan Z Z (hK2 _ _ (l_ (ur (F_ Z Z ?_)))))⟩;exact ⟨_,rfl,S1.like0,rfl⟩
theorem cutp0 (s p:List UInt8) (w0:World)  :
    Calls Tryz.prog 194 #[.string ⟨s.toArray⟩,.string ⟨p.toArray⟩] w0 fun e w'=>∃ u,e=.returned u∧Like w0 w'∧u=cutP s p:=by
 refine v_ (env:=[(0,.string ⟨s.toArray⟩),(1,.string ⟨p.toArray⟩)]) [.string ⟨s.toArray⟩,.string ⟨p.toArray⟩] Tryz.func194 Z Tryz.ntmps194 Z Z ?_;have hs:=bsz s;have hp:=bsz p;have S0:=St.start w0 noM;refine a_ fun K1 hK1=>b_ (La Z Z (Lan Z Z (hK1 _ _ (a_ fun K2 hK2=>a_ fun K3 hK3=>Rm Z Z (Lm Z Z (L_o (n_ Tryz.func193 Z Z (pref0 s p w0) Z Z ?_)))))));rintro e1 w1 ⟨v1,rfl,l1,rfl⟩;refine ⟨_,rfl,(have S1:=S0.like l1;L_y ((by first | exact aA_ Z | exact aZ_ Z)) Z ?_)⟩;refine f_ (hK3 _ _ ?_);refine o_ Z (fun h9=>?_) (fun h9=>?_)
 ·
  have hn:¬ cG_ s p:=h9;refine a_ fun K4 hK4=>Rm Z Z (La Z Z (Lan Z Z (hK4 _ _ (l_ (ur (bj_ Z Z Z ?_))))));exact ⟨_,rfl,S1.like0,by rw [cutP,if_neg hn]⟩
 ·
  have hy:cG_ s p:=Classical.not_not.1 h9;have hpl:=kI_ hy;refine j_ (hK2 _ _ (a_ fun K5 hK5=>Rm Z Z (Lm Z Z (L_y (av_ Tryz.underlying9 Z) Z (L_y (cQ_ (l:=p.length) Tryz.underlying9 Z Z (Nt.mk (by omega)) (by omega)) Z (La Z Z (Lan Z Z (hK5 _ _ (l_ (ur ?_))))))))));refine bj_ Z Z Z ?_;exact ⟨_,rfl,S1.like0,by rw [cutP,if_pos hy,eS_]⟩
theorem cutp (s p:List UInt8) (w0:World)  :
    Calls Tryz.prog 177 #[.string ⟨s.toArray⟩,.string ⟨p.toArray⟩] w0 fun e w'=>∃ u,e=.returned u∧Like w0 w'∧u=cutP s p:=by
 refine v_ (env:=[(0,.string ⟨s.toArray⟩),(1,.string ⟨p.toArray⟩)]) [.string ⟨s.toArray⟩,.string ⟨p.toArray⟩] Tryz.func177 Z Tryz.ntmps177 Z Z ?_;have S0:=St.start w0 noM;refine a_ fun K1 hK1=>b_ (La Z Z (Lan Z Z (hK1 _ _ (a_ fun K2 hK2=>Rm Z Z (Lm Z Z (L_o (n_ Tryz.func194 Z Z (cutp0 s p w0) Z Z ?_)))))));rintro e1 w1 ⟨v1,rfl,l1,hu1⟩;refine ⟨_,rfl,?_⟩;have S1:=S0.like l1;obtain ⟨va,vb,hcv⟩:=cutP_form s p;rw [hcv] at hu1;subst hu1;refine L_y (m_ Z Z) Z (L_y (m_ Z Z) Z (La Z Z (Lan Z Z (hK2 _ _ (l_ (ur (bj_ Z Z Z ?_)))))));exact ⟨_,rfl,S1.like0,by rw [hcv];rfl⟩
end Rev
namespace Zx
open Go.RowKit Zk
section
variable {P : Program} {N : Nat} {Q : Post} {S : World → Prop} {env : Env} {w w0 : World} {K : Env → World → Prop} {dst : Option Tmp} {d : Tmp} {ty : TypeId} {pos : String} {after : Array Edge} {g : Option (Nat × Bool)}
theorem fG_ {x:Operand} {t:TypeId} {v:Value} (hc:P.concrete t=true) (hx:ev env x=some v):Y P S env ⟨dst,.makeInterface t x,ty,pos,after,g⟩ (.iface t v):=fun N a w ha _=>by
  simp only [execOp,ha.eval hx,Sem.run_bind,run_makeInterface w t v hc,Result.andThen_ok,Sem.run_pure]
theorem y_asHit {x:Operand} {t xt:TypeId} {v:Value} {td:TypeDesc} (ht:P.underlying t=some td) (hi:∀ m,td≠.interface m) (hx:ev env x=some (.iface t v)):Y P S env ⟨dst,.typeAssert x xt t true,ty,pos,after,g⟩ (.tuple #[v,.bool true]):=fun N a w ha _=>by
  have h1:(Instr.typeAssert (.iface t v) xt t true).run P w=.ok (.tuple #[v,.bool true]) w:=by
    simp only [Instr.typeAssert,Sem.run_bind,run_underlying ht,Result.andThen_ok]
    cases td <;> first | exact absurd Z (hi _) | simp
  simp only [execOp,ha.eval hx,Sem.run_bind,h1,Result.andThen_ok,Sem.run_pure]
theorem y_asNil {x:Operand} {t xt:TypeId} {z:Value} {td:TypeDesc} (ht:P.underlying t=some td) (hi:∀ m,td≠.interface m) (hz:∀ W,(zeroValue t).run P W=.ok z W) (hx:ev env x=some .nilIface):Y P S env ⟨dst,.typeAssert x xt t true,ty,pos,after,g⟩ (.tuple #[z,.bool false]):=fun N a w ha _=>by
  have h1:(Instr.typeAssert .nilIface xt t true).run P w=.ok (.tuple #[z,.bool false]) w:=by
    simp only [Instr.typeAssert,Sem.run_bind,run_underlying ht,Result.andThen_ok]
    cases td <;> first | exact absurd Z (hi _) | simp [hz]
  simp only [execOp,ha.eval hx,Sem.run_bind,h1,Result.andThen_ok,Sem.run_pure]
theorem fy_ {ops:Array Oper} {rest:List Oper} {x:Operand} {t:TypeId} {v:Value} (hx:ev env x=some (.iface t v)) (h:Q (.panic [{ v:=.iface t v,recovered:=false }]) env w) :
    L P N ops Q (⟨none,.panic x,ty,pos,after,none⟩::rest) env w:=L_o fun a ha=>by
  have hr:(execOp a.eval ⟨none,.panic x,ty,pos,after,none⟩).run P w=.halt (.panic (.iface t v)) w:=by
    simp only [execOp,ha.eval hx,Instr.panic]
    rfl
  unfold Oper.wp
  rw [hr]
  exact ⟨env,ha,h⟩
theorem cK_ {f : FuncId} {fn : Func} {xs : Array Operand} {ts : Array TypeId} {args : List Value} {R : Ending → World → Prop} (hf : P.funcs[f]? = some fn) (hn : (fn.name == "runtime.NumGoroutine") = false) (hb : fn.body.isNone = false)
    (hc:Calls P f args.toArray w R) (hargs:evl env xs.toList=some args) (hd:Nat.blt d N=true)
    (h:∀ e w',R e w'→(∃ v,e=.returned v∧K ((d,v)::env) w')∨∃ c,e=.panicked c∧Q (.panic c) env w') :
    O P N Q ⟨some d,.call { callee:=.value (.func f),args:=xs,argTypes:=ts },ty,pos,after,g⟩ env w K:=fun a ha=>by
  have hmap:xs.map a.eval=args.toArray:=by
    rw [← eu_ ha xs.toList args hargs]
    apply Array.ext'
    simp
  unfold Oper.wp
  have hrun:(execOp a.eval ⟨some d,.call { callee:=.value (.func f),args:=xs,argTypes:=ts },ty,pos,after,g⟩).run P w=.ok (.enter f args.toArray) w:=by
    simp only [execOp,resolve,hmap,Act.eval,Deferred.ofValue,invoke,callFunc,Sem.run_bind,Sem.run_pure,Result.andThen_ok,run_program,hf,hn,hb,Bool.false_eq_true,if_false,Array.append_empty,Array.empty_append]
  rw [hrun]
  refine hc.mono fun e w' hR=>?_
  rcases h e w' hR with ⟨v,rfl,hK⟩ | ⟨c,rfl,hK⟩
  · exact ⟨_,ha.put d v hd,hK⟩
  · exact ⟨env,ha,hK⟩
theorem L_deferV {ops:Array Oper} {rest:List Oper} {x:Operand} {f:FuncId} {cs:List Value} (hx:ev env x=some (.func (.func f) #[] cs.toArray))
    (h:L P N ops Q rest ((1000000,.agg #[.agg #[.int .i64 (f:Int),.agg #[],.agg cs.toArray]])::env) w) (hd0:dfs env=[]:=by rfl) :
    L P N ops Q (⟨none,.defer { callee:=.value x,args := #[],argTypes := #[]},ty,pos,after,none⟩::rest) env w :=
  L_o fun a ha=>by
    unfold Oper.wp
    have hrun:(execOp a.eval ⟨none,.defer { callee:=.value x,args := #[],argTypes := #[]},ty,pos,after,none⟩).run P w=.ok (.defer ⟨.fn (.func f) cs.toArray, #[]⟩) w:=by
      simp only [execOp,resolve,ha.eval hx,Deferred.ofValue,Sem.run_bind,Sem.run_pure,Result.andThen_ok,Array.append_empty,Array.empty_append,Array.map_empty]
    rw [hrun]
    refine ⟨_,⟨?_,ha.small,ha.size,fun i v hv=>?_⟩,h⟩
    · show _::a.defers=_
      rw [ha.defers,hd0]
      rfl
    · simp only [look] at hv
      cases hb:Nat.beq 1000000 i with
      | false =>
        rw [hb] at hv
        exact ha.vals i v hv
      | true =>
        rw [hb] at hv
        cases hv
end
def lookD:Env→Option Value
  | []=>none
  | (i,v)::r=>bif Nat.beq i 1000000 then some v else lookD r
theorem kr_:∀ {e:Env} {D:Value},lookD e=some D→dfs e=decL D
  | [],_,h=>by cases h
  | (i,v)::r,D,h=>by
    simp only [lookD] at h
    simp only [dfs]
    cases hb:Nat.beq i 1000000 with
    | true =>
      rw [hb] at h
      simp only [cond_true,Option.some.injEq] at h
      rw [h]
      rfl
    | false =>
      rw [hb] at h
      exact kr_ h
theorem Sub.dfr {e:Env} {D:Value} (h:lookD e=some D):Sub [(1000000,D)] e:=by
  refine ⟨(kr_ h).symm,fun i v hi=>?_⟩
  simp only [Zx.look] at hi
  cases hb:Nat.beq 1000000 i with
  | true=>rw [hb] at hi;cases hi
  | false=>rw [hb] at hi;cases hi
theorem wp_mono2 {P:Program} {o:Oper} {a:Act} {w:World} {K K':Act→World→Prop} {Q Q':Exit→Act→World→Prop} (hK:∀ a w,K a w→K' a w) (hQ:∀ e a w,Q e a w→Q' e a w) (h:o.wp P a w K Q):o.wp P a w K' Q':=by
  unfold Oper.wp at *
  generalize (execOp a.eval o).run P w=r at *
  unfold Oper.upon at *
  split at h
  · exact hK _ _ h
  · exact hK _ _ h
  · exact hK _ _ h
  · refine h.mono fun e w' hh=>?_
    cases e with
    | returned v=>exact hK _ _ hh
    | panicked c=>exact hQ _ _ _ hh
    | outgrown=>obtain ⟨a0,w0,h0⟩:=hh;exact ⟨a0,w0,hQ _ _ _ h0⟩
  · exact h.mono fun v w' hh=>hK _ _ hh
  · exact hQ _ _ _ h
  · exact h.elim
theorem opsS {P:Program} {ops:Array Oper} {Q0:Exit→Act→World→Prop} {Q:Exit→Act→List Frame→World→Prop} {cs:List Frame} (hno:¬ LetsOut Q0) (hQ:∀ e a w,Q0 e a w→Q e a cs w):∀ (l:List Nat) (a:Act) (w:World),wpOps P ops Q0 l a w→wpOpsS P ops Q l a cs w
  | [],a,w,h=>hQ _ _ _ h
  | i :: l,a,w,h=>by
    unfold wpOps at h
    unfold wpOpsS
    cases ho:ops[i]? with
    | none =>
      simp only [ho] at h ⊢
      exact opsS hno hQ l a w h
    | some o =>
      simp only [ho] at h ⊢
      by_cases hw:Region.wanted o (yielded ops a.tmps)=true
      · simp only [hw,if_true] at h ⊢
        have h1:=h.resolve_right (fun k=>hno k.2)
        have h2:o.wp P a w (fun a' w'=>wpOpsS P ops Q l a' cs w') (fun e a w=>Q e a cs w):=wp_mono2 (fun a w h=>opsS hno hQ l a w h) hQ h1
        unfold Oper.wp at h2
        split
        · rename_i w' hr
          rw [hr] at h2
          exact h2.elim
        · exact h2
      · simp only [hw,if_false,Bool.false_eq_true] at h ⊢
        exact opsS hno hQ l _ w h
abbrev recOp:Op:=.call { callee:=.builtin .recover,args := #[],argTypes := #[]}
def Recov (u u2:FrameMode) (v:Value):Prop:=(u=.returning∧u2=.returning∧v=.nilIface)∨∃ older,u=.panicking ({ v:=v,recovered:=false }::older)∧u2=.panicking ({ v:=v,recovered:=true }::older)
theorem enterR {P:Program} {N:Nat} {env:Env} {w:World} {f:FuncId} {fn:Func} {id:Nat} {d:Tmp} {ty:TypeId} {pos:String} {after:Array Edge} {rest:List Oper} {y:Code} {R:Ending→World→Prop} {u u2:FrameMode} {v:Value} (args:List Value)
    (hu:Recov u u2 v) (hf:P.funcs[f]?=some fn) (hb:fn.body=some (.seq (.region id ((⟨some d,recOp,ty,pos,after,none⟩::rest).toArray) false) y)) (hn:fn.ntmps=N) (hN:Nat.ble args.length N=true) (he:jF_ args 0=env) (hd:Nat.blt d N=true)
    (h:∀ K:Env→World→Prop,(∀ e w,T P N y (dj_ P fn R) e w→K e w)→L P N ((⟨some d,recOp,ty,pos,after,none⟩::rest).toArray) (bf_ K (dj_ P fn R)) rest ((d,v)::env) w) (hd0:dfs env=[]:=by rfl) (hsm:Nat.ble N 1000000=true:=by rfl) :
    CallsD P f args.toArray u w fun e u' w'=>u'=u2∧R e w':=by
  refine callsD_of_wpS hf hb fun c₀ cs hu0=>?_
  have hsm':N≤1000000:=by simpa using hsm
  have hN':args.length≤N:=by simpa using hN
  have hfit:Fits N env { tmps:=args.toArray++Array.replicate (fn.ntmps - args.toArray.size) undef,defers:=[]}:=by
    refine ⟨hd0.symm,hsm',by simp [hn];omega,fun i v hv=>?_⟩
    have h1:args[i]?=some v:=by subst he;simpa using (dX_ _ _ _ _ hv).2
    have h2:=(List.getElem?_eq_some_iff.1 h1).1
    rw [Array.getElem?_append_left (by simpa using h2)]
    simpa using h1
  generalize ({ tmps:=args.toArray++Array.replicate (fn.ntmps - args.toArray.size) undef,defers:=[]}:Act)=a at hfit
  have key:∀ (Q':Post) (e:Exit) (a':Act) (w':World),Q'=dj_ P fn R→lift N Q' e a' w'→bodyPostS P fn c₀ cs (fun e u' w'=>u'=u2∧R e w') e a' ({ c₀ with mode:=u2 }::cs) w':=by
    rintro Q' e a' w' rfl hq
    cases e with
    | normal =>
      obtain ⟨e',h1,h0,v,h2,h3⟩:=hq
      exact ⟨h1.defers.trans h0,u2,rfl,v,h2 N a' h1,rfl,h3⟩
    | ret =>
      obtain ⟨e',h1,h0,v,h2,h3⟩:=hq
      exact ⟨h1.defers.trans h0,u2,rfl,v,h2 N a' h1,rfl,h3⟩
    | panic c =>
      obtain ⟨e',h1,h0,h2⟩:=hq
      exact ⟨h1.defers.trans h0,u2,rfl,rfl,h2⟩
    | outgrown=>exact hq.elim
    | exit i=>obtain ⟨_,_,h⟩:=hq;exact h.elim
    | goto i=>obtain ⟨_,_,h⟩:=hq;exact h.elim
  have hrun:(execOp a.eval ⟨some d,recOp,ty,pos,after,none⟩).run P w=.ok .recover w:=rfl
  have hrec:(match recoverD (c₀::cs) with
      | some (v',cs')=>v'=v∧cs'={ c₀ with mode:=u2 }::cs
      | none=>v=.nilIface∧(c₀::cs)={ c₀ with mode:=u2 }::cs):=by
    rcases hu with ⟨h1,h2,h3⟩ | ⟨older,h1,h2⟩
    · have e:recoverD (c₀::cs)=none:=by simp [recoverD,hu0,h1]
      rw [e]
      refine ⟨h3,?_⟩
      rw [h2, ← h1, ← hu0]
    · have e:recoverD (c₀::cs)=some (v,{ c₀ with mode:=u2 }::cs):=by simp [recoverD,hu0,h1,h2]
      rw [e]
      exact ⟨rfl,rfl⟩
  refine wpS_seq (wpS_region ?_)
  have hrange:List.range ((⟨some d,recOp,ty,pos,after,none⟩::rest:List Oper).toArray).size=0::List.range' 1 rest.length:=by
    rw [List.size_toArray,List.length_cons,List.range_eq_range',List.range'_succ]
  rw [hrange]
  have hL:=h (fun e w=>T P N y (dj_ P fn R) e w) (fun _ _ h=>h) _ (hfit.put d v hd)
  rw [← wpOps_eq_wpList rest 1 (fun j=>by simp [Nat.add_comm 1 j])] at hL
  have hgo:wpOpsS P ((⟨some d,recOp,ty,pos,after,none⟩::rest:List Oper).toArray) (Exit.thenS (y.wpS P (bodyPostS P fn c₀ cs (fun e u' w'=>u'=u2∧R e w'))) (bodyPostS P fn c₀ cs (fun e u' w'=>u'=u2∧R e w'))) (List.range' 1 rest.length) (a.put (some d) v) ({ c₀ with mode:=u2 }::cs) w:=by
    refine opsS (fun ⟨_,_,h⟩=>h.elim) (fun e a' w' hq=>?_) _ _ _ hL
    cases e with
    | normal =>
      obtain ⟨e',h1,h2⟩:=hq
      exact wpS_of_wp (Code.wp_mono (fun e a w hh=>key _ e a w Z hh) (h2 a' h1))
    | exit i=>obtain ⟨e',h1,h2⟩:=hq;exact key _ (.exit i) a' w' Z ⟨e',h1,h2⟩
    | goto i=>obtain ⟨e',h1,h2⟩:=hq;exact key _ (.goto i) a' w' Z ⟨e',h1,h2⟩
    | ret=>obtain ⟨e',h1,h2⟩:=hq;exact key _ .ret a' w' Z ⟨e',h1,h2⟩
    | panic c=>obtain ⟨e',h1,h2⟩:=hq;exact key _ (.panic c) a' w' Z ⟨e',h1,h2⟩
    | outgrown=>exact hq.elim
  unfold wpOpsS
  simp only [List.getElem?_toArray,List.getElem?_cons_zero,Region.wanted,if_true,hrun]
  split at hrec
  · rename_i v' cs' hr
    rw [hr]
    obtain ⟨rfl,rfl⟩:=hrec
    exact hgo
  · rename_i hr
    rw [hr]
    obtain ⟨rfl,hcs⟩:=hrec
    rw [hcs]
    exact hgo
end Zx
namespace Rev
open Go.RowKit Zk Zx
open Oid (idf hexL B_ aN_)
open Tre (aw_)
def flt:List PanicEntry:=[{ v:=.iface 235 (.agg #[.int .i64 12]),recovered:=false }]
def rdR (g:Nat) (s:List UInt8):Res:=blk g 198 #[.string ⟨s.toArray⟩]
theorem ji_ {w:World} {g:Nat} {s:List UInt8} (h:(rdR g s).holds w):∀ i,(rdR g s).dom i→i < w.heap.size:=fun i hi=>by
  have hi2:i=g:=hi
  subst hi2
  exact Blk.lt h
def bs_ (w s:List UInt8):Option (List UInt8 × List UInt8):=match aT_ 10 s with
  | none=>none
  | some (a,b)=>if cG_ s (w++[32])∧w.length < a.length then some (a.drop (w.length+1),b) else none
theorem eO_ {w s:List UInt8} (h:aT_ 10 s=none):bs_ w s=none:=by unfold bs_;rw [h]
theorem db_ {w s a b:List UInt8} (h:aT_ 10 s=some (a,b)) (hn:¬ (cG_ s (w++[32])∧w.length < a.length)):bs_ w s=none:=by unfold bs_;rw [h];exact if_neg hn
theorem kl_ {w s a b:List UInt8} (h:aT_ 10 s=some (a,b)) (hn:cG_ s (w++[32])∧w.length < a.length):bs_ w s=some (a.drop (w.length+1),b):=by unfold bs_;rw [h];exact if_pos hn
theorem dQ_ {w s a b:List UInt8} (h:bs_ w s=some (a,b)):a.length+b.length < s.length:=by
  unfold bs_ at h
  split at h
  · cases h
  · rename_i a' b' hc
    split at h
    · cases h
      obtain ⟨h1,_⟩:=ar_ hc
      rw [h1,List.length_append,List.length_cons,List.length_drop]
      omega
    · cases h
theorem cutV_b (c:UInt8) (s:List UInt8):∃ a b f,cutV c s=.tuple #[.string ⟨a.toArray⟩,.string ⟨b.toArray⟩,.bool f]∧(f=true→aT_ c s=some (a,b))∧(f=false→aT_ c s=none)∧a.length≤s.length:=by
  unfold cutV
  cases h:aT_ c s with
  | none=>exact ⟨s,[],false,rfl,(fun h=>by cases h),fun _=>rfl,Nat.le_refl _⟩
  | some p =>
    obtain ⟨h1,_⟩:=ar_ (a:=p.1) (b:=p.2) h
    exact ⟨p.1,p.2,true,rfl,fun _=>rfl,(fun h=>by cases h),by rw [h1,List.length_append];omega⟩
theorem js_ (l:List UInt8):∃ a b:Int,gP_ l=.tuple #[.int .i64 a,.int .i64 b]∧((b=0∧dJ_ l=true∧a=(bl_ l:Int))∨(b=12∧dJ_ l=false)):=by
  unfold gP_
  cases h:dJ_ l with
  | true=>exact ⟨_,_,rfl,.inl ⟨rfl,rfl,rfl⟩⟩
  | false=>exact ⟨_,_,rfl,.inr ⟨rfl,rfl⟩⟩
def ce_ (w s:List UInt8):Option (Nat × List UInt8):=match bs_ w s with
  | none=>none
  | some (a,b)=>if dJ_ a then some (bl_ a,b) else none
def dG_ (s:List UInt8):Option (List UInt8):=if cG_ s [10] then some (s.drop 1) else none
theorem cutP_b (s p:List UInt8):∃ a f,cutP s p=.tuple #[.string ⟨a.toArray⟩,.bool f]∧(f=true→cG_ s p∧a=s.drop p.length)∧(f=false→¬ cG_ s p):=by
  unfold cutP
  by_cases h:cG_ s p
  · exact ⟨_,true,by rw [if_pos h],fun _=>⟨h,rfl⟩,(fun h=>by cases h)⟩
  · exact ⟨_,false,by rw [if_neg h],fun h=>(by cases h),fun _=>h⟩
theorem next (g:Nat) (s w:List UInt8) (w0:World) (hw:(rdR g s).holds w0) (hwl:w.length≤10) :
    Calls Tryz.prog 146 #[.pointer (some ⟨g,0,none⟩),.string ⟨w.toArray⟩] w0 fun e w'=>∃ u,e=.returned u∧Turned w0 w' (rdR g s) (rdR g s)∧u=.bool (decide (cG_ s (w++[32]))):=by
 refine v_ (env:=[(0,.pointer (some ⟨g,0,none⟩)),(1,.string ⟨w.toArray⟩)]) [.pointer (some ⟨g,0,none⟩),.string ⟨w.toArray⟩] Tryz.func146 Z Tryz.ntmps146 Z Z ?_;have hbs:=bsz s;have hbw:=bsz w;have S0:=St.borrow1 (rdR g s) hw (ji_ hw);refine a_ fun K1 hK1=>b_ (Lan Z Z (hK1 _ _ (a_ fun K2 hK2=>Rm Z Z (L_y (E_ Z) Z (L_y (g_ 0 Tryz.underlying198 Z sz9 Z Z Z) Z (L_y (t_ Tryz.underlying9 Z Z (((S0.blk 0 Z).cell _).trans (by rfl))) Z ?_))))));refine Lm Z Z (L_y (fz_ Z Z (by rw [bsz,bsz32];omega)) Z ?_);rw [cat32];refine L_o (n_ Tryz.func176 Z Z (pref s (w++[32]) w0) Z Z ?_);rintro e1 w1 ⟨v1,rfl,l1,rfl⟩;refine ⟨_,rfl,(have S1:=S0.like l1;Lan Z Z (hK2 _ _ (l_ (ur (F_ Z Z ?_)))))⟩;exact ⟨_,rfl,S1.turned1 0 Z,rfl⟩
theorem take (g:Nat) (s w:List UInt8) (w0:World) (hw:(rdR g s).holds w0) (hwl:w.length≤10) (hl:s.length≤100000000) :
    Calls Tryz.prog 147 #[.pointer (some ⟨g,0,none⟩),.string ⟨w.toArray⟩] w0 fun e w'=>(e=.panicked flt∧Turned w0 w' (rdR g s) (rdR g s)∧bs_ w s=none)∨∃ u,e=.returned u∧∃ a b,bs_ w s=some (a,b)∧Turned w0 w' (rdR g s) (rdR g b)∧u=.string ⟨a.toArray⟩:=by
 refine v_ (env:=[(0,.pointer (some ⟨g,0,none⟩)),(1,.string ⟨w.toArray⟩)]) [.pointer (some ⟨g,0,none⟩),.string ⟨w.toArray⟩] Tryz.func147 Z Tryz.ntmps147 Z Z ?_;have hbs:=bsz s;have hbw:=bsz w;have S0:=St.borrow1 (rdR g s) hw (ji_ hw);refine a_ fun K1 hK1=>b_ (Lan Z Z (hK1 _ _ (a_ fun K2 hK2=>Rm Z Z (L_y (E_ Z) Z (L_y (g_ 0 Tryz.underlying198 Z sz9 Z Z Z) Z (L_y (t_ Tryz.underlying9 Z Z (((S0.blk 0 Z).cell _).trans (by rfl))) Z ?_))))));refine L_o (n_ Tryz.func46 Z Z (scut 10 s w0 (by omega)) Z Z ?_);rintro e1 w1 ⟨v1,rfl,l1,hu1⟩;refine ⟨_,rfl,?_⟩;have S1:=S0.like l1;obtain ⟨a,b,f,hcv,hf1,hf2,hal⟩:=cutV_b 10 s;rw [hcv] at hu1;subst hu1;have hba:=bsz a;have hbb:=bsz b;refine Lm Z Z (L_y (m_ Z Z) Z (L_y (m_ Z Z) Z (L_y (m_ Z Z) Z (La Z Z (La Z Z (Lan Z Z (hK2 _ _ (a_ fun K3 hK3=>a_ fun K4 hK4=>Rm Z Z (L_y ((by first | exact aA_ Z | exact aZ_ Z)) Z ?_)))))))));refine Lm Z Z ?_;refine ch_ 19 Z (fun h19=>?_) (fun h19=>?_)
 ·
  refine h_ Z Z Z (h_ Z Z Z (h_ Z Z Z (h_ Z Z Z (Lp Z Z Z (Lm Z Z (h_ Z Z Z (h_ Z Z Z (h_ Z Z Z (h_ Z Z Z (h_ Z Z Z (Lp Z Z Z (f_ (hK4 _ _ ?_)))))))))))));refine W_ Z (b_ (L_y (C_ Z (show _=some #[Value.int .i64 12] by kernel_rfl)) Z (L_y (fG_ (by kernel_rfl) Z) Z (fy_ Z ?_))));exact ⟨rfl,.inl ⟨rfl,S1.turned1 0 Z,by first | exact eO_ (hf2 (by simpa using h19)) | exact db_ (hf1 (by simpa using h19)) (fun h=>h25 h.1) | exact db_ (hf1 (by simpa using h19)) (fun h=>by omega)⟩⟩
 ·
  refine d_ Z Z (Lm Z Z (d_ Z Z (Lm Z Z (d_ Z Z (L_o (n_ Tryz.func146 Z Z (next g s w w1 (S1.get 0 Z) hwl) Z Z ?_))))));rintro e3 w3 ⟨v3,rfl,T3,rfl⟩;refine ⟨_,rfl,(have S3:=S1.turn 0 Z T3;d_ Z Z (L_y ((by first | exact aA_ Z | exact aZ_ Z)) Z ?_))⟩;refine Lp Z Z Z (Lm Z Z ?_);refine y_ 25 Z (fun h25=>?_) (fun h25=>?_)
  ·
   refine h_ Z Z Z (h_ Z Z Z (h_ Z Z Z (h_ Z Z Z (h_ Z Z Z (Lp Z Z Z (f_ (hK4 _ _ (W_ Z (b_ (L_y (C_ Z (show _=some #[Value.int .i64 12] by kernel_rfl)) Z (L_y (fG_ (by kernel_rfl) Z) Z (fy_ Z ?_))))))))))));exact ⟨rfl,.inl ⟨rfl,S3.turned1 0 Z,by first | exact eO_ (hf2 (by simpa using h19)) | exact db_ (hf1 (by simpa using h19)) (fun h=>h25 h.1) | exact db_ (hf1 (by simpa using h19)) (fun h=>by omega)⟩⟩
  ·
   refine d_ Z Z (Lm Z Z (d_ Z Z (L_y (av_ Tryz.underlying9 Z) Z (d_ Z Z (Lm Z Z (d_ Z Z (L_y (av_ Tryz.underlying9 Z) Z (d_ Z Z (L_y (ie_ Z Z) Z (Lp Z Z Z (f_ (hK4 _ _ ?_))))))))))));refine o_ Z (fun h31=>?_) (fun h31=>?_)
   ·
    refine b_ (L_y (C_ Z (show _=some #[Value.int .i64 12] by kernel_rfl)) Z (L_y (fG_ (by kernel_rfl) Z) Z (fy_ Z ?_)));exact ⟨rfl,.inl ⟨rfl,S3.turned1 0 Z,by first | exact eO_ (hf2 (by simpa using h19)) | exact db_ (hf1 (by simpa using h19)) (fun h=>h25 h.1) | exact db_ (hf1 (by simpa using h19)) (fun h=>by omega)⟩⟩
   ·
    refine j_ (hK3 _ _ (a_ fun K5 hK5=>Rm Z Z (Lm Z Z (L_y (E_ Z) Z (L_y (g_ 0 Tryz.underlying198 Z sz9 Z Z Z) Z (L_o (ac_ S3 0 Z Z Z Z sz9 (by simp;done) fun w5 S5=>?_)))))));refine f_ (hK5 _ _ (a_ fun K6 hK6=>Rm Z Z (Lm Z Z (L_y (av_ Tryz.underlying9 Z) Z (L_y (w_ Z Z (z_ (by omega))) Z (L_y (cQ_ (l:=w.length+1) Tryz.underlying9 Z Z (Nt.mk (by omega)) (by omega)) Z (Lan Z Z (hK6 _ _ (l_ (ur ?_))))))))));refine F_ Z Z ?_;have hok:cG_ s (w++[32])∧w.length < a.length:=⟨Classical.byContradiction (fun h=>h25 h),by omega⟩;exact .inr ⟨_,rfl,_,b,kl_ (hf1 (by simpa using h19)) hok,S5.turned1 0 Z,by rw [eS_]⟩
theorem text_ (g:Nat) (s:List UInt8) (w0:World) (hw:(rdR g s).holds w0) :
    Calls Tryz.prog 149 #[.pointer (some ⟨g,0,none⟩)] w0 fun e w'=>(e=.panicked flt∧Turned w0 w' (rdR g s) (rdR g s)∧dG_ s=none)∨∃ u,e=.returned u∧∃ a,dG_ s=some a∧Turned w0 w' (rdR g s) (rdR g s)∧u=.string ⟨a.toArray⟩:=by
 refine v_ (env:=[(0,.pointer (some ⟨g,0,none⟩))]) [.pointer (some ⟨g,0,none⟩)] Tryz.func149 Z Tryz.ntmps149 Z Z ?_;have hbs:=bsz s;have S0:=St.borrow1 (rdR g s) hw (ji_ hw);refine a_ fun K1 hK1=>b_ (Lan Z Z (hK1 _ _ (a_ fun K2 hK2=>Rm Z Z (L_y (E_ Z) Z (L_y (g_ 0 Tryz.underlying198 Z sz9 Z Z Z) Z (L_y (t_ Tryz.underlying9 Z Z (((S0.blk 0 Z).cell _).trans (by rfl))) Z ?_))))));refine L_o (n_ Tryz.func177 Z Z (cutp s [10] w0) Z Z ?_);rintro e1 w1 ⟨v1,rfl,l1,hu1⟩;refine ⟨_,rfl,?_⟩;have S1:=S0.like l1;obtain ⟨a,f,hcv,hf1,hf2⟩:=cutP_b s [10];rw [hcv] at hu1;subst hu1;refine Lm Z Z (L_y (m_ Z Z) Z (L_y (m_ Z Z) Z (La Z Z (Lan Z Z (hK2 _ _ (a_ fun K3 hK3=>a_ fun K4 hK4=>Rm Z Z (L_y ((by first | exact aA_ Z | exact aZ_ Z)) Z ?_)))))));refine f_ (hK4 _ _ ?_);refine aD_ Z (fun h14=>?_) (fun h14=>?_)
 ·
  refine b_ (L_y (C_ Z (show _=some #[Value.int .i64 12] by kernel_rfl)) Z (L_y (fG_ (by kernel_rfl) Z) Z (fy_ Z ?_)));exact ⟨rfl,.inl ⟨rfl,S1.turned1 0 Z,by unfold dG_;exact if_neg (hf2 (by simpa using h14))⟩⟩
 ·
  refine j_ (hK3 _ _ (a_ fun K5 hK5=>Rm Z Z (Lan Z Z (hK5 _ _ (l_ (ur (F_ Z Z ?_)))))));obtain ⟨hp,ha⟩:=hf1 (by simpa using h14);exact .inr ⟨_,rfl,a,by unfold dG_;rw [if_pos hp,ha];rfl,S1.turned1 0 Z,rfl⟩
theorem numb (g:Nat) (s w:List UInt8) (w0:World) (hw:(rdR g s).holds w0) (hwl:w.length≤10) (hl:s.length≤100000000) :
    Calls Tryz.prog 148 #[.pointer (some ⟨g,0,none⟩),.string ⟨w.toArray⟩] w0 fun e w'=>(e=.panicked flt∧∃ s',Turned w0 w' (rdR g s) (rdR g s')∧ce_ w s=none)∨∃ u,e=.returned u∧∃ a b,ce_ w s=some (a,b)∧Turned w0 w' (rdR g s) (rdR g b)∧u=.int .i64 (a:Int):=by
  refine v_ (env:=[(0,.pointer (some ⟨g,0,none⟩)),(1,.string ⟨w.toArray⟩)]) [.pointer (some ⟨g,0,none⟩),.string ⟨w.toArray⟩] Tryz.func148 Z Tryz.ntmps148 Z Z ?_
  have hbs:=bsz s
  have hbw:=bsz w
  have S0:=St.borrow1 (rdR g s) hw (ji_ hw)
  refine a_ fun K1 hK1=>?_
  refine b_ ?_
  refine La Z Z ?_
  refine f_ ?_
  refine hK1 _ _ ?_
  refine a_ fun K2 hK2=>?_
  refine b_ ?_
  refine Lm Z Z ?_
  refine Lm Z Z ?_
  refine L_o (cK_ Tryz.func147 Z Z (take g s w w0 (S0.get 0 Z) hwl hl) Z Z ?_)
  rintro e1 w1 (⟨rfl,T1,hno⟩ | ⟨v1,rfl,a,b,hli,T1,rfl⟩)
  · exact .inr ⟨_,rfl,⟨rfl,.inl ⟨rfl,_,St.turned1 (S0.turn 0 Z T1) 0 Z,by unfold ce_;rw [hno]⟩⟩⟩
  refine .inl ⟨_,rfl,?_⟩
  have S1:=S0.turn 0 Z T1
  have hll:=dQ_ hli
  refine L_o (n_ Tryz.func47 Z Z (number ⟨a.toArray⟩ w1) Z Z ?_)
  rintro e2 w2 ⟨v2,rfl,l2,hu2⟩
  refine ⟨_,rfl,?_⟩
  have S2:=S1.like l2
  obtain ⟨va,vb,hnv,hnc⟩:=js_ a
  have hnv2:gP_ (⟨a.toArray⟩:ByteArray).data.toList=.tuple #[.int .i64 va,.int .i64 vb]:=hnv
  rw [hnv2] at hu2
  subst hu2
  refine Lm Z Z ?_
  refine L_y (m_ Z Z) Z ?_
  refine L_y (m_ Z Z) Z ?_
  refine La Z Z ?_
  refine La Z Z ?_
  refine f_ ?_
  refine hK2 _ _ ?_
  refine a_ fun K3 hK3=>?_
  refine a_ fun K4 hK4=>?_
  refine b_ ?_
  refine Lm Z Z ?_
  refine L_y (ab_ Z Z) Z ?_
  refine f_ ?_
  refine hK4 _ _ ?_
  refine o_ Z (fun h15=>?_) (fun h15=>?_)
  ·
    have hbad:vb=12∧dJ_ a=false:=hnc.resolve_left (fun h=>h15 h.1)
    refine b_ ?_
    refine Lm Z Z ?_
    refine L_y (C_ Z (show _=some #[Value.int .i64 vb] by kernel_rfl)) Z ?_
    refine L_y (fG_ (by kernel_rfl) Z) Z ?_
    refine fy_ Z ?_
    rw [hbad.1]
    exact ⟨rfl,.inl ⟨rfl,_,S2.turned1 0 Z,by unfold ce_;rw [hli];simp [hbad.2]⟩⟩
  ·
    have hgood:vb=0∧dJ_ a=true∧va=(bl_ a:Int):=hnc.resolve_right (fun h=>by have h9:vb=0:=Classical.byContradiction (fun e=>h15 e);omega)
    refine j_ ?_
    refine hK3 _ _ ?_
    refine a_ fun K5 hK5=>?_
    refine b_ ?_
    refine Lm Z Z ?_
    refine La Z Z ?_
    refine f_ ?_
    refine hK5 _ _ ?_
    refine l_ ?_
    refine ur ?_
    refine F_ Z Z ?_
    exact .inr ⟨_,rfl,bl_ a,b,by unfold ce_;rw [hli];simp [hgood.2.1],S2.turned1 0 Z,by rw [hgood.2.2];rfl⟩
def idR (w s:List UInt8):Option (Oid.Id × List UInt8):=match bs_ w s with
  | none=>none
  | some (a,b)=>if (aN_ a).2=0 then some (⟨(aN_ a).1,Oid.bh_ a⟩,b) else none
theorem readN (a:List UInt8) (w:World):Calls Tryz.prog 175 #[.string ⟨a.toArray⟩] w fun e w'=>∃ u,e=.returned u∧Like w w'∧u=.tuple #[.agg (bA (aN_ a).1),.int .i64 (aN_ a).2]:=(Oid.read_any ⟨a.toArray⟩ w).mono fun e w' ⟨h1,h2⟩=>⟨_,h1,h2,rfl⟩
theorem idr (g:Nat) (s w:List UInt8) (w0:World) (hw:(rdR g s).holds w0) (hwl:w.length≤10) (hl:s.length≤100000000) :
    Calls Tryz.prog 145 #[.pointer (some ⟨g,0,none⟩),.string ⟨w.toArray⟩] w0 fun e w'=>(e=.panicked flt∧∃ s',Turned w0 w' (rdR g s) (rdR g s')∧idR w s=none)∨∃ u,e=.returned u∧∃ a b,idR w s=some (a,b)∧Turned w0 w' (rdR g s) (rdR g b)∧u=.agg (idf a).toArray:=by
  refine v_ (env:=[(0,.pointer (some ⟨g,0,none⟩)),(1,.string ⟨w.toArray⟩)]) [.pointer (some ⟨g,0,none⟩),.string ⟨w.toArray⟩] Tryz.func145 Z Tryz.ntmps145 Z Z ?_
  have hbs:=bsz s
  have hbw:=bsz w
  have S0:=St.borrow1 (rdR g s) hw (ji_ hw)
  refine a_ fun K1 hK1=>?_
  refine b_ ?_
  refine L_o (H_ dK_ S0 Z fun b1 w1 hb1 S1=>?_)
  refine f_ ?_
  refine hK1 _ _ ?_
  refine a_ fun K2 hK2=>?_
  refine b_ ?_
  refine Lm Z Z ?_
  refine Lm Z Z ?_
  refine L_o (cK_ Tryz.func147 Z Z (take g s w w1 (S1.get 0 Z) hwl hl) Z Z ?_)
  rintro e2 w2 (⟨rfl,T2,hno⟩ | ⟨v2,rfl,a,b,hli,T2,rfl⟩)
  · exact .inr ⟨_,rfl,⟨rfl,.inl ⟨rfl,_,St.turned1 (S1.turn 0 Z T2) 0 Z,by unfold idR;rw [hno]⟩⟩⟩
  refine .inl ⟨_,rfl,?_⟩
  have S2:=S1.turn 0 Z T2
  have hll:=dQ_ hli
  refine L_o (n_ Tryz.func175 Z Z (readN a w2) Z Z ?_)
  rintro e3 w3 ⟨v3,rfl,l3,rfl⟩
  refine ⟨_,rfl,?_⟩
  have S3:=S2.like l3
  refine Lm Z Z ?_
  refine L_y (m_ Z Z) Z ?_
  refine L_y (m_ Z Z) Z ?_
  refine L_o (H_ dK_ S3 Z fun b4 w4 hb4 S4=>?_)
  refine L_o (G_ S4 2 Z Z Z (by rw [size_bA,Oid.bh_];exact ao_) (by rw [size_bA,Oid.bh_];simp [Value.cells]) (fun u hu=>R_ _ u hu) fun w5 S5=>?_)
  refine La Z Z ?_
  refine f_ ?_
  refine hK2 _ _ ?_
  refine a_ fun K3 hK3=>?_
  refine a_ fun K4 hK4=>?_
  refine b_ ?_
  refine Lm Z Z ?_
  refine L_y (ab_ Z Z) Z ?_
  refine f_ ?_
  refine hK4 _ _ ?_
  refine o_ Z (fun h15=>?_) (fun h15=>?_)
  ·
    refine b_ ?_
    refine L_y (C_ Z (show _=some #[Value.int .i64 12] by kernel_rfl)) Z ?_
    refine L_y (fG_ (by kernel_rfl) Z) Z ?_
    refine fy_ Z ?_
    exact ⟨rfl,.inl ⟨rfl,_,S5.turned1 0 Z,by unfold idR;rw [hli];exact if_neg (fun e=>h15 e)⟩⟩
  ·
    refine j_ ?_
    refine hK3 _ _ ?_
    refine a_ fun K5 hK5=>?_
    refine b_ ?_
    refine L_y (Y_ Tryz.underlying41 Z ao_ Z (S5.blk 2 Z) (⟨by rw [List.drop_zero];exact List.take_of_length_le (by simp [bA,Oid.bh_]),by rw [length_bL,Oid.bh_]⟩:_=bL (aN_ a).1∧_)) Z ?_
    refine L_o (G_ S5 1 Z Z Z (by rw [List.size_toArray,length_bL,Oid.bh_];exact ao_) (by rw [List.size_toArray,length_bL,Oid.bh_];simp [Value.cells]) (fun u hu=>R_ _ u (by rw [List.toList_toArray] at hu;exact hu)) fun w6 S6=>?_)
    refine f_ ?_
    refine hK5 _ _ ?_
    refine l_ ?_
    refine ur ?_
    refine retc Z Z (S6.blk 1 Z) Tryz.underlying41 Z (by rw [List.size_toArray,length_bL,Oid.bh_];exact ao_) ?_
    exact .inr ⟨_,rfl,⟨(aN_ a).1,Oid.bh_ a⟩,b,by unfold idR;rw [hli];exact if_pos (Classical.byContradiction (fun e=>h15 e)),S6.turned1 0 Z,rfl⟩
end Rev
namespace Rev
open Go.RowKit Zk Zx
open Oid (idf hexL B_ aN_)
open Tre (aw_)
section
variable {P : Program} {w : World}
theorem resB2 {fn:Func} {p q:Tmp} {ty tz:TypeId} (h:fn.results = #[.cell p ty,.cell q tz]) (tmps:Array Value) {g g2:Nat} {t t2:TypeId} {cs:Array Value} {v:Value}
    (hp:tmps.getD p undef=.pointer (some ⟨g,0,none⟩)) (hq:tmps.getD q undef=.pointer (some ⟨g2,0,none⟩)) (hb:Blk w g t cs) (hb2:Blk w g2 t2 #[v]) (d d2:TypeDesc) (hu:P.underlying ty=some d) (hd:d.isRow=true) (hi:(P.info? ty).map (·.size)=some cs.size) (hu2:P.underlying tz=some d2) (hd2:d2.isRow=false) :
    (results fn tmps).run P w=.ok (.tuple #[.agg cs,v]) w:=by
  have hp':tmps[p]?.getD undef=.pointer (some ⟨g,0,none⟩):=by simpa using hp
  have hq':tmps[q]?.getD undef=.pointer (some ⟨g2,0,none⟩):=by simpa using hq
  have h2:(loadVar tz ⟨g2,0,none⟩).run P w=.ok v w:=fg_ hu2 hd2 ((hb2.cell 0).trans (by rfl))
  simp [results,h,hp',hq',asAddr,gj_ hb d hu hd hi,h2]
end
def fltR:List PanicEntry:=[{ v:=.iface 235 (.agg #[.int .i64 12]),recovered:=true }]
theorem ke_:Recov (.panicking flt) (.panicking fltR) (.iface 235 (.agg #[.int .i64 12])):=.inr ⟨[],rfl,rfl⟩
theorem kd_:Recov .returning .returning .nilIface:=.inl ⟨rfl,rfl,rfl⟩
def zCm:Cm:=⟨⟨List.replicate 32 0,rfl⟩,none,0,0,[],⟨#[]⟩,0,⟨#[]⟩⟩
structure Mk where
  ob:Oid.Id
  kd:Int
  nm:ByteArray
  tm:Int
  tx:ByteArray
def mkf (x:Mk):List Value:=idf x.ob++[.int .i64 x.kd,.string x.nm,.int .i64 x.tm,.string x.tx]
def zMk:Mk:=⟨⟨List.replicate 32 0,rfl⟩,0,⟨#[]⟩,0,⟨#[]⟩⟩
theorem cloCR (b2 b3:Nat) (w0:World)  :
    CallsD Tryz.prog 144 #[.pointer (some ⟨b2,0,none⟩),.pointer (some ⟨b3,0,none⟩)] .returning w0 fun e u' w'=>u'=.returning∧(e=.returned (.tuple #[])∧Like w0 w'):=by
  refine enterR (env:=[(0,.pointer (some ⟨b2,0,none⟩)),(1,.pointer (some ⟨b3,0,none⟩))]) [.pointer (some ⟨b2,0,none⟩),.pointer (some ⟨b3,0,none⟩)] kd_ Tryz.func144 Z Tryz.ntmps144 Z Z Z ?_
  have S0:=St.start w0 noM
  intro K0 hK0
  refine L_y (y_asNil Tryz.underlying235 (fun m h=>by cases h) zz235 Z) Z ?_
  refine Lm Z Z ?_
  refine L_y (m_ Z Z) Z ?_
  refine L_y (m_ Z Z) Z ?_
  refine L_o (H_ zz235 S0 Z fun b1 w1 hb1 S1=>?_)
  refine L_o (G_ S1 0 Z Z Z sz235 (by decide) (fun u hu=>by simp at hu;subst hu;rfl) fun w2 S2=>?_)
  refine La Z Z ?_
  refine f_ ?_
  refine hK0 _ _ ?_
  refine a_ fun K1 hK1=>?_
  refine b_ ?_
  refine Lm Z Z ?_
  refine f_ ?_
  refine hK1 _ _ ?_
  refine aD_ Z (fun h9=>?_) (fun h9=>?_)
  ·
    cases h9
  ·
    refine j_ ?_
    first | refine cg_ (fn:=Tryz.f144) Z ?_ | (simp only [bf_,inB,if_true];refine cg_ (fn:=Tryz.f144) Z ?_)
    exact ⟨rfl,S2.like0⟩
theorem cloCP (b2 b3:Nat) (cs:Array Value) (v:Value) (w0:World) (hb2:Blk w0 b2 83 cs) (hcs:cs.size=36) (hb3:Blk w0 b3 24 #[v]) (hne:b2≠b3) :
    CallsD Tryz.prog 144 #[.pointer (some ⟨b2,0,none⟩),.pointer (some ⟨b3,0,none⟩)] (.panicking flt) w0 fun e u' w'=>u'=.panicking fltR∧(e=.returned (.tuple #[])∧Turned w0 w' (Zx.both (blk b2 83 cs) (blk b3 24 #[v])) (Zx.both (blk b2 83 (cmf zCm).toArray) (blk b3 24 #[.int .i64 12]))):=by
  refine enterR (env:=[(0,.pointer (some ⟨b2,0,none⟩)),(1,.pointer (some ⟨b3,0,none⟩))]) [.pointer (some ⟨b2,0,none⟩),.pointer (some ⟨b3,0,none⟩)] ke_ Tryz.func144 Z Tryz.ntmps144 Z Z Z ?_
  have S0:=St.borrow2 (blk b2 83 cs) (blk b3 24 #[v]) hb2 hb3 (fun i hi=>by rcases hi with hi | hi;(have h2:i=b2:=hi;subst h2;exact hb2.lt);(have h2:i=b3:=hi;subst h2;exact hb3.lt)) (fun i hi hi2=>hne (Eq.trans (show i=b2 from hi).symm (show i=b3 from hi2)))
  intro K0 hK0
  refine L_y (y_asHit Tryz.underlying235 (fun m h=>by cases h) Z) Z ?_
  refine Lm Z Z ?_
  refine L_y (m_ Z Z) Z ?_
  refine L_y (m_ Z Z) Z ?_
  refine L_o (H_ zz235 S0 Z fun b1 w1 hb1 S1=>?_)
  refine L_o (G_ S1 2 Z Z Z sz235 (by decide) (fun u hu=>by simp at hu;subst hu;rfl) fun w2 S2=>?_)
  refine La Z Z ?_
  refine f_ ?_
  refine hK0 _ _ ?_
  refine a_ fun K1 hK1=>?_
  refine b_ ?_
  refine Lm Z Z ?_
  refine f_ ?_
  refine hK1 _ _ ?_
  refine aD_ Z (fun h9=>?_) (fun h9=>?_)
  ·
    refine cH_ (fun w=>Blk w b1 235 #[Value.int .i64 12]) aS_ (by kernel_rfl) (fun w l=>((S2.like l).blk 2 Z)) fun w3 l3=>?_
    have S3:=S2.like l3
    refine aj_ 0 (by kernel_rfl) Z (C_ Z (show _=some (cmf zCm).toArray by kernel_rfl)) Z ?_
    refine aj_ 1 (by kernel_rfl) Z (g_ 0 Tryz.underlying235 Z dm_ Z Z Z) Z ?_
    refine aj_ 2 (by kernel_rfl) Z (eZ_ fun w hw=>t_ Tryz.underlying24 Z Z ((hw.cell _).trans (by rfl))) Z ?_
    refine aX_ 3 (by kernel_rfl) Z ?_
    refine G_ S3 0 Z Z Z bg_ (by rw [hcs];decide) (fun u hu=>by revert u;decide+kernel) fun w4 S4=>?_
    refine ⟨(S4.blk 2 Z),?_⟩
    refine aX_ 4 (by kernel_rfl) Z ?_
    refine ac_ S4 1 Z Z Z Z dm_ (by simp;done) fun w5 S5=>?_
    refine ⟨(S5.blk 2 Z),?_⟩
    refine cB_ (by kernel_rfl) ?_
    first | refine cg_ (fn:=Tryz.f144) Z ?_ | (simp only [bf_,inB,if_true];refine cg_ (fn:=Tryz.f144) Z ?_)
    exact ⟨rfl,S5.turned2 0 1 Z Z⟩
  ·
    cases h9
theorem read_inv (b2 b3:Nat) (w:World):(invoke (.fn (.func 144) #[.pointer (some ⟨b2,0,none⟩),.pointer (some ⟨b3,0,none⟩)]) #[]).run Tryz.prog w=.ok (.enter 144 #[.pointer (some ⟨b2,0,none⟩),.pointer (some ⟨b3,0,none⟩)]) w:=by
  have hb : (Tryz.f144.name == "runtime.NumGoroutine") = false := by rfl
  have hn:Tryz.f144.body.isNone=false:=by rfl
  simp only [invoke,callFunc,Sem.run_bind,Sem.run_pure,Result.andThen_ok,run_program,Tryz.func144,hb,hn,Bool.false_eq_true,if_false,Array.append_empty,Array.empty_append]
theorem fN_ {R:Ending→World→Prop} {env:Env} {w:World} {b2 b3:Nat} {cs:Array Value} {v:Value} (h2:Zx.look env 2=some (.pointer (some ⟨b2,0,none⟩))) (h3:Zx.look env 3=some (.pointer (some ⟨b3,0,none⟩))) (hd:dfs env=[⟨.fn (.func 144) #[.pointer (some ⟨b2,0,none⟩),.pointer (some ⟨b3,0,none⟩)], #[]⟩])
    (hb2:Blk w b2 83 cs) (hcs:cs.size=36) (hb3:Blk w b3 24 #[v]) (hne:b2≠b3) (h:∀ w',Turned w w' (Zx.both (blk b2 83 cs) (blk b3 24 #[v])) (Zx.both (blk b2 83 (cmf zCm).toArray) (blk b3 24 #[.int .i64 12]))→R (.returned (.tuple #[.agg (cmf zCm).toArray,.int .i64 12])) w'):fY_ Tryz.prog Tryz.f108 R (.panic flt) env w:=by
  refine ⟨[(2,.pointer (some ⟨b2,0,none⟩)),(3,.pointer (some ⟨b3,0,none⟩)),(1000000,.agg #[.agg #[.int .i64 144,.agg #[],.agg #[.pointer (some ⟨b2,0,none⟩),.pointer (some ⟨b3,0,none⟩)]]])],fun i u hi=>?_,⟨by rw [hd];rfl,fun i u hi=>?_⟩,fun N a ha=>?_⟩
  · simp only [Zx.look] at hi
    cases e2:Nat.beq 2 i with
    | true => have:2=i:=by simpa using e2
              omega
    | false =>
      rw [e2] at hi
      simp only [cond_false] at hi
      cases e3:Nat.beq 3 i with
      | true => have:3=i:=by simpa using e3
                omega
      | false =>
        rw [e3] at hi
        simp only [cond_false] at hi
        cases e4:Nat.beq 1000000 i with
        | true=>rw [e4] at hi;cases hi
        | false=>rw [e4] at hi;cases hi
  · simp only [Zx.look] at hi
    cases e2:Nat.beq 2 i with
    | true =>
      have h5:2=i:=by simpa using e2
      subst h5
      exact h2.trans hi
    | false =>
      rw [e2] at hi
      simp only [cond_false] at hi
      cases e3:Nat.beq 3 i with
      | true =>
        have h5:3=i:=by simpa using e3
        subst h5
        exact h3.trans hi
      | false =>
        rw [e3] at hi
        simp only [cond_false] at hi
        cases e4:Nat.beq 1000000 i with
        | true=>rw [e4] at hi;cases hi
        | false=>rw [e4] at hi;cases hi
  · have d2:a.tmps.getD 2 undef=.pointer (some ⟨b2,0,none⟩):=ha.getD Z
    have d3:a.tmps.getD 3 undef=.pointer (some ⟨b3,0,none⟩):=ha.getD Z
    refine leaves_cons (by simp) (read_inv b2 b3 w) ((cloCP b2 b3 cs v w hb2 hcs hb3 hne).mono fun e u' w' hh=>?_)
    obtain ⟨rfl,rfl,T⟩:=hh
    refine ⟨_,resB2 Z a.tmps d2 d3 T.holds.1 T.holds.2 _ _ Tryz.underlying83 Z (by exact bg_) Tryz.underlying24 Z,h w' T⟩
theorem read_ret {R:Ending→World→Prop} {env:Env} {w:World} {b2 b3:Nat} {cs:Array Value} {v:Value} (h2:Zx.look env 2=some (.pointer (some ⟨b2,0,none⟩))) (h3:Zx.look env 3=some (.pointer (some ⟨b3,0,none⟩))) (hd:dfs env=[⟨.fn (.func 144) #[.pointer (some ⟨b2,0,none⟩),.pointer (some ⟨b3,0,none⟩)], #[]⟩])
    (hb2:Blk w b2 83 cs) (hcs:cs.size=36) (hb3:Blk w b3 24 #[v]) (h:∀ w',Like w w'→R (.returned (.tuple #[.agg cs,v])) w'):fY_ Tryz.prog Tryz.f108 R .ret env w:=fun N a ha=>by
  have d2:a.tmps.getD 2 undef=.pointer (some ⟨b2,0,none⟩):=ha.getD h2
  have d3:a.tmps.getD 3 undef=.pointer (some ⟨b3,0,none⟩):=ha.getD h3
  rw [hd]
  refine leaves_cons (by simp) (read_inv b2 b3 w) ((cloCR b2 b3 w).mono fun e u' w' hh=>?_)
  obtain ⟨rfl,rfl,l⟩:=hh
  exact ⟨_,resB2 Z a.tmps d2 d3 ((l.block _ hb2.lt).trans hb2) ((l.block _ hb3.lt).trans hb3) _ _ Tryz.underlying83 Z (by rw [hcs];exact bg_) Tryz.underlying24 Z,h w' l⟩
theorem cloMR (b2 b3:Nat) (w0:World)  :
    CallsD Tryz.prog 152 #[.pointer (some ⟨b2,0,none⟩),.pointer (some ⟨b3,0,none⟩)] .returning w0 fun e u' w'=>u'=.returning∧(e=.returned (.tuple #[])∧Like w0 w'):=by
  refine enterR (env:=[(0,.pointer (some ⟨b2,0,none⟩)),(1,.pointer (some ⟨b3,0,none⟩))]) [.pointer (some ⟨b2,0,none⟩),.pointer (some ⟨b3,0,none⟩)] kd_ Tryz.func152 Z Tryz.ntmps152 Z Z Z ?_
  have S0:=St.start w0 noM
  intro K0 hK0
  refine L_y (y_asNil Tryz.underlying235 (fun m h=>by cases h) zz235 Z) Z ?_
  refine Lm Z Z ?_
  refine L_y (m_ Z Z) Z ?_
  refine L_y (m_ Z Z) Z ?_
  refine L_o (H_ zz235 S0 Z fun b1 w1 hb1 S1=>?_)
  refine L_o (G_ S1 0 Z Z Z sz235 (by decide) (fun u hu=>by simp at hu;subst hu;rfl) fun w2 S2=>?_)
  refine La Z Z ?_
  refine f_ ?_
  refine hK0 _ _ ?_
  refine a_ fun K1 hK1=>?_
  refine b_ ?_
  refine Lm Z Z ?_
  refine f_ ?_
  refine hK1 _ _ ?_
  refine aD_ Z (fun h9=>?_) (fun h9=>?_)
  ·
    cases h9
  ·
    refine j_ ?_
    first | refine cg_ (fn:=Tryz.f152) Z ?_ | (simp only [bf_,inB,if_true];refine cg_ (fn:=Tryz.f152) Z ?_)
    exact ⟨rfl,S2.like0⟩
theorem cloMP (b2 b3:Nat) (cs:Array Value) (v:Value) (w0:World) (hb2:Blk w0 b2 87 cs) (hcs:cs.size=36) (hb3:Blk w0 b3 24 #[v]) (hne:b2≠b3) :
    CallsD Tryz.prog 152 #[.pointer (some ⟨b2,0,none⟩),.pointer (some ⟨b3,0,none⟩)] (.panicking flt) w0 fun e u' w'=>u'=.panicking fltR∧(e=.returned (.tuple #[])∧Turned w0 w' (Zx.both (blk b2 87 cs) (blk b3 24 #[v])) (Zx.both (blk b2 87 (mkf zMk).toArray) (blk b3 24 #[.int .i64 12]))):=by
  refine enterR (env:=[(0,.pointer (some ⟨b2,0,none⟩)),(1,.pointer (some ⟨b3,0,none⟩))]) [.pointer (some ⟨b2,0,none⟩),.pointer (some ⟨b3,0,none⟩)] ke_ Tryz.func152 Z Tryz.ntmps152 Z Z Z ?_
  have S0:=St.borrow2 (blk b2 87 cs) (blk b3 24 #[v]) hb2 hb3 (fun i hi=>by rcases hi with hi | hi;(have h2:i=b2:=hi;subst h2;exact hb2.lt);(have h2:i=b3:=hi;subst h2;exact hb3.lt)) (fun i hi hi2=>hne (Eq.trans (show i=b2 from hi).symm (show i=b3 from hi2)))
  intro K0 hK0
  refine L_y (y_asHit Tryz.underlying235 (fun m h=>by cases h) Z) Z ?_
  refine Lm Z Z ?_
  refine L_y (m_ Z Z) Z ?_
  refine L_y (m_ Z Z) Z ?_
  refine L_o (H_ zz235 S0 Z fun b1 w1 hb1 S1=>?_)
  refine L_o (G_ S1 2 Z Z Z sz235 (by decide) (fun u hu=>by simp at hu;subst hu;rfl) fun w2 S2=>?_)
  refine La Z Z ?_
  refine f_ ?_
  refine hK0 _ _ ?_
  refine a_ fun K1 hK1=>?_
  refine b_ ?_
  refine Lm Z Z ?_
  refine f_ ?_
  refine hK1 _ _ ?_
  refine aD_ Z (fun h9=>?_) (fun h9=>?_)
  ·
    refine cH_ (fun w=>Blk w b1 235 #[Value.int .i64 12]) aS_ (by kernel_rfl) (fun w l=>((S2.like l).blk 2 Z)) fun w3 l3=>?_
    have S3:=S2.like l3
    refine aj_ 0 (by kernel_rfl) Z (C_ Z (show _=some (mkf zMk).toArray by kernel_rfl)) Z ?_
    refine aj_ 1 (by kernel_rfl) Z (g_ 0 Tryz.underlying235 Z dm_ Z Z Z) Z ?_
    refine aj_ 2 (by kernel_rfl) Z (eZ_ fun w hw=>t_ Tryz.underlying24 Z Z ((hw.cell _).trans (by rfl))) Z ?_
    refine aX_ 3 (by kernel_rfl) Z ?_
    refine G_ S3 0 Z Z Z bS_ (by rw [hcs];decide) (fun u hu=>by revert u;decide+kernel) fun w4 S4=>?_
    refine ⟨(S4.blk 2 Z),?_⟩
    refine aX_ 4 (by kernel_rfl) Z ?_
    refine ac_ S4 1 Z Z Z Z dm_ (by simp;done) fun w5 S5=>?_
    refine ⟨(S5.blk 2 Z),?_⟩
    refine cB_ (by kernel_rfl) ?_
    first | refine cg_ (fn:=Tryz.f152) Z ?_ | (simp only [bf_,inB,if_true];refine cg_ (fn:=Tryz.f152) Z ?_)
    exact ⟨rfl,S5.turned2 0 1 Z Z⟩
  ·
    cases h9
theorem mark_inv (b2 b3:Nat) (w:World):(invoke (.fn (.func 152) #[.pointer (some ⟨b2,0,none⟩),.pointer (some ⟨b3,0,none⟩)]) #[]).run Tryz.prog w=.ok (.enter 152 #[.pointer (some ⟨b2,0,none⟩),.pointer (some ⟨b3,0,none⟩)]) w:=by
  have hb : (Tryz.f152.name == "runtime.NumGoroutine") = false := by rfl
  have hn:Tryz.f152.body.isNone=false:=by rfl
  simp only [invoke,callFunc,Sem.run_bind,Sem.run_pure,Result.andThen_ok,run_program,Tryz.func152,hb,hn,Bool.false_eq_true,if_false,Array.append_empty,Array.empty_append]
theorem eL_ {R:Ending→World→Prop} {env:Env} {w:World} {b2 b3:Nat} {cs:Array Value} {v:Value} (h2:Zx.look env 2=some (.pointer (some ⟨b2,0,none⟩))) (h3:Zx.look env 3=some (.pointer (some ⟨b3,0,none⟩))) (hd:dfs env=[⟨.fn (.func 152) #[.pointer (some ⟨b2,0,none⟩),.pointer (some ⟨b3,0,none⟩)], #[]⟩])
    (hb2:Blk w b2 87 cs) (hcs:cs.size=36) (hb3:Blk w b3 24 #[v]) (hne:b2≠b3) (h:∀ w',Turned w w' (Zx.both (blk b2 87 cs) (blk b3 24 #[v])) (Zx.both (blk b2 87 (mkf zMk).toArray) (blk b3 24 #[.int .i64 12]))→R (.returned (.tuple #[.agg (mkf zMk).toArray,.int .i64 12])) w'):fY_ Tryz.prog Tryz.f110 R (.panic flt) env w:=by
  refine ⟨[(2,.pointer (some ⟨b2,0,none⟩)),(3,.pointer (some ⟨b3,0,none⟩)),(1000000,.agg #[.agg #[.int .i64 152,.agg #[],.agg #[.pointer (some ⟨b2,0,none⟩),.pointer (some ⟨b3,0,none⟩)]]])],fun i u hi=>?_,⟨by rw [hd];rfl,fun i u hi=>?_⟩,fun N a ha=>?_⟩
  · simp only [Zx.look] at hi
    cases e2:Nat.beq 2 i with
    | true => have:2=i:=by simpa using e2
              omega
    | false =>
      rw [e2] at hi
      simp only [cond_false] at hi
      cases e3:Nat.beq 3 i with
      | true => have:3=i:=by simpa using e3
                omega
      | false =>
        rw [e3] at hi
        simp only [cond_false] at hi
        cases e4:Nat.beq 1000000 i with
        | true=>rw [e4] at hi;cases hi
        | false=>rw [e4] at hi;cases hi
  · simp only [Zx.look] at hi
    cases e2:Nat.beq 2 i with
    | true =>
      have h5:2=i:=by simpa using e2
      subst h5
      exact h2.trans hi
    | false =>
      rw [e2] at hi
      simp only [cond_false] at hi
      cases e3:Nat.beq 3 i with
      | true =>
        have h5:3=i:=by simpa using e3
        subst h5
        exact h3.trans hi
      | false =>
        rw [e3] at hi
        simp only [cond_false] at hi
        cases e4:Nat.beq 1000000 i with
        | true=>rw [e4] at hi;cases hi
        | false=>rw [e4] at hi;cases hi
  · have d2:a.tmps.getD 2 undef=.pointer (some ⟨b2,0,none⟩):=ha.getD Z
    have d3:a.tmps.getD 3 undef=.pointer (some ⟨b3,0,none⟩):=ha.getD Z
    refine leaves_cons (by simp) (mark_inv b2 b3 w) ((cloMP b2 b3 cs v w hb2 hcs hb3 hne).mono fun e u' w' hh=>?_)
    obtain ⟨rfl,rfl,T⟩:=hh
    refine ⟨_,resB2 Z a.tmps d2 d3 T.holds.1 T.holds.2 _ _ Tryz.underlying87 Z (by exact bS_) Tryz.underlying24 Z,h w' T⟩
theorem mark_ret {R:Ending→World→Prop} {env:Env} {w:World} {b2 b3:Nat} {cs:Array Value} {v:Value} (h2:Zx.look env 2=some (.pointer (some ⟨b2,0,none⟩))) (h3:Zx.look env 3=some (.pointer (some ⟨b3,0,none⟩))) (hd:dfs env=[⟨.fn (.func 152) #[.pointer (some ⟨b2,0,none⟩),.pointer (some ⟨b3,0,none⟩)], #[]⟩])
    (hb2:Blk w b2 87 cs) (hcs:cs.size=36) (hb3:Blk w b3 24 #[v]) (h:∀ w',Like w w'→R (.returned (.tuple #[.agg cs,v])) w'):fY_ Tryz.prog Tryz.f110 R .ret env w:=fun N a ha=>by
  have d2:a.tmps.getD 2 undef=.pointer (some ⟨b2,0,none⟩):=ha.getD h2
  have d3:a.tmps.getD 3 undef=.pointer (some ⟨b3,0,none⟩):=ha.getD h3
  rw [hd]
  refine leaves_cons (by simp) (mark_inv b2 b3 w) ((cloMR b2 b3 w).mono fun e u' w' hh=>?_)
  obtain ⟨rfl,rfl,l⟩:=hh
  exact ⟨_,resB2 Z a.tmps d2 d3 ((l.block _ hb2.lt).trans hb2) ((l.block _ hb3.lt).trans hb3) _ _ Tryz.underlying87 Z (by rw [hcs];exact bS_) Tryz.underlying24 Z,h w' l⟩
end Rev
namespace Rev
open Go.RowKit Zk Zx
open Oid (idf hexL B_ aN_)
open Tre (aw_)
def cz_:Nat→List UInt8→Option (List Oid.Id × List UInt8)
  | 0,s=>some ([],s)
  | k + 1,s=>if cG_ s (bo_++[32]) then (match idR bo_ s with
      | none=>none
      | some (p,b)=>(cz_ k b).map fun q=>(p::q.1,q.2)) else some ([],s)
theorem hQ_ {m:Nat} {s:List UInt8} (h:¬ cG_ s (bo_++[32])):cz_ m s=some ([],s):=by
  cases m with
  | zero=>rfl
  | succ m=>rw [cz_,if_neg h]
theorem hR_ {m:Nat} {s:List UInt8} (h:cG_ s (bo_++[32])) (hi:idR bo_ s=none):cz_ (m+1) s=none:=by rw [cz_,if_pos h,hi]
theorem jl_ {m:Nat} {s b:List UInt8} {p:Oid.Id} (h:cG_ s (bo_++[32])) (hi:idR bo_ s=some (p,b)):cz_ (m+1) s=(cz_ m b).map fun q=>(p::q.1,q.2):=by rw [cz_,if_pos h,hi]
theorem kX_ {w s b:List UInt8} {p:Oid.Id} (h:idR w s=some (p,b)):b.length < s.length:=by
  unfold idR at h
  split at h
  · cases h
  · rename_i a b' hl
    have:=dQ_ hl
    split at h
    · cases h
      omega
    · cases h
theorem hT_ {w s b:List UInt8} {p:Nat} (h:ce_ w s=some (p,b)):b.length < s.length∧p < 1000000000000000:=by
  unfold ce_ at h
  split at h
  · cases h
  · rename_i a b' hl
    have:=dQ_ hl
    split at h
    · rename_i hn
      cases h
      refine ⟨by omega,?_⟩
      unfold dJ_ at hn
      rw [Bool.and_eq_true,decide_eq_true_eq] at hn
      have h1:=numV_lt a hn.2
      have h2:10 ^ a.length≤10 ^ 15:=Nat.pow_le_pow_right (by omega) hn.1.2.1
      have h3:(10:Nat) ^ 15=1000000000000000:=by decide
      omega
    · cases h
structure CmL where
  tr:Oid.Id
  ps:List Oid.Id
  au:List UInt8
  tm:Nat
  tx:List UInt8
def cmOf (y:CmL) (A:Option Addr) (n c:Nat):Cm:=⟨y.tr,A,n,c,y.ps,⟨y.au.toArray⟩,(y.tm:Int),⟨y.tx.toArray⟩⟩
def dp_ (s:List UInt8):Option CmL :=
  (idR gA_ s).bind fun t=>(cz_ (s.length+1) t.2).bind fun p=>(bs_ dr_ p.2).bind fun a=>(ce_ dF_ a.2).bind fun n=>(dG_ n.2).map fun x=>⟨t.1,p.1,a.1,n.1,x⟩
theorem g1 {s:List UInt8} (h:idR gA_ s=none):dp_ s=none:=by unfold dp_;rw [h];rfl
theorem D_ (x:Cm):(cmf x).toArray.size=36:=by rw [List.size_toArray,ll_]
theorem st_tree (x:Cm) (t:Oid.Id):((cmf x).toArray.toList.take 0++(idf t).toArray.toList++(cmf x).toArray.toList.drop (0+(idf t).toArray.size)).toArray=(cmf { x with tr:=t }).toArray:=by
  simp only [List.take_zero,List.nil_append,List.size_toArray,B_,Nat.zero_add]
  congr 1
  show idf t++(cmf x).drop 32=_
  unfold cmf
  rw [List.drop_append_of_le_length (by rw [B_];omega),List.drop_of_length_le (by rw [B_];omega),List.nil_append]
theorem st_at (x:Cm) (k:Nat) (v:Value) (hk:k < 4):(cmf x).toArray.setIfInBounds (32+k) v=(idf x.tr++[Value.slice x.A x.n x.c,.string x.au,.int .i64 x.tm,.string x.tx].set k v).toArray:=by
  rw [List.setIfInBounds_toArray]
  congr 1
  unfold cmf
  rw [List.set_append_right _ _ (by rw [B_];omega),B_,show 32+k - 32=k by omega]
theorem st32 (x:Cm) (A:Option Addr) (n c:Nat):(cmf x).toArray.setIfInBounds 32 (.slice A n c)=(cmf { x with A:=A,n:=n,c:=c }).toArray:=st_at x 0 _ (by omega)
theorem st33 (x:Cm) (v:ByteArray):(cmf x).toArray.setIfInBounds 33 (.string v)=(cmf { x with au:=v }).toArray:=st_at x 1 _ (by omega)
theorem st34 (x:Cm) (v:Int):(cmf x).toArray.setIfInBounds 34 (.int .i64 v)=(cmf { x with tm:=v }).toArray:=st_at x 2 _ (by omega)
theorem st35 (x:Cm) (v:ByteArray):(cmf x).toArray.setIfInBounds 35 (.string v)=(cmf { x with tx:=v }).toArray:=st_at x 3 _ (by omega)
theorem dU_ {w0 w w':World} {M:Nat→Prop} {r b c b' c':Res} (S:St w0 M [r,b,c] w) (T:Turned w w' (both b c) (both b' c')):St w0 M [r,both b' c'] w':=(St.join2 (rs:=[r]) S).turn 1 Z T
theorem g2 {s s1:List UInt8} {t:Oid.Id} (h:idR gA_ s=some (t,s1)) (hp:cz_ (s.length+1) s1=none):dp_ s=none:=by unfold dp_;rw [h];simp [hp]
theorem g3 {s s1 s2:List UInt8} {t:Oid.Id} {ps:List Oid.Id} (h:idR gA_ s=some (t,s1)) (hp:cz_ (s.length+1) s1=some (ps,s2)) (ha:bs_ dr_ s2=none):dp_ s=none:=by unfold dp_;rw [h];simp [hp,ha]
theorem g4 {s s1 s2 s3 a:List UInt8} {t:Oid.Id} {ps:List Oid.Id} (h:idR gA_ s=some (t,s1)) (hp:cz_ (s.length+1) s1=some (ps,s2)) (ha:bs_ dr_ s2=some (a,s3)) (hn:ce_ dF_ s3=none):dp_ s=none:=by unfold dp_;rw [h];simp [hp,ha,hn]
theorem g5 {s s1 s2 s3 s4 a:List UInt8} {t:Oid.Id} {ps:List Oid.Id} {n:Nat} (h:idR gA_ s=some (t,s1)) (hp:cz_ (s.length+1) s1=some (ps,s2)) (ha:bs_ dr_ s2=some (a,s3)) (hn:ce_ dF_ s3=some (n,s4)) (hx:dG_ s4=none):dp_ s=none:=by unfold dp_;rw [h];simp [hp,ha,hn,hx]
theorem g6 {s s1 s2 s3 s4 a x:List UInt8} {t:Oid.Id} {ps:List Oid.Id} {n:Nat} (h:idR gA_ s=some (t,s1)) (hp:cz_ (s.length+1) s1=some (ps,s2)) (ha:bs_ dr_ s2=some (a,s3)) (hn:ce_ dF_ s3=some (n,s4)) (hx:dG_ s4=some x):dp_ s=some ⟨t,ps,a,n,x⟩:=by unfold dp_;rw [h];simp [hp,ha,hn,hx]
theorem map_step {o:Option (List Oid.Id × List UInt8)} (ps:List Oid.Id) (p:Oid.Id):(o.map fun q=>(p::q.1,q.2)).map (fun q=>(ps++q.1,q.2))=o.map fun q=>((ps++[p])++q.1,q.2):=by cases o <;> simp
theorem St.ownM {w0 w:World} {M:Nat→Prop} {rs:List Res} (S:Zx.St w0 M rs w) (j k:Nat) {r:Res} (hj:rs[j]?=some r) (hjk:Nat.beq j k=false) (hM:∀ i,M i→r.dom i) {e size n c:Nat} {A:Option Addr} {xs:List Value} (hk:rs[k]?=some (Zx.row e size A n c xs)):w.ownsRow w0.heap.size e size (.slice A n c) n xs:=by
  have h:w.ownsRow 0 e size (.slice A n c) n xs:=S.get k hk
  refine ⟨h.1,h.2.imp id fun ⟨g,cap,cur,h1,_,h3⟩=>⟨g,cap,cur,h1,?_,h3⟩⟩
  have hd:(Zx.row e size A n c xs).dom g:=by simp only [Zx.row];rw [h1];rfl
  rcases ((S.res _ (List.mem_of_getElem? hk)).2 g hd).2 with h | h
  · exact h
  · exact (St.apart_ S j k hj hk hjk g (hM g h) hd).elim
theorem jz_ {w s a b:List UInt8} (h:bs_ w s=some (a,b)):b.length < s.length:=by have:=dQ_ h;omega
theorem readr (g:Nat) (s:List UInt8) (w0:World) (hw:(rdR g s).holds w0) (hl:s.length≤100000) :
    Calls Tryz.prog 108 #[.pointer (some ⟨g,0,none⟩)] w0 fun e w'=>∃ u,e=.returned u∧∃ s',Turned w0 w' (rdR g s) (rdR g s')∧((dp_ s=none∧u=.tuple #[.agg (cmf zCm).toArray,.int .i64 12])∨∃ y A n c,dp_ s=some y∧n=y.ps.length∧Fr w0 w' 32 A n c (y.ps.flatMap idf)∧u=.tuple #[.agg (cmf (cmOf y A n c)).toArray,.int .i64 0]):=by
  refine lc_ (env:=[(0,.pointer (some ⟨g,0,none⟩))]) [.pointer (some ⟨g,0,none⟩)] Tryz.func108 Z Tryz.ntmps108 Z Z ?_
  have S0:=St.borrow1 (rdR g s) hw (ji_ hw)
  refine a_ fun K1 hK1=>?_
  refine b_ ?_
  refine L_o (H_ zz83 S0 Z fun b1 w1 hb1 S1=>?_)
  refine L_o (H_ zz24 S1 Z fun b2 w2 hb2 S2=>?_)
  have S3:Zx.St w0 (rdR g s).dom [rdR g s,blk b1 83 (cmf zCm).toArray,blk b2 24 #[Value.int .i64 0]] w2:=S2.cast (by kernel_rfl)
  have hne:b1≠b2:=fun e=>St.apart_ S3 1 2 Z Z Z b1 Z e
  refine f_ ?_
  refine hK1 _ _ ?_
  refine a_ fun K2 hK2=>?_
  refine b_ ?_
  refine L_y (dk_ Z Z) Z ?_
  refine L_deferV Z ?_
  refine f_ ?_
  refine hK2 _ _ ?_
  refine a_ fun K3 hK3=>?_
  refine b_ ?_
  refine Lm Z Z ?_
  refine L_o (cK_ Tryz.func145 Z Z (idr g s gA_ w2 (S3.get 0 Z) (by decide) (by omega)) Z Z ?_)
  rintro e4 w4 (⟨rfl,s9,T4,hno⟩ | ⟨v4,rfl,t,s1,hid,T4,rfl⟩)
  · exact .inr ⟨_,rfl,fN_ Z Z Z ((S3.turn 0 Z T4).blk 1 Z) (D_ _) ((S3.turn 0 Z T4).blk 2 Z) hne (fun w' T'=>⟨_,rfl,_,(dU_ ((S3.turn 0 Z T4).sel [0,1,2] (by decide)) T').turned1 0 Z,.inl ⟨g1 hno,rfl⟩⟩)⟩
  refine .inl ⟨_,rfl,?_⟩
  have S4:=S3.turn 0 Z T4
  have hl1:=kX_ hid
  refine L_y (g_ 0 Tryz.underlying83 Z ao_ Z Z Z) Z ?_
  refine L_o (jo_ S4 1 Z Z Z (by rw [List.size_toArray,B_];exact ao_) (by rw [List.size_toArray,B_,D_];omega) (fun u hu=>R_ _ u (by rw [List.toList_toArray] at hu;exact hu)) fun w5 S5=>?_)
  have S6:=S5.blkc 1 Z (st_tree _ _)
  refine f_ ?_
  refine hK3 _ _ ?_
  refine a_ fun K4 hK4=>?_
  refine r_ ?_
  refine gw_ [(0,_),(2,_),(3,_),(1000000,.agg #[.agg #[.int .i64 144,.agg #[],.agg #[.pointer (some ⟨b1,0,none⟩),.pointer (some ⟨b2,0,none⟩)]]])] (fun (m:Nat) (s2:List UInt8) (ps:List Oid.Id) (A:Option Addr) (n:Nat) (c:Nat)=>[(1000000,.agg #[.agg #[.int .i64 144,.agg #[],.agg #[.pointer (some ⟨b1,0,none⟩),.pointer (some ⟨b2,0,none⟩)]]])]) (fun (m:Nat) (s2:List UInt8) (ps:List Oid.Id) (A:Option Addr) (n:Nat) (c:Nat)=>m) (fun (m:Nat) (s2:List UInt8) (ps:List Oid.Id) (A:Option Addr) (n:Nat) (c:Nat) (w:World)=>(n=ps.length∧s2.length < m∧ps.length+s2.length≤100000∧cz_ (s.length+1) s1=(cz_ m s2).map fun q=>(ps++q.1,q.2))∧Zx.St w0 (rdR g s).dom [rdR g s2,blk b1 83 (cmf (⟨t,A,n,c,[],⟨#[]⟩,0,⟨#[]⟩⟩:Cm)).toArray,blk b2 24 #[Value.int .i64 0],row 41 32 A n c (ps.flatMap idf)] w) (s.length+1) s1 [] none 0 0 (Sub.dfr Z) (Sub.cons Z Z (Sub.cons Z Z (Sub.cons Z Z (Sub.dfr Z)))) ?_ ?_
  ·
    have S80:=S6.nilrow 41 32
    exact ⟨⟨rfl,by omega,by simp;omega,by cases cz_ (s.length+1) s1 <;> rfl⟩,S80⟩
  ·
    intro m s2 ps A n c w7 hrel
    obtain ⟨⟨hn,hm,hb,hps⟩,S7⟩:=hrel
    refine a_ fun K5 hK5=>?_
    refine a_ fun K6 hK6=>?_
    refine b_ ?_
    refine Lm Z Z ?_
    refine L_o (n_ Tryz.func146 Z Z (next g s2 bo_ w7 (S7.get 0 Z) (by decide)) Z Z ?_)
    rintro e8 w8 ⟨v8,rfl,T8,rfl⟩
    refine ⟨_,rfl,?_⟩
    have S8:=S7.turn 0 Z T8
    refine f_ ?_
    refine hK6 _ _ ?_
    refine o_ Z (fun h9=>?_) (fun h9=>?_)
    ·
      refine j_ ?_
      refine hK5 _ _ ?_
      refine r_ ?_
      obtain ⟨m,rfl⟩:∃ k,m=k+1:=⟨m - 1,by omega⟩
      refine dy_ [0,1,2,3,4] 5 [(0,1),(1,1),(2,1),(3,2),(4,2),(5,3),(6,3),(7,3)] aS_ (by kernel_rfl) fun w9 l9=>?_
      have S9:=S8.like l9
      refine ga_ (fun w=>Blk w b1 83 (cmf (⟨t,A,n,c,[],⟨#[]⟩,0,⟨#[]⟩⟩:Cm)).toArray) (S9.blk 1 Z) ?_
      refine Q_ Z (g_ 32 Tryz.underlying83 Z sz81 Z Z Z) Z ?_
      refine Q_ Z (eZ_ fun w hw=>t_ Tryz.underlying81 Z Z ((hw.cell _).trans (cm32 _))) Z ?_
      refine Q_ Z (p_ Z) Z ?_
      refine fF_ Z (cK_ Tryz.func145 Z Z (idr g s2 bo_ w9 (S9.get 0 Z) (by decide) (by omega)) Z Z ?_)
      rintro e10 w10 (⟨rfl,s9,T10,hno⟩ | ⟨v10,rfl,p,b4,hid4,T10,rfl⟩)
      · exact .inr ⟨_,rfl,fN_ Z Z Z ((S9.turn 0 Z T10).blk 1 Z) (D_ _) ((S9.turn 0 Z T10).blk 2 Z) hne (fun w' T'=>⟨_,rfl,_,(dU_ ((S9.turn 0 Z T10).sel [0,1,2] (by decide)) T').turned1 0 Z,.inl ⟨g2 hid (by rw [hps,hR_ h9 hno];rfl),rfl⟩⟩)⟩
      refine .inl ⟨_,rfl,?_⟩
      have S10:=S9.turn 0 Z T10
      have hl4:=kX_ hid4
      refine ⟨(S10.blk 1 Z),?_⟩
      refine fF_ Z (ah_ (idf p) te81 dK_ S10 Z Z Z (by simp [Value.cells,B_]) (by simp [Value.cells]) Z Z Z fun b11 w11 S11=>?_)
      refine ⟨(S11.blk 1 Z),?_⟩
      refine fZ_ Z (ay_ te81 S11 3 Z Z Z (by first | exact S11.row 0 Z | exact S11.row 4 Z) (fun u hu=>R_ _ u hu) Z (by omega) (by omega) fun A12 c12 w12 S12=>?_)
      have S12d:=S12.drop (rs':=[_,_,_,_]) (.cons_cons _ (.cons_cons _ (.cons_cons _ (.cons_cons _ (.cons _ (.refl _))))))
      refine dx_ Z (g_ 32 Tryz.underlying83 Z sz81 Z Z Z) Z ?_
      refine ZA_o Z (ac_ S12d 1 Z Z Z Z sz81 (by rw [D_];omega) fun w13 S13=>?_)
      have S14:=S13.blkc 1 Z (st32 _ _ _ _)
      refine cA_ ?_
      have S9:=S14.rowc 3 Z (n':=n+1) (xs':=(ps++[p]).flatMap idf) Z (by rw [List.flatMap_append];simp;rfl)
      refine ⟨m,b4,ps++[p],_,_,_,by omega,⟨⟨by rw [List.length_append,hn];rfl,by omega,by rw [List.length_append];simp only [List.length_cons,List.length_nil];omega,by rw [hps,jl_ h9 hid4,map_step]⟩,S9⟩,?_⟩
      exact (Sub.app (Sub.dfr Z) (Sub.cons Z Z (Sub.cons Z Z (Sub.cons Z Z (Sub.dfr Z)))))
    ·
      have hp2:cz_ (s.length+1) s1=some (ps,s2):=by rw [hps,hQ_ h9];simp
      refine K_ ?_
      refine hK4 _ _ ?_
      refine a_ fun K7 hK7=>?_
      refine b_ ?_
      refine Lm Z Z ?_
      refine L_o (cK_ Tryz.func147 Z Z (take g s2 dr_ w8 (S8.get 0 Z) (by decide) (by omega)) Z Z ?_)
      rintro e15 w15 (⟨rfl,T15,hno⟩ | ⟨v15,rfl,au,s3,hau,T15,rfl⟩)
      · exact .inr ⟨_,rfl,fN_ Z Z Z ((S8.turn 0 Z T15).blk 1 Z) (D_ _) ((S8.turn 0 Z T15).blk 2 Z) hne (fun w' T'=>⟨_,rfl,_,(dU_ ((S8.turn 0 Z T15).sel [0,1,2] (by decide)) T').turned1 0 Z,.inl ⟨g3 hid hp2 hno,rfl⟩⟩)⟩
      refine .inl ⟨_,rfl,?_⟩
      have S15:=S8.turn 0 Z T15
      have hl5:=jz_ hau
      refine L_y (g_ 33 Tryz.underlying83 Z sz9 Z Z Z) Z ?_
      refine L_o (ac_ S15 1 Z Z Z Z sz9 (by rw [D_];omega) fun w16 S16=>?_)
      have S17:=S16.blkc 1 Z (st33 _ _)
      refine f_ ?_
      refine hK7 _ _ ?_
      refine a_ fun K8 hK8=>?_
      refine b_ ?_
      refine Lm Z Z ?_
      refine L_o (cK_ Tryz.func148 Z Z (numb g s3 dF_ w16 (S17.get 0 Z) (by decide) (by omega)) Z Z ?_)
      rintro e18 w18 (⟨rfl,s9,T18,hno⟩ | ⟨v18,rfl,tm,s4,htm,T18,rfl⟩)
      · exact .inr ⟨_,rfl,fN_ Z Z Z ((S17.turn 0 Z T18).blk 1 Z) (D_ _) ((S17.turn 0 Z T18).blk 2 Z) hne (fun w' T'=>⟨_,rfl,_,(dU_ ((S17.turn 0 Z T18).sel [0,1,2] (by decide)) T').turned1 0 Z,.inl ⟨g4 hid hp2 hau hno,rfl⟩⟩)⟩
      refine .inl ⟨_,rfl,?_⟩
      have S18:=S17.turn 0 Z T18
      have hl6:=(hT_ htm).1
      refine L_y (g_ 34 Tryz.underlying83 Z sz3 Z Z Z) Z ?_
      refine L_o (ac_ S18 1 Z Z Z Z sz3 (by rw [D_];omega) fun w19 S19=>?_)
      have S20:=S19.blkc 1 Z (st34 _ _)
      refine f_ ?_
      refine hK8 _ _ ?_
      refine a_ fun K9 hK9=>?_
      refine b_ ?_
      refine Lm Z Z ?_
      refine L_o (cK_ Tryz.func149 Z Z (text_ g s4 w19 (S20.get 0 Z)) Z Z ?_)
      rintro e21 w21 (⟨rfl,T21,hno⟩ | ⟨v21,rfl,tx,htx,T21,rfl⟩)
      · exact .inr ⟨_,rfl,fN_ Z Z Z ((S20.turn 0 Z T21).blk 1 Z) (D_ _) ((S20.turn 0 Z T21).blk 2 Z) hne (fun w' T'=>⟨_,rfl,_,(dU_ ((S20.turn 0 Z T21).sel [0,1,2] (by decide)) T').turned1 0 Z,.inl ⟨g5 hid hp2 hau htm hno,rfl⟩⟩)⟩
      refine .inl ⟨_,rfl,?_⟩
      have S21:=S20.turn 0 Z T21
      refine L_y (g_ 35 Tryz.underlying83 Z sz9 Z Z Z) Z ?_
      refine L_o (ac_ S21 1 Z Z Z Z sz9 (by rw [D_];omega) fun w22 S22=>?_)
      have S23:=S22.blkc 1 Z (st35 _ _)
      refine f_ ?_
      refine hK9 _ _ ?_
      refine a_ fun K10 hK10=>?_
      refine b_ ?_
      refine L_y (Y_ Tryz.underlying83 Z bg_ Z (S23.blk 1 Z) (dd_ _)) Z ?_
      refine L_o (G_ S23 1 Z Z Z (by rw [D_];exact bg_) (by rw [D_]) (fun u hu=>aY_ _ u (by rw [List.toList_toArray] at hu;exact hu)) fun w24 S24=>?_)
      refine L_o (ac_ S24 2 Z Z Z Z dm_ (by simp;done) fun w25 S25=>?_)
      refine f_ ?_
      refine hK10 _ _ ?_
      refine l_ ?_
      refine ur ?_
      refine read_ret Z Z Z (S25.blk 1 Z) (D_ _) (S25.blk 2 Z) ?_
      intro w' l'
      exact ⟨_,rfl,_,(S25.like l').turned1 0 Z,.inr ⟨⟨t,ps,au,tm,tx⟩,A,n,c,g6 hid hp2 hau htm htx,hn,Fr.of_own (St.ownM (S25.like l') 0 3 Z Z (fun i h=>h) Z),rfl⟩⟩
end Rev
namespace Rev
open Go.RowKit Zk Zx
open Oid (idf hexL B_ aN_)
open Tre (aw_)
def zL:CmL:=⟨⟨List.replicate 32 0,rfl⟩,[],[],0,[]⟩
def cmO (y:CmL):Cm:=cmOf y none y.ps.length 0
def ff_ (s:List UInt8):CmL:=(dp_ s).getD zL
def fO_ (s:List UInt8):Int:=if (dp_ s).isSome then 0 else 12
theorem zL_cm:cmOf zL none 0 0=zCm:=by kernel_rfl
theorem hY_ (w0 w:World) (size:Nat):Fr w0 w size none 0 0 []:=⟨Rs.nil w size,fun ad h=>absurd h (by omega)⟩
theorem St.newF {w0 w w':World} {M:Nat→Prop} {rs:List Res} (S:Zx.St w0 M rs w) (k:Nat) {r r':Res} (hk:rs[k]?=some r) (h:Turned w w' r r') (hdom:∀ i,r'.dom i→r.dom i) {size n c:Nat} {A:Option Addr} {xs:List Value} (hf:Fr w w' size A n c xs):Zx.St w0 M (rs.set k r'++[fixed size A n c xs]) w' :=
  St.newT S k hk h hdom hf.1 fun i ⟨ad,hn,hA,hi⟩=>by
    subst hi
    obtain ⟨ad',hA',hb,_⟩:=hf.1.rd.2 hn
    rw [hA] at hA'
    cases hA'
    exact ⟨hf.2 ad hn hA,hb⟩
def gF_ (s:List UInt8):Int:=match dp_ s with
  | none=>12
  | some y=>chk (cmO y)
def ea_ (s:List UInt8):CmL:=match dp_ s with
  | none=>zL
  | some y=>if chk (cmO y)=0 then y else zL
theorem readr' (g:Nat) (s:List UInt8) (w0:World) (hw:(rdR g s).holds w0) (hl:s.length≤100000) :
    Calls Tryz.prog 108 #[.pointer (some ⟨g,0,none⟩)] w0 fun e w'=>∃ u,e=.returned u∧∃ s' A c,Turned w0 w' (rdR g s) (rdR g s')∧Fr w0 w' 32 A (ff_ s).ps.length c ((ff_ s).ps.flatMap idf)∧u=.tuple #[.agg (cmf (cmOf (ff_ s) A (ff_ s).ps.length c)).toArray,.int .i64 (fO_ s)] :=
  (readr g s w0 hw hl).mono fun e w' ⟨u,he,s',T,h⟩=>⟨u,he,by
    rcases h with ⟨h1,h2⟩ | ⟨y,A,n,c,h1,h2,h3,h4⟩
    · refine ⟨s',none,0,T,?_⟩
      rw [show ff_ s=zL by rw [ff_,h1];rfl,show fO_ s=12 by rw [fO_,h1];rfl]
      exact ⟨hY_ _ _ _,by rw [h2];exact congrArg (fun x=>Value.tuple #[.agg (cmf x).toArray,.int .i64 12]) zL_cm.symm⟩
    · refine ⟨s',A,c,T,?_⟩
      rw [show ff_ s=y by rw [ff_,h1];rfl,show fO_ s=0 by rw [fO_,h1];rfl]
      subst h2
      exact ⟨h3,h4⟩⟩
theorem rcode_0 {s:List UInt8} (h:fO_ s=0):dp_ s=some (ff_ s):=by
  unfold fO_ at h
  unfold ff_
  cases e:dp_ s with
  | none=>rw [e] at h;cases h
  | some y=>rfl
theorem rcode_n {s:List UInt8} (h:¬ fO_ s=0):dp_ s=none∧fO_ s=12:=by
  unfold fO_ at h ⊢
  cases e:dp_ s with
  | none=>exact ⟨rfl,rfl⟩
  | some y=>rw [e] at h;exact absurd Z h
theorem gs_ {s:List UInt8} {y:CmL} (h:dp_ s=some y):gF_ s=chk (cmO y)∧ea_ s=if chk (cmO y)=0 then y else zL:=by unfold gF_ ea_;rw [h];exact ⟨rfl,rfl⟩
theorem go_none {s:List UInt8} (h:dp_ s=none):gF_ s=12∧ea_ s=zL:=by unfold gF_ ea_;rw [h];exact ⟨rfl,rfl⟩
end Rev
namespace Rev
open Go.RowKit Zk Zx
open Oid (idf hexL B_ aN_)
open Tre (aw_)
def lineV (w s:List UInt8):Value:=match bs_ w s with
  | none=>.tuple #[.string ⟨#[]⟩,.string ⟨#[]⟩,.bool false]
  | some (a,b)=>.tuple #[.string ⟨a.toArray⟩,.string ⟨b.toArray⟩,.bool true]
theorem eN_ {w s:List UInt8} (h:bs_ w s=none):lineV w s=.tuple #[.string ⟨#[]⟩,.string ⟨#[]⟩,.bool false]:=by unfold lineV;rw [h]
theorem kk_ {w s a b:List UInt8} (h:bs_ w s=some (a,b)):lineV w s=.tuple #[.string ⟨a.toArray⟩,.string ⟨b.toArray⟩,.bool true]:=by unfold lineV;rw [h]
theorem take_no {c:UInt8} {s:List UInt8} {k:Nat} (hk:k < s.length) (h:c ∉ s.take k) (hn:g8 s k≠(c.toNat:Int)):c ∉ s.take (k+1):=by
  have e:g8 s k=((s[k]).toNat:Int):=by simp [g8,List.getD_eq_getElem?_getD,List.getElem?_eq_getElem hk]
  rw [List.take_add_one,List.getElem?_eq_getElem hk]
  intro hm
  rcases List.mem_append.1 hm with hm | hm
  · exact h hm
  · have:c=s[k]:=by simpa using hm
    exact hn (by rw [e, ← this])
theorem ia_ {c:UInt8} {s:List UInt8} {k:Nat} (hk:k < s.length) (h:c ∉ s.take k) (hn:g8 s k=(c.toNat:Int)):aT_ c s=some (s.take k,s.drop (k+1)):=by
  have e:g8 s k=((s[k]).toNat:Int):=by simp [g8,List.getD_eq_getElem?_getD,List.getElem?_eq_getElem hk]
  have e2:s[k]=c:=UInt8.toNat_inj.1 (by omega)
  have e3:s=s.take k++c::s.drop (k+1):=by rw [← e2,List.getElem_cons_drop,List.take_append_drop]
  have:=lh_ (b:=s.drop (k+1)) h
  rw [← e3] at this
  exact this
theorem gC_ (s w:List UInt8) (w0:World) (hl:s.length≤100000) (hwl:w.length≤10) :
    Calls Tryz.prog 78 #[.string ⟨s.toArray⟩,.string ⟨w.toArray⟩] w0 fun e w'=>∃ u,e=.returned u∧Like w0 w'∧u=lineV w s:=by
 refine v_ (env:=[(0,.string ⟨s.toArray⟩),(1,.string ⟨w.toArray⟩)]) [.string ⟨s.toArray⟩,.string ⟨w.toArray⟩] Tryz.func78 Z Tryz.ntmps78 Z Z ?_;have hbs:=bsz s;have hbw:=bsz w;have S0:=St.start w0 noM;refine a_ fun K1 hK1=>b_ (La Z Z (La Z Z (Lan Z Z (hK1 _ _ (a_ fun K2 hK2=>b_ (Lan Z Z (hK2 _ _ (a_ fun K3 hK3=>r_ ?_))))))));refine an_ [(0,_),(1,_)] (fun (k:Nat)=>[(7,.int .i64 (k:Int))]) (fun (k:Nat)=>s.length - k) (fun (k:Nat) (w:World)=>(k≤s.length∧(10:UInt8) ∉ s.take k)∧St w0 noM [] w) 0 (Sc Z (Sub.nil _)) (Sub.cons Z Z (Sub.cons Z Z (Sub.nil _))) ?_ ?_
 ·
  exact ⟨⟨by omega,by simp⟩,S0⟩
 ·
  intro k w1 hrel;obtain ⟨⟨hk,hall⟩,S1⟩:=hrel;refine a_ fun K4 hK4=>a_ fun K5 hK5=>Rm Z Z (Lm Z Z (L_y (av_ Tryz.underlying9 Z) Z (L_y (L_ Z Z) Z (Lm Z Z ?_))));refine y_ 12 Z (fun h12=>?_) (fun h12=>?_)
  ·
   refine d_ Z Z (Lm Z Z (d_ Z Z (Lm Z Z (d_ Z Z (L_y (bz_ Tryz.underlying9 Z Z inferInstance (by omega)) Z (d_ Z Z (L_y (ab_ Z Z) Z (Lp Z Z Z (f_ (hK5 _ _ ?_))))))))));refine o_ Z (fun h17=>?_) (fun h17=>?_)
   ·
    refine j_ (hK4 _ _ (r_ (Rm Z Z (L_y (w_ Z Z (z_ (by omega))) Z (Lan Z Z (⟨k+1,by omega,⟨⟨by omega,take_no (by omega) hall (fun e=>absurd e (by first | assumption | exact fun e=>by simp_all))⟩,S1⟩,?_⟩))))));exact (Sc Z (Sub.cons Z Z (Sub.cons Z Z (Sub.nil _))))
   ·
    refine K_ (hK3 _ _ (a_ fun K6 hK6=>a_ fun K7 hK7=>Rm Z Z (Lm Z Z (L_y (av_ Tryz.underlying9 Z) Z (L_y (am_ Z Z) Z (Lm Z Z ?_))))));refine y_ 24 Z (fun h24=>?_) (fun h24=>?_)
    ·
     refine h_ Z Z Z (h_ Z Z Z (h_ Z Z Z (h_ Z Z Z (h_ Z Z Z (Lp Z Z Z (Lm Z Z (h_ Z Z Z (h_ Z Z Z (h_ Z Z Z (h_ Z Z Z (h_ Z Z Z (h_ Z Z Z (h_ Z Z Z ?_)))))))))))));refine h_ Z Z Z (Lp Z Z Z (f_ (hK7 _ _ (W_ Z (a_ fun K8 hK8=>b_ (La Z Z (La Z Z (Lan Z Z (hK8 _ _ (l_ (ur ?_)))))))))));refine cN_ Z Z Z Z ?_;have hc:=ia_ (c:=10) (s:=s) (k:=k) (by omega) hall (Classical.byContradiction fun e=>h17 e);first | exact absurd h24 (by omega) | exact ⟨_,rfl,S1.like0,(eN_ (db_ hc (fun h=>by have h9:=h.2;rw [List.length_take] at h9;omega))).symm⟩
    ·
     refine d_ Z Z (Lm Z Z (d_ Z Z (Lm Z Z (d_ Z Z (L_y (av_ Tryz.underlying9 Z) Z (d_ Z Z (L_y (w_ Z Z (z_ (by omega))) Z (d_ Z Z (L_y (L_ Z Z) Z (Lp Z Z Z (Lm Z Z ?_)))))))))));refine y_ 31 Z (fun h31=>?_) (fun h31=>?_)
     ·
      refine h_ Z Z Z (h_ Z Z Z (h_ Z Z Z (h_ Z Z Z (h_ Z Z Z (h_ Z Z Z (h_ Z Z Z (h_ Z Z Z (Lp Z Z Z (f_ (hK7 _ _ (W_ Z (a_ fun K9 hK9=>b_ ?_))))))))))));refine La Z Z (La Z Z (Lan Z Z (hK9 _ _ (l_ (ur (cN_ Z Z Z Z ?_))))));have hc:=ia_ (c:=10) (s:=s) (k:=k) (by omega) hall (Classical.byContradiction fun e=>h17 e);first | exact absurd h24 (by omega) | exact ⟨_,rfl,S1.like0,(eN_ (db_ hc (fun h=>by have h9:=h.2;rw [List.length_take] at h9;omega))).symm⟩
     ·
      refine d_ Z Z (Lm Z Z (d_ Z Z (Lm Z Z (d_ Z Z (L_y (av_ Tryz.underlying9 Z) Z (d_ Z Z (L_y (w_ Z Z (z_ (by omega))) Z (d_ Z Z (L_y (eI_ (u:=w.length+1) Tryz.underlying9 Z Z (Nt.mk (by omega)) (by omega)) Z (d_ Z Z (Lm Z Z (d_ Z Z (L_y (fz_ Z Z (by rw [bsz,bsz32];omega)) Z ?_)))))))))))));rw [cat32];refine d_ Z Z (L_y (hF_ Z Z) Z (Lp Z Z Z (f_ (hK7 _ _ ?_))));refine o_ Z (fun h40=>?_) (fun h40=>?_)
      ·
       refine a_ fun K10 hK10=>b_ (La Z Z (La Z Z (Lan Z Z (hK10 _ _ (l_ (ur (cN_ Z Z Z Z ?_)))))));have hc:=ia_ (c:=10) (s:=s) (k:=k) (by omega) hall (Classical.byContradiction fun e=>h17 e);exact ⟨_,rfl,S1.like0,(eN_ (db_ hc (fun h=>h40 (by have h9:=(hk_ s (w++[32])).2 h.1;rw [List.length_append] at h9;exact h9)))).symm⟩
      ·
       refine j_ (hK6 _ _ (a_ fun K11 hK11=>ak_ [(0,true),(1,true),(2,true),(3,true),(4,true),(5,true),(6,true),(7,true),(8,true),(9,true),(10,true),(11,true),(12,true)] aS_ (by kernel_rfl) fun w5 l5=>have S5:=S1.like l5;u_ Z (p_ Z) Z (u_ Z (p_ Z) Z (u_ Z (av_ Tryz.underlying9 Z) Z (u_ Z (w_ Z Z (z_ (by omega))) Z (u_ Z (p_ Z) Z (u_ Z (iO_ (l:=w.length+1) (u:=k) Tryz.underlying9 Z Z Z (Nt.mk (by omega)) (Nt.mk (by omega)) (by omega) (by omega)) Z (u_ Z (p_ Z) Z (u_ Z (p_ Z) Z (u_ Z (w_ Z Z (z_ (by omega))) Z ?_))))))))));refine u_ Z (cQ_ (l:=k+1) Tryz.underlying9 Z Z (Nt.mk (by omega)) (by omega)) Z (u_ Z (J_ Z) Z (u_ Z (J_ Z) Z (u_ Z (J_ Z) Z (aH_ (hK11 _ _ (l_ (ur (cN_ Z Z Z Z ?_))))))));have hc:=ia_ (c:=10) (s:=s) (k:=k) (by omega) hall (Classical.byContradiction fun e=>h17 e);have hp:cG_ s (w++[32]):=(hk_ s (w++[32])).1 (by rw [List.length_append];exact Classical.byContradiction fun e=>h40 e);refine ⟨_,rfl,S5.like0,?_⟩;rw [kk_ (kl_ hc ⟨hp,by rw [List.length_take];omega⟩),ext_list,eS_,List.drop_take]
  ·
   refine h_ Z Z Z (h_ Z Z Z (h_ Z Z Z (h_ Z Z Z (Lp Z Z Z (f_ (hK5 _ _ (aW_ Z (K_ (hK3 _ _ (a_ fun K12 hK12=>a_ fun K13 hK13=>Rm Z Z ?_))))))))));refine Lm Z Z (L_y (av_ Tryz.underlying9 Z) Z (L_y (am_ Z Z) Z (Lm Z Z ?_)));refine y_ 24 Z (fun h24=>?_) (fun h24=>?_)
   ·
    refine h_ Z Z Z (h_ Z Z Z (h_ Z Z Z (h_ Z Z Z (h_ Z Z Z (Lp Z Z Z (Lm Z Z (h_ Z Z Z (h_ Z Z Z (h_ Z Z Z (h_ Z Z Z (h_ Z Z Z (h_ Z Z Z (h_ Z Z Z ?_)))))))))))));refine h_ Z Z Z (Lp Z Z Z (f_ (hK13 _ _ (W_ Z (a_ fun K14 hK14=>b_ (La Z Z (La Z Z (Lan Z Z (hK14 _ _ (l_ (ur ?_)))))))))));refine cN_ Z Z Z Z ?_;have hke:k=s.length:=by omega
    rw [hke,List.take_length] at hall;first | exact ⟨_,rfl,S1.like0,(eN_ (eO_ (li_ hall))).symm⟩
   ·
    refine d_ Z Z (Lm Z Z (d_ Z Z (Lm Z Z (d_ Z Z (L_y (av_ Tryz.underlying9 Z) Z (d_ Z Z (L_y (w_ Z Z (z_ (by omega))) Z (d_ Z Z (L_y (L_ Z Z) Z (Lp Z Z Z (Lm Z Z ?_)))))))))));refine y_ 31 Z (fun h31=>?_) (fun h31=>?_)
    ·
     refine h_ Z Z Z (h_ Z Z Z (h_ Z Z Z (h_ Z Z Z (h_ Z Z Z (h_ Z Z Z (h_ Z Z Z (h_ Z Z Z (Lp Z Z Z (f_ (hK13 _ _ (W_ Z (a_ fun K15 hK15=>b_ ?_))))))))))));refine La Z Z (La Z Z (Lan Z Z (hK15 _ _ (l_ (ur (cN_ Z Z Z Z ?_))))));have hke:k=s.length:=by omega
     rw [hke,List.take_length] at hall;first | exact ⟨_,rfl,S1.like0,(eN_ (eO_ (li_ hall))).symm⟩
    ·
     refine d_ Z Z (Lm Z Z (d_ Z Z (Lm Z Z (d_ Z Z (L_y (av_ Tryz.underlying9 Z) Z (d_ Z Z (L_y (w_ Z Z (z_ (by omega))) Z (d_ Z Z (L_y (eI_ (u:=w.length+1) Tryz.underlying9 Z Z (Nt.mk (by omega)) (by omega)) Z (d_ Z Z (Lm Z Z (d_ Z Z (L_y (fz_ Z Z (by rw [bsz,bsz32];omega)) Z ?_)))))))))))));rw [cat32];refine d_ Z Z (L_y (hF_ Z Z) Z (Lp Z Z Z (f_ (hK13 _ _ ?_))));refine o_ Z (fun h40=>?_) (fun h40=>?_)
     ·
      refine a_ fun K16 hK16=>b_ (La Z Z (La Z Z (Lan Z Z (hK16 _ _ (l_ (ur (cN_ Z Z Z Z ?_)))))));exact absurd (show (k:Int)=_ by omega) h24
     ·
      refine j_ (hK12 _ _ (a_ fun K17 hK17=>ak_ [(0,true),(1,true),(2,true),(3,true),(4,true),(5,true),(6,true),(7,true),(8,true),(9,true),(10,true),(11,true),(12,true)] aS_ (by kernel_rfl) fun w8 l8=>have S8:=S1.like l8;u_ Z (p_ Z) Z (u_ Z (p_ Z) Z (u_ Z (av_ Tryz.underlying9 Z) Z (u_ Z (w_ Z Z (z_ (by omega))) Z (u_ Z (p_ Z) Z (u_ Z (iO_ (l:=w.length+1) (u:=k) Tryz.underlying9 Z Z Z (Nt.mk (by omega)) (Nt.mk (by omega)) (by omega) (by omega)) Z (u_ Z (p_ Z) Z (u_ Z (p_ Z) Z (u_ Z (w_ Z Z (z_ (by omega))) Z ?_))))))))));refine u_ Z (cQ_ (l:=k+1) Tryz.underlying9 Z Z (Nt.mk (by omega)) (by omega)) Z (u_ Z (J_ Z) Z (u_ Z (J_ Z) Z (u_ Z (J_ Z) Z (aH_ (hK17 _ _ (l_ (ur (cN_ Z Z Z Z ?_))))))));exact absurd (show (k:Int)=_ by omega) h24
end Rev
namespace Rev
open Go.RowKit Zk Zx
open Oid (idf hexL B_ aN_)
open Tre (aw_)
theorem dt_ (w s:List UInt8):∃ a b f,lineV w s=.tuple #[.string ⟨a.toArray⟩,.string ⟨b.toArray⟩,.bool f]∧(f=true→bs_ w s=some (a,b))∧(f=false→bs_ w s=none)∧b.length≤s.length∧(f=true→b.length < s.length):=by
  cases h:bs_ w s with
  | none=>exact ⟨[],[],false,eN_ h,(fun e=>by cases e),fun _=>rfl,Nat.zero_le _,(fun e=>by cases e)⟩
  | some p =>
    have:=dQ_ (a:=p.1) (b:=p.2) h
    exact ⟨p.1,p.2,true,kk_ h,fun _=>rfl,(fun e=>by cases e),by omega,fun _=>by omega⟩
theorem rreadN (a:List UInt8) (w:World):Calls Tryz.prog 79 #[.string ⟨a.toArray⟩] w fun e w'=>∃ u,e=.returned u∧Like w w'∧∃ t:Oid.Id,t=⟨(aN_ a).1,Oid.bh_ a⟩∧u=.tuple #[.agg (idf t).toArray,.int .i64 (aN_ a).2]:=(Oid.rread_any ⟨a.toArray⟩ w).mono fun e w' ⟨h1,h2⟩=>⟨_,h1,h2,_,rfl,rfl⟩
theorem hX_ {w s a b:List UInt8} {f:Bool} (h1:f=true→bs_ w s=some (a,b)) (h0:f=false→bs_ w s=none) (h:f=false∨(aN_ a).2≠0):idR w s=none:=by
  cases f with
  | false=>unfold idR;rw [h0 Z]
  | true=>unfold idR;rw [h1 Z];exact if_neg (h.resolve_left (fun e=>by cases e))
theorem kW_ {w s a b:List UInt8} {f:Bool} {t:Oid.Id} (ht:t=⟨(aN_ a).1,Oid.bh_ a⟩) (h1:f=true→bs_ w s=some (a,b)) (hf:f=true) (h:(aN_ a).2=0):idR w s=some (t,b):=by
  subst ht
  unfold idR;rw [h1 hf];exact if_pos h
theorem aq_ {w s a b:List UInt8} {f:Bool} (h1:f=true→bs_ w s=some (a,b)) (h0:f=false→bs_ w s=none) (h:f=false∨dJ_ a=false):ce_ w s=none:=by
  cases f with
  | false=>unfold ce_;rw [h0 Z]
  | true=>unfold ce_;rw [h1 Z];simp [h.resolve_left (fun e=>by cases e)]
theorem aR_ {w s a b:List UInt8} {f:Bool} (h1:f=true→bs_ w s=some (a,b)) (hf:f=true) (h:dJ_ a=true):ce_ w s=some (bl_ a,b):=by
  unfold ce_;rw [h1 hf];simp [h]
theorem pre1 (s:List UInt8):cG_ s [10]↔(0 < s.length∧g8 s 0=10):=by
  unfold cG_ g8
  cases s with
  | nil=>simp
  | cons x r =>
    show ([x]:List UInt8)=[10]↔(0 < r.length+1∧((x.toNat:Int)=10))
    constructor
    · intro h
      have hx:x=10:=by simpa using h
      exact ⟨by omega,by rw [hx];rfl⟩
    · intro h
      have hx:x=10:=UInt8.toNat_inj.1 (by have h2:=h.2;have:(10:UInt8).toNat=10:=rfl;omega)
      rw [hx]
theorem aJ_ {w0 w:World} {s:List UInt8} (l:Like w0 w) (h:dp_ s=none):∃ u,Ending.returned (.tuple #[.agg (cmf zCm).toArray,.int .i64 12])=.returned u∧Like w0 w∧∃ A c,Fr w0 w 32 A (ea_ s).ps.length c ((ea_ s).ps.flatMap idf)∧u=.tuple #[.agg (cmf (cmOf (ea_ s) A (ea_ s).ps.length c)).toArray,.int .i64 (gF_ s)]:=by
  have hgo:=go_none h
  rw [hgo.1,hgo.2]
  exact ⟨_,rfl,l,none,0,hY_ _ _ _,congrArg (fun x=>Value.tuple #[.agg (cmf x).toArray,_]) zL_cm.symm⟩
theorem cI_ {s:List UInt8} (h:g8 s 0≠10):dG_ s=none:=by unfold dG_;exact if_neg fun hp=>h ((pre1 s).1 hp).2
theorem cJ_ {s:List UInt8} (h:(⟨s.toArray⟩:ByteArray)=⟨#[]⟩):dG_ s=none:=by
  have hz:s=[]:=by simpa using congrArg (fun b:ByteArray=>b.data.toList) h
  rw [hz]
  rfl
theorem par7 {s:List UInt8} (h:cG_ s (bo_++[32])):7≤s.length:=by
  have h8:=congrArg List.length (show s.take 7=bo_++[32] from h)
  rw [List.length_take] at h8
  have h7:(bo_++[32]).length=7:=rfl
  omega
theorem kK_ (s:List UInt8):((⟨s.toArray⟩:ByteArray).extract 0 7=⟨#[112,97,114,101,110,116,32]⟩)↔cG_ s (bo_++[32]):=by
  have h:=hk_ s (bo_++[32])
  have e1:(bo_++[32]).length=7:=rfl
  have e2:(bo_++[32]).toArray = #[112,97,114,101,110,116,32]:=rfl
  rw [e1,e2] at h
  exact h
end Rev
namespace Rev
open Go.RowKit Zk Zx
open Oid (idf hexL B_ aN_)
open Tre (aw_)
end Rev
namespace Rev
open Go.RowKit Zk Zx
open Oid (idf hexL B_ aN_)
open Tre (aw_)
end Rev
namespace Rev
open Go.RowKit Zk Zx
open Oid (idf hexL B_ aN_ read_hex)
open Tre (aw_)
end Rev
namespace Rev
open Go.RowKit Zk Zx
open Oid (idf hexL B_ aN_)
open Tre (aw_)
end Rev
namespace Rev
open Go.RowKit Zk Zx
open Oid (idf hexL ris gM_ B_ cU_)
open Tre (aw_)
theorem kS_ (x:Mk):(mkf x).length=36:=by simp [mkf,B_]
theorem M_ (x:Mk):(mkf x).toArray.size=36:=by rw [List.size_toArray,kS_]
theorem bH_ (x:Mk):∀ u ∈ mkf x,u.oneCell'=true:=fun u hu=>by
  rcases List.mem_append.1 hu with h | h
  · exact R_ _ u h
  · simp at h
    rcases h with rfl | rfl | rfl | rfl <;> rfl
theorem mk_at (x:Mk) (k:Nat):(mkf x).toArray[32+k]?=[Value.int .i64 x.kd,.string x.nm,.int .i64 x.tm,.string x.tx][k]?:=by
  rw [List.getElem?_toArray,mkf,List.getElem?_append_right (by rw [B_];omega),B_]
  congr 1
  omega
theorem mk32 (x:Mk):(mkf x).toArray[32]?=some (.int .i64 x.kd):=mk_at x 0
theorem mk33 (x:Mk):(mkf x).toArray[33]?=some (.string x.nm):=mk_at x 1
theorem mk34 (x:Mk):(mkf x).toArray[34]?=some (.int .i64 x.tm):=mk_at x 2
theorem mk35 (x:Mk):(mkf x).toArray[35]?=some (.string x.tx):=mk_at x 3
theorem dW_ (x:Mk):((mkf x).toArray.toList.drop 0).take 36=mkf x∧(mkf x).length=36:=⟨by rw [List.drop_zero];exact List.take_of_length_le (by have:=kS_ x;simp only [] at this ⊢;omega),kS_ x⟩
def ee_ (x:Mk):Int:=if 400 < x.tx.size then 3 else if x.kd < 1∨4 < x.kd then 19 else if aw_ x.nm=false then 15 else if x.tm < 0∨1099511627776 < x.tm then 2 else 0
def cX_:List UInt8:=[111,98,106,101,99,116]
def gB_:List UInt8:=[107,105,110,100]
def ig_:List UInt8:=[110,97,109,101]
theorem checkM (x:Mk) (w0:World)  :
    Calls Tryz.prog 111 #[.agg (mkf x).toArray] w0 fun e w'=>∃ u,e=.returned u∧Like w0 w'∧u=.int .i64 (ee_ x):=by
 refine v_ (env:=[(0,.agg (mkf x).toArray)]) [.agg (mkf x).toArray] Tryz.func111 Z Tryz.ntmps111 Z Z ?_;have S0:=St.start w0 noM;refine a_ fun K1 hK1=>b_ (L_o (bO_ Z S0 Z fun b1 w1 hb1 S1=>Lan Z Z (hK1 _ _ (a_ fun K2 hK2=>r_ (a_ fun K3 hK3=>b_ (L_y (g_ 35 Tryz.underlying87 Z sz9 Z Z Z) Z (L_y (t_ Tryz.underlying9 Z Z (((S1.blk 0 Z).cell _).trans (mk35 x))) Z (L_y (av_ Tryz.underlying9 Z) Z (L_y (Z_ Z Z) Z ?_)))))))));refine Lan Z Z (hK3 _ _ ?_);refine o_ Z (fun h3=>?_) (fun h3=>?_)
 ·
  refine a_ fun K4 hK4=>b_ (Lan Z Z (hK4 _ _ (l_ (ur (F_ Z Z ?_)))));exact ⟨_,rfl,S1.like0,by unfold ee_;first | rw [if_pos (by omega)] | rw [if_neg (by omega),if_pos (by omega)] | rw [if_neg (by omega),if_neg (by omega),if_pos hnm] | rw [if_neg (by omega),if_neg (by omega),if_neg hnm,if_pos htm] | rw [if_neg (by omega),if_neg (by omega),if_neg hnm,if_neg htm]⟩
 ·
  refine a_ fun K5 hK5=>b_ (L_y (g_ 32 Tryz.underlying87 Z sz3 Z Z Z) Z (L_y (t_ Tryz.underlying3 Z Z (((S1.blk 0 Z).cell _).trans (mk32 x))) Z (L_y (L_ Z Z) Z (Lm Z Z ?_))));refine y_ 12 Z (fun h12=>?_) (fun h12=>?_)
  ·
   refine h_ Z Z Z (h_ Z Z Z (h_ Z Z Z (Lp Z Z Z (Lan Z Z (hK5 _ _ (W_ Z (a_ fun K6 hK6=>b_ (Lan Z Z (hK6 _ _ (l_ ?_))))))))));refine ur (F_ Z Z ?_);exact ⟨_,rfl,S1.like0,by unfold ee_;first | rw [if_pos (by omega)] | rw [if_neg (by omega),if_pos (by omega)] | rw [if_neg (by omega),if_neg (by omega),if_pos hnm] | rw [if_neg (by omega),if_neg (by omega),if_neg hnm,if_pos htm] | rw [if_neg (by omega),if_neg (by omega),if_neg hnm,if_neg htm]⟩
  ·
   refine d_ Z Z (L_y (g_ 32 Tryz.underlying87 Z sz3 Z Z Z) Z (d_ Z Z (L_y (t_ Tryz.underlying3 Z Z (((S1.blk 0 Z).cell _).trans (mk32 x))) Z (d_ Z Z (L_y (Z_ Z Z) Z (Lp Z Z Z (Lan Z Z (hK5 _ _ ?_))))))));refine o_ Z (fun h8=>?_) (fun h8=>?_)
   ·
    refine a_ fun K7 hK7=>b_ (Lan Z Z (hK7 _ _ (l_ (ur (F_ Z Z ?_)))));exact ⟨_,rfl,S1.like0,by unfold ee_;first | rw [if_pos (by omega)] | rw [if_neg (by omega),if_pos (by omega)] | rw [if_neg (by omega),if_neg (by omega),if_pos hnm] | rw [if_neg (by omega),if_neg (by omega),if_neg hnm,if_pos htm] | rw [if_neg (by omega),if_neg (by omega),if_neg hnm,if_neg htm]⟩
   ·
    refine a_ fun K8 hK8=>b_ (L_y (g_ 33 Tryz.underlying87 Z sz9 Z Z Z) Z (L_y (t_ Tryz.underlying9 Z Z (((S1.blk 0 Z).cell _).trans (mk33 x))) Z (L_o (n_ Tryz.func142 Z Z (Tre.pname x.nm w1) Z Z ?_))));rintro e3 w3 ⟨v3,rfl,l3,rfl⟩;refine ⟨_,rfl,(have S3:=S1.like l3;L_y ((by first | exact aA_ Z | exact aZ_ Z)) Z ?_)⟩;refine Lan Z Z (hK8 _ _ ?_);refine aD_ Z (fun h17=>?_) (fun h17=>?_)
    ·
     have hnm:aw_ x.nm=false:=by simpa using h17
     refine a_ fun K9 hK9=>b_ (Lan Z Z (hK9 _ _ (l_ (ur (F_ Z Z ?_)))));exact ⟨_,rfl,S3.like0,by unfold ee_;first | rw [if_pos (by omega)] | rw [if_neg (by omega),if_pos (by omega)] | rw [if_neg (by omega),if_neg (by omega),if_pos hnm] | rw [if_neg (by omega),if_neg (by omega),if_neg hnm,if_pos htm] | rw [if_neg (by omega),if_neg (by omega),if_neg hnm,if_neg htm]⟩
    ·
     have hnm:¬ aw_ x.nm=false:=by simpa using h17
     refine a_ fun K10 hK10=>b_ (L_y (g_ 34 Tryz.underlying87 Z sz3 Z Z Z) Z (L_y (t_ Tryz.underlying3 Z Z (((S3.blk 0 Z).cell _).trans (mk34 x))) Z (L_o (n_ Tryz.func151 Z Z (time_ x.tm w3) Z Z ?_))));rintro e4 w4 ⟨v4,rfl,l4,rfl⟩;refine ⟨_,rfl,(have S4:=S3.like l4;L_y ((by first | exact aA_ Z | exact aZ_ Z)) Z ?_)⟩;refine Lan Z Z (hK10 _ _ ?_);refine aD_ Z (fun h22=>?_) (fun h22=>?_)
     ·
      have htm:x.tm < 0∨1099511627776 < x.tm:=by simpa using h22
      refine a_ fun K11 hK11=>b_ (Lan Z Z (hK11 _ _ (l_ (ur (F_ Z Z ?_)))));exact ⟨_,rfl,S4.like0,by unfold ee_;first | rw [if_pos (by omega)] | rw [if_neg (by omega),if_pos (by omega)] | rw [if_neg (by omega),if_neg (by omega),if_pos hnm] | rw [if_neg (by omega),if_neg (by omega),if_neg hnm,if_pos htm] | rw [if_neg (by omega),if_neg (by omega),if_neg hnm,if_neg htm]⟩
     ·
      have htm:¬ (x.tm < 0∨1099511627776 < x.tm):=by simpa using h22
      refine j_ (hK2 _ _ (a_ fun K12 hK12=>b_ (Lan Z Z (hK12 _ _ (l_ (ur (F_ Z Z ?_)))))));exact ⟨_,rfl,S4.like0,by unfold ee_;first | rw [if_pos (by omega)] | rw [if_neg (by omega),if_pos (by omega)] | rw [if_neg (by omega),if_neg (by omega),if_pos hnm] | rw [if_neg (by omega),if_neg (by omega),if_neg hnm,if_pos htm] | rw [if_neg (by omega),if_neg (by omega),if_neg hnm,if_neg htm]⟩
theorem rcheckM (x:Mk) (w0:World)  :
    Calls Tryz.prog 81 #[.agg (mkf x).toArray] w0 fun e w'=>∃ u,e=.returned u∧Like w0 w'∧u=.int .i64 (ee_ x):=by
 refine v_ (env:=[(0,.agg (mkf x).toArray)]) [.agg (mkf x).toArray] Tryz.func81 Z Tryz.ntmps81 Z Z ?_;have S0:=St.start w0 noM;refine a_ fun K1 hK1=>b_ (L_o (bO_ Z S0 Z fun b1 w1 hb1 S1=>Lan Z Z (hK1 _ _ (a_ fun K2 hK2=>a_ fun K3 hK3=>b_ (L_y (g_ 35 Tryz.underlying87 Z sz9 Z Z Z) Z (L_y (t_ Tryz.underlying9 Z Z (((S1.blk 0 Z).cell _).trans (mk35 x))) Z (L_y (av_ Tryz.underlying9 Z) Z (L_y (Z_ Z Z) Z (f_ ?_)))))))));refine hK3 _ _ ?_;refine o_ Z (fun h6=>?_) (fun h6=>?_)
 ·
  refine a_ fun K4 hK4=>b_ (Lan Z Z (hK4 _ _ (l_ (ur (F_ Z Z ?_)))));exact ⟨_,rfl,S1.like0,by unfold ee_;first | rw [if_pos (by omega)] | rw [if_neg (by omega),if_pos (by omega)] | rw [if_neg (by omega),if_neg (by omega),if_pos hnm] | rw [if_neg (by omega),if_neg (by omega),if_neg hnm,if_pos htm] | rw [if_neg (by omega),if_neg (by omega),if_neg hnm,if_neg htm]⟩
 ·
  refine j_ (hK2 _ _ (a_ fun K5 hK5=>a_ fun K6 hK6=>b_ (L_y (g_ 32 Tryz.underlying87 Z sz3 Z Z Z) Z (L_y (t_ Tryz.underlying3 Z Z (((S1.blk 0 Z).cell _).trans (mk32 x))) Z (L_y (L_ Z Z) Z (Lm Z Z ?_))))));refine y_ 10 Z (fun h10=>?_) (fun h10=>?_)
  ·
   refine h_ Z Z Z (h_ Z Z Z (h_ Z Z Z (Lp Z Z Z (f_ (hK6 _ _ (W_ Z (a_ fun K7 hK7=>b_ (Lan Z Z (hK7 _ _ (l_ (ur ?_)))))))))));refine F_ Z Z ?_;exact ⟨_,rfl,S1.like0,by unfold ee_;first | rw [if_pos (by omega)] | rw [if_neg (by omega),if_pos (by omega)] | rw [if_neg (by omega),if_neg (by omega),if_pos hnm] | rw [if_neg (by omega),if_neg (by omega),if_neg hnm,if_pos htm] | rw [if_neg (by omega),if_neg (by omega),if_neg hnm,if_neg htm]⟩
  ·
   refine d_ Z Z (L_y (g_ 32 Tryz.underlying87 Z sz3 Z Z Z) Z (d_ Z Z (L_y (t_ Tryz.underlying3 Z Z (((S1.blk 0 Z).cell _).trans (mk32 x))) Z (d_ Z Z (L_y (Z_ Z Z) Z (Lp Z Z Z (f_ (hK6 _ _ ?_))))))));refine o_ Z (fun h14=>?_) (fun h14=>?_)
   ·
    refine a_ fun K8 hK8=>b_ (Lan Z Z (hK8 _ _ (l_ (ur (F_ Z Z ?_)))));exact ⟨_,rfl,S1.like0,by unfold ee_;first | rw [if_pos (by omega)] | rw [if_neg (by omega),if_pos (by omega)] | rw [if_neg (by omega),if_neg (by omega),if_pos hnm] | rw [if_neg (by omega),if_neg (by omega),if_neg hnm,if_pos htm] | rw [if_neg (by omega),if_neg (by omega),if_neg hnm,if_neg htm]⟩
   ·
    refine j_ (hK5 _ _ (a_ fun K9 hK9=>a_ fun K10 hK10=>b_ (L_y (g_ 33 Tryz.underlying87 Z sz9 Z Z Z) Z (L_y (t_ Tryz.underlying9 Z Z (((S1.blk 0 Z).cell _).trans (mk33 x))) Z (L_o (n_ Tryz.func76 Z Z (Tre.rname x.nm w1) Z Z ?_))))));rintro e3 w3 ⟨v3,rfl,l3,rfl⟩;refine ⟨_,rfl,(have S3:=S1.like l3;L_y ((by first | exact aA_ Z | exact aZ_ Z)) Z ?_)⟩;refine f_ (hK10 _ _ ?_);refine aD_ Z (fun h18=>?_) (fun h18=>?_)
    ·
     have hnm:aw_ x.nm=false:=by simpa using h18
     refine a_ fun K11 hK11=>b_ (Lan Z Z (hK11 _ _ (l_ (ur (F_ Z Z ?_)))));exact ⟨_,rfl,S3.like0,by unfold ee_;first | rw [if_pos (by omega)] | rw [if_neg (by omega),if_pos (by omega)] | rw [if_neg (by omega),if_neg (by omega),if_pos hnm] | rw [if_neg (by omega),if_neg (by omega),if_neg hnm,if_pos htm] | rw [if_neg (by omega),if_neg (by omega),if_neg hnm,if_neg htm]⟩
    ·
     have hnm:¬ aw_ x.nm=false:=by simpa using h18
     refine j_ (hK9 _ _ (a_ fun K12 hK12=>a_ fun K13 hK13=>b_ (L_y (g_ 34 Tryz.underlying87 Z sz3 Z Z Z) Z (L_y (t_ Tryz.underlying3 Z Z (((S3.blk 0 Z).cell _).trans (mk34 x))) Z (L_y (L_ Z Z) Z (Lm Z Z ?_))))));refine y_ 22 Z (fun h22=>?_) (fun h22=>?_)
     ·
      refine h_ Z Z Z (h_ Z Z Z (h_ Z Z Z (Lp Z Z Z (f_ (hK13 _ _ (W_ Z (a_ fun K14 hK14=>?_)))))));have htm:x.tm < 0∨1099511627776 < x.tm:=by omega
      refine b_ (Lan Z Z (hK14 _ _ (l_ (ur (F_ Z Z ?_)))));exact ⟨_,rfl,S3.like0,by unfold ee_;first | rw [if_pos (by omega)] | rw [if_neg (by omega),if_pos (by omega)] | rw [if_neg (by omega),if_neg (by omega),if_pos hnm] | rw [if_neg (by omega),if_neg (by omega),if_neg hnm,if_pos htm] | rw [if_neg (by omega),if_neg (by omega),if_neg hnm,if_neg htm]⟩
     ·
      refine d_ Z Z (L_y (g_ 34 Tryz.underlying87 Z sz3 Z Z Z) Z (d_ Z Z (L_y (t_ Tryz.underlying3 Z Z (((S3.blk 0 Z).cell _).trans (mk34 x))) Z (d_ Z Z (L_y (Z_ Z Z) Z (Lp Z Z Z (f_ (hK13 _ _ ?_))))))));refine o_ Z (fun h26=>?_) (fun h26=>?_)
      ·
       refine a_ fun K15 hK15=>?_;have htm:x.tm < 0∨1099511627776 < x.tm:=by omega
       refine b_ (Lan Z Z (hK15 _ _ (l_ (ur (F_ Z Z ?_)))));exact ⟨_,rfl,S3.like0,by unfold ee_;first | rw [if_pos (by omega)] | rw [if_neg (by omega),if_pos (by omega)] | rw [if_neg (by omega),if_neg (by omega),if_pos hnm] | rw [if_neg (by omega),if_neg (by omega),if_neg hnm,if_pos htm] | rw [if_neg (by omega),if_neg (by omega),if_neg hnm,if_neg htm]⟩
      ·
       refine j_ (hK12 _ _ (a_ fun K16 hK16=>?_));have htm:¬ (x.tm < 0∨1099511627776 < x.tm):=by omega
       refine b_ (Lan Z Z (hK16 _ _ (l_ (ur (F_ Z Z ?_)))));exact ⟨_,rfl,S3.like0,by unfold ee_;first | rw [if_pos (by omega)] | rw [if_neg (by omega),if_pos (by omega)] | rw [if_neg (by omega),if_neg (by omega),if_pos hnm] | rw [if_neg (by omega),if_neg (by omega),if_neg hnm,if_pos htm] | rw [if_neg (by omega),if_neg (by omega),if_neg hnm,if_neg htm]⟩
end Rev
namespace Rev
open Go.RowKit Zk Zx
open Oid (idf hexL B_ aN_)
open Tre (aw_)
structure MkL where
  ob:Oid.Id
  kd:Nat
  nm:List UInt8
  tm:Nat
  tx:List UInt8
def fE_ (y:MkL):Mk:=⟨y.ob,(y.kd:Int),⟨y.nm.toArray⟩,(y.tm:Int),⟨y.tx.toArray⟩⟩
def zML:MkL:=⟨⟨List.replicate 32 0,rfl⟩,0,[],0,[]⟩
theorem iN_:fE_ zML=zMk:=by kernel_rfl
def ca_ (s:List UInt8):Option MkL :=
  (idR cX_ s).bind fun o=>(ce_ gB_ o.2).bind fun k=>if 9 < k.1 then none else (bs_ ig_ k.2).bind fun a=>(ce_ dF_ a.2).bind fun n=>(dG_ n.2).map fun x=>⟨o.1,k.1,a.1,n.1,x⟩
section
variable {s s1 s2 s3 s4 a x : List UInt8} {o : Oid.Id} {k n : Nat}
theorem m1 (h:idR cX_ s=none):ca_ s=none:=by unfold ca_;rw [h];rfl
theorem m2 (h:idR cX_ s=some (o,s1)) (hk:ce_ gB_ s1=none):ca_ s=none:=by unfold ca_;rw [h];simp [hk]
theorem m3 (h:idR cX_ s=some (o,s1)) (hk:ce_ gB_ s1=some (k,s2)) (h9:9 < k):ca_ s=none:=by unfold ca_;rw [h];simp [hk,h9]
theorem m4 (h:idR cX_ s=some (o,s1)) (hk:ce_ gB_ s1=some (k,s2)) (ha:bs_ ig_ s2=none):ca_ s=none:=by
  unfold ca_;rw [h];by_cases h9:9 < k <;> simp [hk,h9,ha]
theorem m5 (h:idR cX_ s=some (o,s1)) (hk:ce_ gB_ s1=some (k,s2)) (ha:bs_ ig_ s2=some (a,s3)) (hn:ce_ dF_ s3=none):ca_ s=none:=by
  unfold ca_;rw [h];by_cases h9:9 < k <;> simp [hk,h9,ha,hn]
theorem m6 (h:idR cX_ s=some (o,s1)) (hk:ce_ gB_ s1=some (k,s2)) (ha:bs_ ig_ s2=some (a,s3)) (hn:ce_ dF_ s3=some (n,s4)) (hx:dG_ s4=none):ca_ s=none:=by
  unfold ca_;rw [h];by_cases h9:9 < k <;> simp [hk,h9,ha,hn,hx]
theorem m7 (h:idR cX_ s=some (o,s1)) (hk:ce_ gB_ s1=some (k,s2)) (h9:¬ 9 < k) (ha:bs_ ig_ s2=some (a,s3)) (hn:ce_ dF_ s3=some (n,s4)) (hx:dG_ s4=some x):ca_ s=some ⟨o,k,a,n,x⟩:=by
  unfold ca_;rw [h];simp [hk,h9,ha,hn,hx]
end
theorem stm (x:Mk) (t:Oid.Id):((mkf x).toArray.toList.take 0++(idf t).toArray.toList++(mkf x).toArray.toList.drop (0+(idf t).toArray.size)).toArray=(mkf { x with ob:=t }).toArray:=by
  simp only [List.take_zero,List.nil_append,List.size_toArray,B_,Nat.zero_add]
  congr 1
  show idf t++(mkf x).drop 32=_
  unfold mkf
  rw [List.drop_append_of_le_length (by rw [B_];omega),List.drop_of_length_le (by rw [B_];omega),List.nil_append]
theorem stm_at (x:Mk) (k:Nat) (v:Value) (hk:k < 4):(mkf x).toArray.setIfInBounds (32+k) v=(idf x.ob++[Value.int .i64 x.kd,.string x.nm,.int .i64 x.tm,.string x.tx].set k v).toArray:=by
  rw [List.setIfInBounds_toArray]
  congr 1
  unfold mkf
  rw [List.set_append_right _ _ (by rw [B_];omega),B_,show 32+k - 32=k by omega]
theorem stm32 (x:Mk) (v:Int):(mkf x).toArray.setIfInBounds 32 (.int .i64 v)=(mkf { x with kd:=v }).toArray:=stm_at x 0 _ (by omega)
theorem stm33 (x:Mk) (v:ByteArray):(mkf x).toArray.setIfInBounds 33 (.string v)=(mkf { x with nm:=v }).toArray:=stm_at x 1 _ (by omega)
theorem stm34 (x:Mk) (v:Int):(mkf x).toArray.setIfInBounds 34 (.int .i64 v)=(mkf { x with tm:=v }).toArray:=stm_at x 2 _ (by omega)
theorem stm35 (x:Mk) (v:ByteArray):(mkf x).toArray.setIfInBounds 35 (.string v)=(mkf { x with tx:=v }).toArray:=stm_at x 3 _ (by omega)
def gE_ (s:List UInt8):Int:=match ca_ s with
  | none=>12
  | some y=>ee_ (fE_ y)
def mval (s:List UInt8):MkL:=match ca_ s with
  | none=>zML
  | some y=>if ee_ (fE_ y)=0 then y else zML
theorem iC_ {s:List UInt8} {y:MkL} (h:ca_ s=some y):gE_ s=ee_ (fE_ y)∧mval s=if ee_ (fE_ y)=0 then y else zML:=by unfold gE_ mval;rw [h];exact ⟨rfl,rfl⟩
theorem mo_none {s:List UInt8} (h:ca_ s=none):gE_ s=12∧mval s=zML:=by unfold gE_ mval;rw [h];exact ⟨rfl,rfl⟩
def kval (s:List UInt8):MkL:=(ca_ s).getD zML
def eP_ (s:List UInt8):Int:=if (ca_ s).isSome then 0 else 12
theorem kcode_0 {s:List UInt8} (h:eP_ s=0):ca_ s=some (kval s):=by
  unfold eP_ at h
  unfold kval
  cases e:ca_ s with
  | none=>rw [e] at h;cases h
  | some y=>rfl
theorem kcode_n {s:List UInt8} (h:¬ eP_ s=0):ca_ s=none∧eP_ s=12:=by
  unfold eP_ at h ⊢
  cases e:ca_ s with
  | none=>exact ⟨rfl,rfl⟩
  | some y=>rw [e] at h;exact absurd Z h
theorem hW_ {s:List UInt8} (h:ca_ s=none):Value.tuple #[.agg (mkf zMk).toArray,.int .i64 12]=.tuple #[.agg (mkf (fE_ (kval s))).toArray,.int .i64 (eP_ s)]:=by
  rw [show kval s=zML by rw [kval,h];rfl,show eP_ s=12 by rw [eP_,h];rfl,iN_]
theorem k_some {s:List UInt8} {y:MkL} (h:ca_ s=some y):Value.tuple #[.agg (mkf (fE_ y)).toArray,.int .i64 0]=.tuple #[.agg (mkf (fE_ (kval s))).toArray,.int .i64 (eP_ s)]:=by
  rw [show kval s=y by rw [kval,h];rfl,show eP_ s=0 by rw [eP_,h];rfl]
theorem mark (g:Nat) (s:List UInt8) (w0:World) (hw:(rdR g s).holds w0) (hl:s.length≤100000) :
    Calls Tryz.prog 110 #[.pointer (some ⟨g,0,none⟩)] w0 fun e w'=>∃ u,e=.returned u∧∃ s',Turned w0 w' (rdR g s) (rdR g s')∧u=.tuple #[.agg (mkf (fE_ (kval s))).toArray,.int .i64 (eP_ s)]:=by
  refine lc_ (env:=[(0,.pointer (some ⟨g,0,none⟩))]) [.pointer (some ⟨g,0,none⟩)] Tryz.func110 Z Tryz.ntmps110 Z Z ?_
  have S0:=St.borrow1 (rdR g s) hw (ji_ hw)
  refine a_ fun K1 hK1=>?_
  refine b_ ?_
  refine L_o (H_ zz87 S0 Z fun b1 w1 hb1 S1=>?_)
  refine L_o (H_ zz24 S1 Z fun b2 w2 hb2 S2=>?_)
  have S3:Zx.St w0 (rdR g s).dom [rdR g s,blk b1 87 (mkf zMk).toArray,blk b2 24 #[Value.int .i64 0]] w2:=S2.cast (by kernel_rfl)
  have hne:b1≠b2:=fun e=>St.apart_ S3 1 2 Z Z Z b1 Z e
  refine f_ ?_
  refine hK1 _ _ ?_
  refine a_ fun K2 hK2=>?_
  refine b_ ?_
  refine L_y (dk_ Z Z) Z ?_
  refine L_deferV Z ?_
  refine f_ ?_
  refine hK2 _ _ ?_
  refine a_ fun K3 hK3=>?_
  refine b_ ?_
  refine Lm Z Z ?_
  refine L_o (cK_ Tryz.func145 Z Z (idr g s cX_ w2 (S3.get 0 Z) (by decide) (by omega)) Z Z ?_)
  rintro e4 w4 (⟨rfl,s9,T4,hno⟩ | ⟨v4,rfl,o,s1,hid,T4,rfl⟩)
  · exact .inr ⟨_,rfl,eL_ Z Z Z ((S3.turn 0 Z T4).blk 1 Z) (M_ _) ((S3.turn 0 Z T4).blk 2 Z) hne (fun w' T'=>⟨_,rfl,_,(dU_ ((S3.turn 0 Z T4).sel [0,1,2] (by decide)) T').turned1 0 Z,hW_ (m1 hno)⟩)⟩
  refine .inl ⟨_,rfl,?_⟩
  have S4:=S3.turn 0 Z T4
  have hl1:=kX_ hid
  refine L_y (g_ 0 Tryz.underlying87 Z ao_ Z Z Z) Z ?_
  refine L_o (jo_ S4 1 Z Z Z (by rw [List.size_toArray,B_];exact ao_) (by rw [List.size_toArray,B_,M_];omega) (fun u hu=>R_ _ u (by rw [List.toList_toArray] at hu;exact hu)) fun w5 S5=>?_)
  have S6:=S5.blkc 1 Z (show _=(mkf (⟨o,0,⟨#[]⟩,0,⟨#[]⟩⟩:Mk)).toArray from stm zMk o)
  have S7:Zx.St w0 (rdR g s).dom [rdR g s1,blk b1 87 (mkf (⟨o,0,⟨#[]⟩,0,⟨#[]⟩⟩:Mk)).toArray,blk b2 24 #[Value.int .i64 0]] w5:=S6.cast (by kernel_rfl)
  refine f_ ?_
  refine hK3 _ _ ?_
  refine a_ fun K4 hK4=>?_
  refine b_ ?_
  refine Lm Z Z ?_
  refine L_o (cK_ Tryz.func148 Z Z (numb g s1 gB_ w5 (S7.get 0 Z) (by decide) (by omega)) Z Z ?_)
  rintro e8 w8 (⟨rfl,s9,T8,hno⟩ | ⟨v8,rfl,kd,s2,hkd,T8,rfl⟩)
  · exact .inr ⟨_,rfl,eL_ Z Z Z ((S7.turn 0 Z T8).blk 1 Z) (M_ _) ((S7.turn 0 Z T8).blk 2 Z) hne (fun w' T'=>⟨_,rfl,_,(dU_ ((S7.turn 0 Z T8).sel [0,1,2] (by decide)) T').turned1 0 Z,hW_ (m2 hid hno)⟩)⟩
  refine .inl ⟨_,rfl,?_⟩
  have S8:=S7.turn 0 Z T8
  have hl2:=(hT_ hkd).1
  refine L_y (g_ 32 Tryz.underlying87 Z sz3 Z Z Z) Z ?_
  refine L_o (ac_ S8 1 Z Z Z Z sz3 (by rw [M_];omega) fun w9 S9=>?_)
  have S10:=S9.blkc 1 Z (show _=(mkf (⟨o,(kd:Int),⟨#[]⟩,0,⟨#[]⟩⟩:Mk)).toArray from stm32 (⟨o,0,⟨#[]⟩,0,⟨#[]⟩⟩:Mk) _)
  have S11:Zx.St w0 (rdR g s).dom [rdR g s2,blk b1 87 (mkf (⟨o,(kd:Int),⟨#[]⟩,0,⟨#[]⟩⟩:Mk)).toArray,blk b2 24 #[Value.int .i64 0]] w9:=S10.cast (by kernel_rfl)
  refine f_ ?_
  refine hK4 _ _ ?_
  refine a_ fun K5 hK5=>?_
  refine a_ fun K6 hK6=>?_
  refine b_ ?_
  refine L_y (g_ 32 Tryz.underlying87 Z sz3 Z Z Z) Z ?_
  refine L_y (t_ Tryz.underlying3 Z Z (((S11.blk 1 Z).cell _).trans (mk32 _))) Z ?_
  refine L_y (Z_ Z Z) Z ?_
  refine f_ ?_
  refine hK6 _ _ ?_
  refine o_ Z (fun h13=>?_) (fun h13=>?_)
  ·
    have h9k:(9:Int) < (kd:Int):=h13
    refine b_ ?_
    refine L_y (C_ Z (show _=some #[Value.int .i64 12] by kernel_rfl)) Z ?_
    refine L_y (fG_ (by kernel_rfl) Z) Z ?_
    refine fy_ Z ?_
    exact eL_ Z Z Z (S11.blk 1 Z) (M_ _) (S11.blk 2 Z) hne (fun w' T'=>⟨_,rfl,_,(dU_ (S11.sel [0,1,2] (by decide)) T').turned1 0 Z,hW_ (m3 hid hkd (by omega))⟩)
  ·
    have h9k:¬ (9:Int) < (kd:Int):=h13
    refine j_ ?_
    refine hK5 _ _ ?_
    refine a_ fun K7 hK7=>?_
    refine b_ ?_
    refine Lm Z Z ?_
    refine L_o (cK_ Tryz.func147 Z Z (take g s2 ig_ w9 (S11.get 0 Z) (by decide) (by omega)) Z Z ?_)
    rintro e12 w12 (⟨rfl,T12,hno⟩ | ⟨v12,rfl,nm,s3,hnm,T12,rfl⟩)
    · exact .inr ⟨_,rfl,eL_ Z Z Z ((S11.turn 0 Z T12).blk 1 Z) (M_ _) ((S11.turn 0 Z T12).blk 2 Z) hne (fun w' T'=>⟨_,rfl,_,(dU_ ((S11.turn 0 Z T12).sel [0,1,2] (by decide)) T').turned1 0 Z,hW_ (m4 hid hkd hno)⟩)⟩
    refine .inl ⟨_,rfl,?_⟩
    have S12:=S11.turn 0 Z T12
    have hl3:=jz_ hnm
    refine L_y (g_ 33 Tryz.underlying87 Z sz9 Z Z Z) Z ?_
    refine L_o (ac_ S12 1 Z Z Z Z sz9 (by rw [M_];omega) fun w13 S13=>?_)
    have S14:=S13.blkc 1 Z (show _=(mkf (⟨o,(kd:Int),⟨nm.toArray⟩,0,⟨#[]⟩⟩:Mk)).toArray from stm33 (⟨o,(kd:Int),⟨#[]⟩,0,⟨#[]⟩⟩:Mk) _)
    have S15:Zx.St w0 (rdR g s).dom [rdR g s3,blk b1 87 (mkf (⟨o,(kd:Int),⟨nm.toArray⟩,0,⟨#[]⟩⟩:Mk)).toArray,blk b2 24 #[Value.int .i64 0]] w13:=S14.cast (by kernel_rfl)
    refine f_ ?_
    refine hK7 _ _ ?_
    refine a_ fun K8 hK8=>?_
    refine b_ ?_
    refine Lm Z Z ?_
    refine L_o (cK_ Tryz.func148 Z Z (numb g s3 dF_ w13 (S15.get 0 Z) (by decide) (by omega)) Z Z ?_)
    rintro e16 w16 (⟨rfl,s9,T16,hno⟩ | ⟨v16,rfl,tm,s4,htm,T16,rfl⟩)
    · exact .inr ⟨_,rfl,eL_ Z Z Z ((S15.turn 0 Z T16).blk 1 Z) (M_ _) ((S15.turn 0 Z T16).blk 2 Z) hne (fun w' T'=>⟨_,rfl,_,(dU_ ((S15.turn 0 Z T16).sel [0,1,2] (by decide)) T').turned1 0 Z,hW_ (m5 hid hkd hnm hno)⟩)⟩
    refine .inl ⟨_,rfl,?_⟩
    have S16:=S15.turn 0 Z T16
    have hl4:=(hT_ htm).1
    refine L_y (g_ 34 Tryz.underlying87 Z sz3 Z Z Z) Z ?_
    refine L_o (ac_ S16 1 Z Z Z Z sz3 (by rw [M_];omega) fun w17 S17=>?_)
    have S18:=S17.blkc 1 Z (show _=(mkf (⟨o,(kd:Int),⟨nm.toArray⟩,(tm:Int),⟨#[]⟩⟩:Mk)).toArray from stm34 (⟨o,(kd:Int),⟨nm.toArray⟩,0,⟨#[]⟩⟩:Mk) _)
    have S19:Zx.St w0 (rdR g s).dom [rdR g s4,blk b1 87 (mkf (⟨o,(kd:Int),⟨nm.toArray⟩,(tm:Int),⟨#[]⟩⟩:Mk)).toArray,blk b2 24 #[Value.int .i64 0]] w17:=S18.cast (by kernel_rfl)
    refine f_ ?_
    refine hK8 _ _ ?_
    refine a_ fun K9 hK9=>?_
    refine b_ ?_
    refine Lm Z Z ?_
    refine L_o (cK_ Tryz.func149 Z Z (text_ g s4 w17 (S19.get 0 Z)) Z Z ?_)
    rintro e20 w20 (⟨rfl,T20,hno⟩ | ⟨v20,rfl,tx,htx,T20,rfl⟩)
    · exact .inr ⟨_,rfl,eL_ Z Z Z ((S19.turn 0 Z T20).blk 1 Z) (M_ _) ((S19.turn 0 Z T20).blk 2 Z) hne (fun w' T'=>⟨_,rfl,_,(dU_ ((S19.turn 0 Z T20).sel [0,1,2] (by decide)) T').turned1 0 Z,hW_ (m6 hid hkd hnm htm hno)⟩)⟩
    refine .inl ⟨_,rfl,?_⟩
    have S20:=S19.turn 0 Z T20
    refine L_y (g_ 35 Tryz.underlying87 Z sz9 Z Z Z) Z ?_
    refine L_o (ac_ S20 1 Z Z Z Z sz9 (by rw [M_];omega) fun w21 S21=>?_)
    have S22:=S21.blkc 1 Z (show _=(mkf (⟨o,(kd:Int),⟨nm.toArray⟩,(tm:Int),⟨tx.toArray⟩⟩:Mk)).toArray from stm35 (⟨o,(kd:Int),⟨nm.toArray⟩,(tm:Int),⟨#[]⟩⟩:Mk) _)
    have S23:Zx.St w0 (rdR g s).dom [rdR g s4,blk b1 87 (mkf (⟨o,(kd:Int),⟨nm.toArray⟩,(tm:Int),⟨tx.toArray⟩⟩:Mk)).toArray,blk b2 24 #[Value.int .i64 0]] w21:=S22.cast (by kernel_rfl)
    refine f_ ?_
    refine hK9 _ _ ?_
    refine a_ fun K10 hK10=>?_
    refine b_ ?_
    refine L_y (Y_ Tryz.underlying87 Z bS_ Z (S23.blk 1 Z) (dW_ _)) Z ?_
    refine L_o (G_ S23 1 Z Z Z (by rw [M_];exact bS_) (by rw [M_]) (fun u hu=>bH_ _ u (by rw [List.toList_toArray] at hu;exact hu)) fun w24 S24=>?_)
    refine L_o (ac_ S24 2 Z Z Z Z dm_ (by simp;done) fun w25 S25=>?_)
    refine f_ ?_
    refine hK10 _ _ ?_
    refine l_ ?_
    refine ur ?_
    refine mark_ret Z Z Z (S25.blk 1 Z) (M_ _) (S25.blk 2 Z) ?_
    intro w' l'
    exact ⟨_,rfl,_,(S25.like l').turned1 0 Z,k_some (y:=⟨o,kd,nm,tm,tx⟩) (m7 hid hkd (by omega) hnm htm htx)⟩
end Rev
namespace Zx
open Go.RowKit Zk
section
variable {P : Program}
def FE (P:Program) (d:Nat) (xs ys:Array Value) (f:Field) (b:Bool):Prop :=
  f.name ≠ "_" ∧ ∃ vx vy, (∀ w, (part f.type xs f.offset).run P w = .ok vx w) ∧ (∀ w, (part f.type ys f.offset).run P w = .ok vy w) ∧ (∀ w, (Op.equalIn d f.type vx vy).run P w = .ok b w)
inductive EqFs (P:Program) (d:Nat) (xs ys:Array Value):List Field→Bool→Prop
  | nil:EqFs P d xs ys [] true
  | cons {f:Field} {fs:List Field} {b r:Bool}:FE P d xs ys f b→EqFs P d xs ys fs r→EqFs P d xs ys (f::fs) (b && r)
theorem EqFs.run {d:Nat} {xs ys:Array Value}:∀ {fs:List Field} {r:Bool},EqFs P d xs ys fs r→∀ w,(Op.eqFields d xs ys fs).run P w=.ok r w
  | _,_,.nil,w=>rfl
  | _,_,.cons (f:=f) (fs:=fs) (b:=b) (r:=r) ⟨hn,vx,vy,h1,h2,h3⟩ h,w=>by
    rw [Op.eqFields,if_pos hn,Sem.run_bind,h1 w,Result.andThen_ok,Sem.run_bind,h2 w,Result.andThen_ok,Sem.run_bind,h3 w,Result.andThen_ok]
    cases b with
    | true =>
      simp only [Bool.not_true,Bool.false_eq_true,if_false]
      rw [h.run w]
      rfl
    | false =>
      simp only [Bool.not_false,if_true,Sem.run_pure]
      rfl
variable {S : World → Prop} {env : Env} {dst : Option Tmp} {ty : TypeId} {pos : String} {after : Array Edge} {g : Option (Nat × Bool)}
end
end Zx
namespace Rev
open Go.RowKit Zk Zx
open Oid (idf hexL B_ aN_)
open Tre (aw_)
theorem aM_ {w0 w:World} {s:List UInt8} (l:Like w0 w) (h:ca_ s=none):∃ u,Ending.returned (.tuple #[.agg (mkf zMk).toArray,.int .i64 12])=.returned u∧Like w0 w∧u=.tuple #[.agg (mkf (fE_ (mval s))).toArray,.int .i64 (gE_ s)]:=by
  have hgo:=mo_none h
  rw [hgo.1,hgo.2,iN_]
  exact ⟨_,rfl,l,rfl⟩
end Rev
namespace Rev
open Go.RowKit Zk Zx
open Oid (idf hexL B_ aN_)
open Tre (aw_)
end Rev
namespace Rev
open Go.ChangeShapes Go.WideShapes Go.ChangeAt Go.RowKit Go.Deep Zk Zx
open Oid (idf B_)
section
variable {H : Type} {enc : TypeId × Value → H} {w : World} {base : Nat} {spare : Nat → Bool} {held : Bool}
end
end Rev
namespace Rev
open Go.RowKit Zk Zx
open Oid (idf hexL B_ aN_)
open Tre (aw_)
theorem getB (B:Option Addr) (m d:Nat) (s:List UInt8) (w0:World) (hb:Rs w0 1 B m d (bL s)) (hl:s.length≤90000) :
    Calls Tryz.prog 74 #[.slice B m d] w0 fun e w'=>∃ u,e=.returned u∧Like w0 w'∧∃ A c,Fr w0 w' 32 A (ea_ s).ps.length c ((ea_ s).ps.flatMap idf)∧u=.tuple #[.agg (cmf (cmOf (ea_ s) A (ea_ s).ps.length c)).toArray,.int .i64 (gF_ s)]:=by
 refine v_ (env:=[(0,.slice B m d)]) [.slice B m d] Tryz.func74 Z Tryz.ntmps74 Z Z ?_;have S0:=St.start w0 noM;refine a_ fun K1 hK1=>b_ (L_o (H_ zz83 S0 Z fun b1 w1 hb1 S1=>Lan Z Z (hK1 _ _ (a_ fun K2 hK2=>Rm Z Z (L_y (co_ Tryz.underlying22 Tryz.underlying5 Tryz.underlying9 Z (by first | exact S1.rd hb)) Z ?_)))));refine L_y (C_ Z (show _=some #[Value.string ⟨s.toArray⟩] by kernel_rfl)) Z (L_o (bO_ Z S1 Z fun b2 w2 hb2 S2=>have S3:Zx.St w0 noM [blk b1 83 (cmf zCm).toArray,rdR b2 s] w2:=S2.cast (by kernel_rfl);Lan Z Z (hK2 _ _ (a_ fun K3 hK3=>Rm Z Z (L_o (n_ Tryz.func108 Z Z (readr' b2 s w2 (S3.get 1 Z) (by omega)) Z Z ?_))))));rintro e4 w4 ⟨v4,rfl,s9,A,c,T4,hf4,rfl⟩;refine ⟨_,rfl,(have S4:=S3.turn 1 Z T4;have S5:=St.newF S3 1 Z T4 (fun i hi=>hi) hf4;Lm Z Z (L_y (m_ Z Z) Z (L_y (m_ Z Z) Z (L_o (H_ zz83 S5 Z fun b6 w6 hb6 S6=>L_o (G_ S6 3 Z Z Z (by rw [D_];exact bg_) (by first | (rw [D_];done) | (rw [D_];rfl)) (fun u hu=>aY_ _ u (by rw [List.toList_toArray] at hu;exact hu)) fun w7 S7=>?_))))))⟩;refine Lan Z Z (hK3 _ _ (a_ fun K4 hK4=>a_ fun K5 hK5=>Rm Z Z (L_y (am_ Z Z) Z (f_ (hK5 _ _ ?_)))));refine o_ Z (fun h17=>?_) (fun h17=>?_)
 ·
  have hg:=rcode_0 h17;refine b_ (L_y (Y_ Tryz.underlying83 Z bg_ Z (S7.blk 3 Z) (dd_ _)) Z (L_o (n_ Tryz.func109 Z Z (check (cmOf (ff_ s) A _ c) w7 (S7.fix 2 Z)) Z Z ?_)));rintro e8 w8 ⟨v8,rfl,l8,rfl⟩;refine ⟨_,rfl,(have S8:=S7.like l8;Lan Z Z (hK4 _ _ (a_ fun K6 hK6=>a_ fun K7 hK7=>Rm Z Z (L_y (ab_ Z Z) Z (f_ (hK7 _ _ ?_))))))⟩;refine o_ Z (fun h21=>?_) (fun h21=>?_)
  ·
   refine a_ fun K8 hK8=>b_ (L_y (C_ Z (show _=some (cmf zCm).toArray by kernel_rfl)) Z (Lm Z Z (L_o (G_ S8 0 Z Z Z (by rw [D_];exact bg_) (by first | (rw [D_];done) | (rw [D_];rfl)) (fun u hu=>aY_ _ u (by rw [List.toList_toArray] at hu;exact hu)) fun w9 S9=>?_))));refine Lan Z Z (hK8 _ _ (l_ (ur (af_ Z Z Z (S9.blk 0 Z) Tryz.underlying83 Z (by rw [D_];exact bg_) ?_))));have hgo:=gs_ hg;have hgc:chk (cmOf (ff_ s) A (ff_ s).ps.length c)=chk (cmO (ff_ s)):=rfl;have hv:ea_ s=zL:=by rw [hgo.2,if_neg (fun e=>h21 (hgc.trans e))]
   rw [hv,hgo.1];refine ⟨_,rfl,S9.like0,none,0,hY_ _ _ _,?_⟩;exact congrArg (fun x=>Value.tuple #[.agg (cmf x).toArray,_]) zL_cm.symm
  ·
   refine j_ (hK6 _ _ (a_ fun K9 hK9=>b_ (L_y (Y_ Tryz.underlying83 Z bg_ Z (S8.blk 3 Z) (dd_ _)) Z (L_o (G_ S8 0 Z Z Z (by rw [D_];exact bg_) (by first | (rw [D_];done) | (rw [D_];rfl)) (fun u hu=>aY_ _ u (by rw [List.toList_toArray] at hu;exact hu)) fun w10 S10=>?_)))));refine Lan Z Z (hK9 _ _ (l_ (ur (af_ Z Z Z (S10.blk 0 Z) Tryz.underlying83 Z (by rw [D_];exact bg_) ?_))));have hgo:=gs_ hg;have hgc:chk (cmOf (ff_ s) A (ff_ s).ps.length c)=chk (cmO (ff_ s)):=rfl;have h0:chk (cmO (ff_ s))=0:=Classical.byContradiction fun e=>h21 e;have hv:ea_ s=ff_ s:=by rw [hgo.2,if_pos h0]
   rw [hv,hgo.1,h0];exact ⟨_,rfl,S10.like0,A,c,S10.fr 2 Z,rfl⟩
 ·
  have hg:=rcode_n h17;refine j_ (hK4 _ _ (a_ fun K10 hK10=>a_ fun K11 hK11=>Rm Z Z (L_y (ab_ Z Z) Z (f_ (hK11 _ _ ?_)))));refine o_ Z (fun h21=>?_) (fun h21=>?_)
  ·
   refine a_ fun K12 hK12=>b_ (L_y (C_ Z (show _=some (cmf zCm).toArray by kernel_rfl)) Z (Lm Z Z (L_o (G_ S7 0 Z Z Z (by rw [D_];exact bg_) (by first | (rw [D_];done) | (rw [D_];rfl)) (fun u hu=>aY_ _ u (by rw [List.toList_toArray] at hu;exact hu)) fun w11 S11=>?_))));refine Lan Z Z (hK12 _ _ (l_ (ur (af_ Z Z Z (S11.blk 0 Z) Tryz.underlying83 Z (by rw [D_];exact bg_) ?_))));have hgo:=go_none hg.1;have hv:ea_ s=zL:=hgo.2;rw [hv,hgo.1];refine ⟨_,rfl,S11.like0,none,0,hY_ _ _ _,?_⟩;show Value.tuple #[.agg (cmf zCm).toArray,.int .i64 (fO_ s)]=_
   rw [hg.2];exact congrArg (fun x=>Value.tuple #[.agg (cmf x).toArray,_]) zL_cm.symm
  ·
   refine j_ (hK10 _ _ (a_ fun K13 hK13=>b_ (L_y (Y_ Tryz.underlying83 Z bg_ Z (S7.blk 3 Z) (dd_ _)) Z (L_o (G_ S7 0 Z Z Z (by rw [D_];exact bg_) (by first | (rw [D_];done) | (rw [D_];rfl)) (fun u hu=>aY_ _ u (by rw [List.toList_toArray] at hu;exact hu)) fun w12 S12=>?_)))));refine Lan Z Z (hK13 _ _ (l_ (ur (af_ Z Z Z (S12.blk 0 Z) Tryz.underlying83 Z (by rw [D_];exact bg_) ?_))));exact absurd hg.2 (fun e=>h21 (by rw [e];decide))
theorem getMB (B:Option Addr) (m d:Nat) (s:List UInt8) (w0:World) (hb:Rs w0 1 B m d (bL s)) (hl:s.length≤90000) :
    Calls Tryz.prog 75 #[.slice B m d] w0 fun e w'=>∃ u,e=.returned u∧Like w0 w'∧u=.tuple #[.agg (mkf (fE_ (mval s))).toArray,.int .i64 (gE_ s)]:=by
 refine v_ (env:=[(0,.slice B m d)]) [.slice B m d] Tryz.func75 Z Tryz.ntmps75 Z Z ?_;have S0:=St.start w0 noM;refine a_ fun K1 hK1=>b_ (L_o (H_ zz87 S0 Z fun b1 w1 hb1 S1=>Lan Z Z (hK1 _ _ (a_ fun K2 hK2=>Rm Z Z (L_y (co_ Tryz.underlying22 Tryz.underlying5 Tryz.underlying9 Z (by first | exact S1.rd hb)) Z ?_)))));refine L_y (C_ Z (show _=some #[Value.string ⟨s.toArray⟩] by kernel_rfl)) Z (L_o (bO_ Z S1 Z fun b2 w2 hb2 S2=>have S3:Zx.St w0 noM [blk b1 87 (mkf zMk).toArray,rdR b2 s] w2:=S2.cast (by kernel_rfl);Lan Z Z (hK2 _ _ (a_ fun K3 hK3=>Rm Z Z (L_o (n_ Tryz.func110 Z Z (mark b2 s w2 (S3.get 1 Z) (by omega)) Z Z ?_))))));rintro e4 w4 ⟨v4,rfl,s9,T4,rfl⟩;refine ⟨_,rfl,(have S4:=S3.turn 1 Z T4;Lm Z Z (L_y (m_ Z Z) Z (L_y (m_ Z Z) Z (L_o (H_ zz87 S4 Z fun b5 w5 hb5 S5=>L_o (G_ S5 2 Z Z Z (by rw [M_];exact bS_) (by first | (rw [M_];done) | (rw [M_];rfl)) (fun u hu=>bH_ _ u (by rw [List.toList_toArray] at hu;exact hu)) fun w6 S6=>?_))))))⟩;refine Lan Z Z (hK3 _ _ (a_ fun K4 hK4=>a_ fun K5 hK5=>Rm Z Z (L_y (am_ Z Z) Z (f_ (hK5 _ _ ?_)))));refine o_ Z (fun h17=>?_) (fun h17=>?_)
 ·
  have hg:=kcode_0 h17;refine b_ (L_y (Y_ Tryz.underlying87 Z bS_ Z (S6.blk 2 Z) (dW_ _)) Z (L_o (n_ Tryz.func111 Z Z (checkM (fE_ (kval s)) w6) Z Z ?_)));rintro e7 w7 ⟨v7,rfl,l7,rfl⟩;refine ⟨_,rfl,(have S7:=S6.like l7;Lan Z Z (hK4 _ _ (a_ fun K6 hK6=>a_ fun K7 hK7=>Rm Z Z (L_y (ab_ Z Z) Z (f_ (hK7 _ _ ?_))))))⟩;refine o_ Z (fun h21=>?_) (fun h21=>?_)
  ·
   refine a_ fun K8 hK8=>b_ (L_y (C_ Z (show _=some (mkf zMk).toArray by kernel_rfl)) Z (Lm Z Z (L_o (G_ S7 0 Z Z Z (by rw [M_];exact bS_) (by first | (rw [M_];done) | (rw [M_];rfl)) (fun u hu=>bH_ _ u (by rw [List.toList_toArray] at hu;exact hu)) fun w8 S8=>?_))));refine Lan Z Z (hK8 _ _ (l_ (ur (af_ Z Z Z (S8.blk 0 Z) Tryz.underlying87 Z (by rw [M_];exact bS_) ?_))));have hgo:=iC_ hg;have hv:mval s=zML:=by rw [hgo.2,if_neg (show ¬ ee_ (fE_ (kval s))=0 from fun e=>h21 e)]
   rw [hv,hgo.1,iN_];exact ⟨_,rfl,S8.like0,rfl⟩
  ·
   refine j_ (hK6 _ _ (a_ fun K9 hK9=>b_ (L_y (Y_ Tryz.underlying87 Z bS_ Z (S7.blk 2 Z) (dW_ _)) Z (L_o (G_ S7 0 Z Z Z (by rw [M_];exact bS_) (by first | (rw [M_];done) | (rw [M_];rfl)) (fun u hu=>bH_ _ u (by rw [List.toList_toArray] at hu;exact hu)) fun w9 S9=>?_)))));refine Lan Z Z (hK9 _ _ (l_ (ur (af_ Z Z Z (S9.blk 0 Z) Tryz.underlying87 Z (by rw [M_];exact bS_) ?_))));have hgo:=iC_ hg;have h0:ee_ (fE_ (kval s))=0:=Classical.byContradiction fun e=>h21 e;have hv:mval s=kval s:=by rw [hgo.2,if_pos h0]
   rw [hv,hgo.1,h0];exact ⟨_,rfl,S9.like0,rfl⟩
 ·
  have hg:=kcode_n h17;refine j_ (hK4 _ _ (a_ fun K10 hK10=>a_ fun K11 hK11=>Rm Z Z (L_y (ab_ Z Z) Z (f_ (hK11 _ _ ?_)))));refine o_ Z (fun h21=>?_) (fun h21=>?_)
  ·
   refine a_ fun K12 hK12=>b_ (L_y (C_ Z (show _=some (mkf zMk).toArray by kernel_rfl)) Z (Lm Z Z (L_o (G_ S6 0 Z Z Z (by rw [M_];exact bS_) (by first | (rw [M_];done) | (rw [M_];rfl)) (fun u hu=>bH_ _ u (by rw [List.toList_toArray] at hu;exact hu)) fun w10 S10=>?_))));refine Lan Z Z (hK12 _ _ (l_ (ur (af_ Z Z Z (S10.blk 0 Z) Tryz.underlying87 Z (by rw [M_];exact bS_) ?_))));have hgo:=mo_none hg.1;have hv:mval s=zML:=hgo.2;rw [hv,hgo.1,iN_];exact ⟨_,rfl,S10.like0,by show Value.tuple #[.agg (mkf zMk).toArray,.int .i64 (eP_ s)]=_;rw [hg.2]⟩
  ·
   refine j_ (hK10 _ _ (a_ fun K13 hK13=>b_ (L_y (Y_ Tryz.underlying87 Z bS_ Z (S6.blk 2 Z) (dW_ _)) Z (L_o (G_ S6 0 Z Z Z (by rw [M_];exact bS_) (by first | (rw [M_];done) | (rw [M_];rfl)) (fun u hu=>bH_ _ u (by rw [List.toList_toArray] at hu;exact hu)) fun w11 S11=>?_)))));refine Lan Z Z (hK13 _ _ (l_ (ur (af_ Z Z Z (S11.blk 0 Z) Tryz.underlying87 Z (by rw [M_];exact bS_) ?_))));exact absurd hg.2 (fun e=>h21 (by rw [e];decide))
end Rev
namespace Zx
open Go.RowKit Zk Go.Maps
section
variable {P : Program} {N : Nat} {Q : Post} {env : Env} {w w0 : World} {M : Nat → Prop} {rs : List Res} {K : Env → World → Prop} {d : Tmp} {dst : Option Tmp} {ty : TypeId} {pos : String} {after : Array Edge} {g : Option (Nat × Bool)}
def hasS (L:List ByteArray) (s:ByteArray):Bool:=L.any fun t=>decide (t=s)
theorem hv_ {L:List ByteArray} {s:ByteArray}:hasS L s=true↔s ∈ L:=by
  unfold hasS
  rw [List.any_eq_true]
  constructor
  · rintro ⟨t,h1,h2⟩
    rw [← of_decide_eq_true h2]
    exact h1
  · exact fun h=>⟨s,h,decide_eq_true Z⟩
def SM (D:DU) (L:List ByteArray):Prop:=IsMap D∧∀ s:ByteArray,D.atKey (.string s.data.toList) (.lit (.bool false))=.lit (.bool (hasS L s))
theorem SM.nil:SM (.map []) []:=⟨⟨[],rfl⟩,fun s=>rfl⟩
theorem bytes_inj {a b:ByteArray} (h:a.data.toList=b.data.toList):a=b:=by
  apply ByteArray.ext
  exact Array.toList_inj.1 h
theorem SM.put {D:DU} {L:List ByteArray} (h:SM D L) (s:ByteArray):SM (D.put (.string s.data.toList) (.lit (.bool true))) (L++[s]):=by
  refine ⟨?_,fun t=>?_⟩
  · obtain ⟨es,rfl⟩:=h.1
    exact ⟨_,rfl⟩
  · by_cases e:t=s
    · subst e
      rw [atKey_put_same h.1 (show WideAt.IsKeyLit (.string _) from trivial),hv_.2 (by simp)]
    · have e2:hasS (L++[s]) t=hasS L t:=by
        rw [Bool.eq_iff_iff,hv_,hv_]
        simp [e]
      rw [atKey_put_other (fun q=>e (bytes_inj (by injection q))),h.2 t,e2]
theorem y_lookZ {t k e:TypeId} {b n:Nat} {D:DU} {L:List ByteArray} {m x:Operand} {s:ByteArray} (hown:w.ownsMap P k (plainElem P e) b n D) (hk:P.underlying k=some .string) (ht:P.underlying t=some (.map k e)) (he:P.underlying e=some .bool)
    (hz:∀ w,(zeroValue e).run P w=.ok (.bool false) w) (hm:ev env m=some (.map (some b))) (hx:ev env x=some (.string s)) (hs:s.size≤maxLen) (hc:SM D L) :
    Y P (Like w) env ⟨dst,.lookup t m x false,ty,pos,after,g⟩ (.bool (hasS L s)):=fun N a w' ha hw=>by
  have h2:w'.ownsMap P k (plainElem P e) b n D:=(mapR P k e b n D).stable w w' (fun i hi=>by have hi':i=b:=hi;subst hi';exact hw.block i hown.lt) hown
  obtain ⟨v,ps,hrun,hv⟩:=h2.lookup (Maps.string_keyed hk) ht (hz w') (plainElem_bool (H:=Unit) he false) (Go.WideMaps.keyOf_string_mk hk hs)
  rw [hc.2 s] at hv
  have e1:v=.bool (hasS L s):=by
    cases v with
    | bool c =>
      rw [plainElem_bool he] at hv
      have:=Option.some.inj hv
      have h3:=congrArg Prod.fst this
      simp only [DataW.lit.injEq,Lit.bool.injEq] at h3
      rw [h3]
    | _=>simp [plainElem,he] at hv
  subst e1
  simp only [execOp,ha.eval hm,ha.eval hx,Sem.run_bind,hrun,Sem.run_pure,Result.andThen_ok]
theorem o_mapUpZ {t k e:TypeId} {b n:Nat} {D:DU} {m x v:Operand} {s:ByteArray} {c:Bool} (S:St w0 M rs w) (j:Nat) (hj:rs[j]?=some (mapR P k e b n D)) (hk:P.underlying k=some .string) (ht:P.underlying t=some (.map k e)) (he:P.underlying e=some .bool)
    (hm:ev env m=some (.map (some b))) (hx:ev env x=some (.string s)) (hv:ev env v=some (.bool c)) (hs:s.size≤maxLen) (hn:n < 9223372036854775807)
    (h:∀ w',St w0 M (rs.set j (mapR P k e b (n+1) (D.put (.string s.data.toList) (.lit (.bool c))))) w'→K env w') :
    O P N Q ⟨none,.mapUpdate t m x v,ty,pos,after,g⟩ env w K:=fun a ha=>by
  have hown:w.ownsMap P k (plainElem P e) b n D:=S.get j hj
  obtain ⟨w',hrun,h1,h2⟩:=hown.update (Maps.string_keyed hk) ht (by unfold maxLen;exact hn) (Go.WideMaps.keyOf_string_mk hk hs) (plainElem_bool (H:=Unit) he c)
  unfold Oper.wp
  simp only [execOp,ha.eval hm,ha.eval hx,ha.eval hv,Sem.run_bind,hrun,Sem.run_pure,Result.andThen_ok]
  refine ⟨env,ha,h w' (S.upd j hj h2.os h2.tape h2.output h2.size (fun i hi hn=>h2.block i hi fun e=>hn ?_) h1 fun i hi=>.inl hi)⟩
  injection e with e
end
end Zx
end Go.Proofs.YtgaklngnfecdaaaGreat
