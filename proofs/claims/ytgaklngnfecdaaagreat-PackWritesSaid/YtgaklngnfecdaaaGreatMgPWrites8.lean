import Derived.Test.YtgaklngnfecdaaaGreatMgPWrites7
import Derived.Test.YtgaklngnfecdaaaGreatMgPWrites2
import Derived.Test.YtgaklngnfecdaaaGreatMgPWrites5
import Derived.Test.YtgaklngnfecdaaaGreatMgPWrites3
set_option linter.unusedSimpArgs false
set_option linter.unusedVariables false
set_option maxRecDepth 100000
namespace Go.Proofs.YtgaklngnfecdaaaGreat
namespace Del
open Go.RowKit Zk Zx
def dL_:List UInt8→List UInt8→Nat
  | a::x,b::y=>if a=b then dL_ x y+1 else 0
  | _,_=>0
theorem kZ_ (a:UInt8) (l:List UInt8) (k:Nat):g8 (a::l) (k+1)=g8 l k:=by simp [g8]
theorem g8_zero (a b:UInt8) (l m:List UInt8):g8 (a::l) 0=g8 (b::m) 0↔a=b:=by
  simp only [g8,List.getD_cons_zero]
  constructor
  · intro h;exact UInt8.toNat_inj.1 (by omega)
  · intro h;rw [h]
theorem cV_:∀ (a b:List UInt8) (i:Nat),(∀ j,j < i→g8 a j=g8 b j)→i≤a.length→i≤b.length→(a.length≤i∨b.length≤i∨g8 a i≠g8 b i)→dL_ a b=i
  | [],b,i,_,h1,_,_=>by
    have:i=0:=by simpa using h1
    subst this
    unfold dL_
    rfl
  | a::x,[],i,_,_,h2,_=>by
    have:i=0:=by simpa using h2
    subst this
    rfl
  | a :: x,b::y,0,_,_,_,hs=>by
    rcases hs with hs | hs | hs
    · simp at hs
    · simp at hs
    · have:a≠b:=fun e=>hs ((g8_zero a b x y).2 e)
      unfold dL_
      rw [if_neg this]
  | a::x,b::y,i+1,h,h1,h2,hs=>by
    have e:a=b:=(g8_zero a b x y).1 (h 0 (by omega))
    unfold dL_
    rw [if_pos e,cV_ x y i (fun j hj=>by have:=h (j+1) (by omega);rwa [kZ_,kZ_] at this) (by simpa using h1) (by simpa using h2) (by simpa [kZ_] using hs)]
theorem et_ (l:List UInt8) (i j:Nat):g8 (l.drop i) j=g8 l (i+j):=by
  unfold g8
  rw [List.getD_eq_getElem?_getD,List.getD_eq_getElem?_getD,List.getElem?_drop]
theorem lk_:∀ a b:List UInt8,dL_ a b≤a.length∧dL_ a b≤b.length
  | [],b=>by unfold dL_;simp
  | a::x,[]=>by unfold dL_;simp
  | a::x,b::y=>by
    unfold dL_
    split
    · have:=lk_ x y;simp;omega
    · simp
theorem ib_:∀ (a b:List UInt8) (n:Nat),n≤dL_ a b↔n≤a.length∧n≤b.length∧a.take n=b.take n
  | a,b,0=>by simp
  | [],b,n+1=>by
    have:dL_ [] b=0:=by unfold dL_;rfl
    simp [this]
  | a::x,[],n+1=>by simp [dL_]
  | a :: x,b::y,n+1=>by
    unfold dL_
    split
    · rename_i e
      subst e
      have:=ib_ x y n
      simp only [List.length_cons,Nat.add_le_add_iff_right,List.take_succ_cons,List.cons.injEq,true_and]
      exact this
    · rename_i e
      constructor
      · intro h;omega
      · rintro ⟨_,_,h⟩
        simp only [List.take_succ_cons,List.cons.injEq] at h
        exact (e h.1).elim
theorem palike (A B:Option Addr) (n c m d:Nat) (a b:List UInt8) (w0:World) (ha:Rs w0 1 A n c (bL a)) (hb:Rs w0 1 B m d (bL b)) :
    Calls Tryz.prog 185 #[.slice A n c,.slice B m d] w0 fun e w'=>∃ u,e=.returned u∧Like w0 w'∧u=.int .i64 (dL_ a b:Int):=by
 refine v_ (env:=[(0,.slice A n c),(1,.slice B m d)]) [.slice A n c,.slice B m d] Tryz.func185 Z Tryz.ntmps185 Z Z ?_;have hn:=ha.lenb;have hm:=hb.lenb;have hc1:=ha.cap;have hc2:=hb.cap;have hm1:=ha.max;have hm2:=hb.max;have S0:=St.start w0 noM;refine a_ fun K1 hK1=>b_ (Lan Z Z (hK1 _ _ (a_ fun K2 hK2=>Rm Z Z (L_y (I_ Tryz.underlying22 Z) Z (Lm Z Z (L_y (I_ Tryz.underlying22 Z) Z (L_y (y_min Z Z) Z (Lan Z Z ?_))))))));refine hK2 _ _ (a_ fun K3 hK3=>a_ fun K4 hK4=>Rm Z Z (Lm Z Z (f_ (hK4 _ _ (r_ ?_)))));refine an_ [(0,_),(1,_),(5,_),(12,_)] (fun (i:Nat)=>[(13,.int .i64 (i:Int))]) (fun (i:Nat)=>n - i) (fun (i:Nat) (w:World)=>(i≤n∧i≤m∧∀ j,j < i→g8 a j=g8 b j)∧St w0 noM [] w) 0 (Sc Z (Sub.nil _)) (Sub.cons Z Z (Sub.cons Z Z (Sub.cons Z Z (Sub.cons Z Z (Sub.nil _))))) ?_ ?_
 ·
  exact ⟨⟨Nat.zero_le _,Nat.zero_le _,fun j h=>by omega⟩,S0⟩
 ·
  intro i w1 hrel;obtain ⟨⟨hi,hi2,hj⟩,S1⟩:=hrel;refine a_ fun K5 hK5=>b_ (L_y (L_ Z Z) Z (f_ (hK5 _ _ (a_ fun K6 hK6=>?_))));refine o_ Z (fun h14=>?_) (fun h14=>?_)
  ·
   refine j_ (hK6 _ _ (a_ fun K7 hK7=>r_ (a_ fun K8 hK8=>Rm Z Z (Lan Z Z (hK8 _ _ (a_ fun K9 hK9=>ak_ [(0,true),(1,true),(2,true),(3,true),(4,true),(5,true),(6,true),(7,true),(8,true)] aS_ (by kernel_rfl) fun w2 l2=>have S2:=S1.like l2;u_ Z (p_ Z) Z ?_))))));refine u_ Z (p_ Z) Z (u_ Z (T_ Tryz.underlying22 sz5 Z Z (S2.rd ha) (Nt.mk (by omega):Nt _ (i)) (by omega)) Z (DL_yb Z (ep_ Tryz.underlying5 Z Z (S2.rd ha) (by omega)) Z fun _ _=>u_ Z (p_ Z) Z (u_ Z (p_ Z) Z (u_ Z (T_ Tryz.underlying22 sz5 Z Z (S2.rd hb) (Nt.mk (by omega):Nt _ (i)) (by omega)) Z (DL_yb Z (ep_ Tryz.underlying5 Z Z (S2.rd hb) (by omega)) Z fun _ _=>u_ Z (ab_ Z Z) Z (aH_ (hK9 _ _ ?_)))))));refine o_ Z (fun h24=>?_) (fun h24=>?_)
   ·
    refine a_ fun K10 hK10=>Rm Z Z (Lan Z Z (hK10 _ _ (l_ (ur (F_ Z Z ?_)))));first | exact ⟨_,rfl,S2.like0,by rw [cV_ a b i hj (by omega) (by omega) (.inr (.inr h24))]⟩ | exact ⟨_,rfl,S2.like0,by rw [cV_ a b i hj (by omega) (by omega) (by omega)];congr 1;omega⟩
   ·
    refine j_ (hK7 _ _ (b_ (L_y (w_ Z Z (z_ (by omega))) Z (Lm Z Z (f_ (⟨i+1,by omega,⟨⟨by omega,by omega,fun j h=>by rcases Nat.lt_or_ge j i with q | q;exact hj j q;(rw [show j=i by omega];omega)⟩,S2⟩,?_⟩))))));exact (Sc Z (Sub.cons Z Z (Sub.cons Z Z (Sub.cons Z Z (Sub.cons Z Z (Sub.nil _))))))
  ·
   refine K_ (hK3 _ _ (a_ fun K11 hK11=>Rm Z Z (Lan Z Z (hK11 _ _ (l_ (ur (F_ Z Z ?_)))))));first | exact ⟨_,rfl,S1.like0,by rw [cV_ a b i hj (by omega) (by omega) (.inr (.inr h24))]⟩ | exact ⟨_,rfl,S1.like0,by rw [cV_ a b i hj (by omega) (by omega) (by omega)];congr 1;omega⟩
theorem rbegins (A B:Option Addr) (n c m d:Nat) (a b:List UInt8) (i k:Nat) (w0:World) (ha:Rs w0 1 A n c (bL a)) (hb:Rs w0 1 B m d (bL b)) (hi0:i≤n) (hk0:k≤m) :
    Calls Tryz.prog 124 #[.slice A n c,.int .i64 (i:Int),.slice B m d,.int .i64 (k:Int)] w0 fun e w'=>∃ u,e=.returned u∧Like w0 w'∧u=.int .i64 (dL_ (a.drop i) (b.drop k):Int):=by
 refine v_ (env:=[(0,.slice A n c),(1,.int .i64 (i:Int)),(2,.slice B m d),(3,.int .i64 (k:Int))]) [.slice A n c,.int .i64 (i:Int),.slice B m d,.int .i64 (k:Int)] Tryz.func124 Z Tryz.ntmps124 Z Z ?_;have hn:=ha.lenb;have hm:=hb.lenb;have hc1:=ha.cap;have hc2:=hb.cap;have hm1:=ha.max;have hm2:=hb.max;have S0:=St.start w0 noM;refine a_ fun K1 hK1=>b_ (Lan Z Z (hK1 _ _ (a_ fun K2 hK2=>b_ (Lan Z Z (hK2 _ _ (a_ fun K3 hK3=>r_ ?_))))));refine an_ [(0,_),(1,_),(2,_),(3,_)] (fun (q:Nat)=>[(9,.int .i64 (q:Int))]) (fun (q:Nat)=>n - q) (fun (q:Nat) (w:World)=>(i+q≤n∧k+q≤m∧∀ j,j < q→g8 (a.drop i) j=g8 (b.drop k) j)∧St w0 noM [] w) 0 (Sc Z (Sub.nil _)) (Sub.cons Z Z (Sub.cons Z Z (Sub.cons Z Z (Sub.cons Z Z (Sub.nil _))))) ?_ ?_
 ·
  exact ⟨⟨by omega,by omega,fun j h=>by omega⟩,S0⟩
 ·
  intro q w1 hrel;obtain ⟨⟨hq,hq2,hj⟩,S1⟩:=hrel;refine a_ fun K4 hK4=>a_ fun K5 hK5=>ak_ [(0,true),(1,true),(2,true),(3,true),(4,true),(5,true),(6,true),(7,true),(8,true),(9,true),(10,true),(11,true),(12,true),(13,true),(14,true),(15,true),(16,true),(17,true),(18,true),(19,true),(20,true),(21,true),(22,true),(23,true),(24,true),(25,true),(26,true),(27,true),(28,true)] aS_ (by kernel_rfl) fun w2 l2=>have S2:=S1.like l2;u_ Z (p_ Z) Z (u_ Z (p_ Z) Z (u_ Z (w_ Z Z (z_ (by omega))) Z (u_ Z (p_ Z) Z (u_ Z (I_ Tryz.underlying22 Z) Z (u_ Z (L_ Z Z) Z (u_ Z (p_ Z) Z ?_))))));refine ek_ 16 Z (fun h16=>?_) (fun h16=>?_)
  ·
   refine X_ Z Z Z (p_ Z) Z (X_ Z Z Z (p_ Z) Z (X_ Z Z Z (w_ Z Z (z_ (by omega))) Z (X_ Z Z Z (p_ Z) Z (X_ Z Z Z (I_ Tryz.underlying22 Z) Z (X_ Z Z Z (L_ Z Z) Z (u_ Z (gH_ Z Z) Z (u_ Z (p_ Z) Z ?_)))))));refine ek_ 24 Z (fun h24=>?_) (fun h24=>?_)
   ·
    refine X_ Z Z Z (p_ Z) Z (X_ Z Z Z (p_ Z) Z (X_ Z Z Z (p_ Z) Z (X_ Z Z Z (w_ Z Z (z_ (by omega))) Z (X_ Z Z Z (T_ Tryz.underlying22 sz5 Z Z (S2.rd ha) (Nt.mk (by omega):Nt _ (i+q)) (by omega)) Z (X_ Z Z Z (ep_ Tryz.underlying5 Z Z (S2.rd ha) (by omega)) Z (X_ Z Z Z (p_ Z) Z (X_ Z Z Z (p_ Z) Z (X_ Z Z Z (p_ Z) Z (X_ Z Z Z (w_ Z Z (z_ (by omega))) Z (X_ Z Z Z (T_ Tryz.underlying22 sz5 Z Z (S2.rd hb) (Nt.mk (by omega):Nt _ (k+q)) (by omega)) Z (X_ Z Z Z (ep_ Tryz.underlying5 Z Z (S2.rd hb) (by omega)) Z (X_ Z Z Z (am_ Z Z) Z (u_ Z (gH_ Z Z) Z ?_)))))))))))));refine aH_ (hK5 _ _ ?_);refine o_ Z (fun h38=>?_) (fun h38=>?_)
    ·
     refine j_ (hK4 _ _ (r_ (Rm Z Z (L_y (w_ Z Z (z_ (by omega))) Z (Lan Z Z (⟨q+1,by omega,⟨⟨by omega,by omega,fun j h=>by rcases Nat.lt_or_ge j q with z | z;exact hj j z;(rw [show j=q by omega,et_,et_];omega)⟩,S2⟩,?_⟩))))));exact (Sc Z (Sub.cons Z Z (Sub.cons Z Z (Sub.cons Z Z (Sub.cons Z Z (Sub.nil _))))))
    ·
     refine K_ (hK3 _ _ (a_ fun K6 hK6=>Rm Z Z (Lan Z Z (hK6 _ _ (l_ (ur (F_ Z Z ?_)))))));first | exact ⟨_,rfl,S2.like0,by rw [cV_ (a.drop i) (b.drop k) q hj (by rw [List.length_drop];omega) (by rw [List.length_drop];omega) (by rw [List.length_drop,List.length_drop,et_,et_];omega)]⟩
   ·
    refine ap_ Z Z Z Z (ap_ Z Z Z Z (ap_ Z Z Z Z (ap_ Z Z Z Z (ap_ Z Z Z Z (ap_ Z Z Z Z (ap_ Z Z Z Z (ap_ Z Z Z Z (ap_ Z Z Z Z (ap_ Z Z Z Z (ap_ Z Z Z Z (ap_ Z Z Z Z (ap_ Z Z Z Z (u_ Z (gH_ Z Z) Z ?_)))))))))))));refine aH_ (hK5 _ _ (aW_ Z (K_ (hK3 _ _ (a_ fun K7 hK7=>Rm Z Z (Lan Z Z (hK7 _ _ (l_ (ur (F_ Z Z ?_))))))))));first | exact ⟨_,rfl,S2.like0,by rw [cV_ (a.drop i) (b.drop k) q hj (by rw [List.length_drop];omega) (by rw [List.length_drop];omega) (by rw [List.length_drop,List.length_drop,et_,et_];omega)]⟩
  ·
   refine ap_ Z Z Z Z (ap_ Z Z Z Z (ap_ Z Z Z Z (ap_ Z Z Z Z (ap_ Z Z Z Z (ap_ Z Z Z Z (u_ Z (gH_ Z Z) Z (u_ Z (p_ Z) Z (ap_ Z Z Z Z (ap_ Z Z Z Z (ap_ Z Z Z Z (ap_ Z Z Z Z (ap_ Z Z Z Z (ap_ Z Z Z Z ?_)))))))))))));refine ap_ Z Z Z Z (ap_ Z Z Z Z (ap_ Z Z Z Z (ap_ Z Z Z Z (ap_ Z Z Z Z (ap_ Z Z Z Z (ap_ Z Z Z Z (u_ Z (gH_ Z Z) Z (aH_ (hK5 _ _ (aW_ Z (K_ (hK3 _ _ (a_ fun K8 hK8=>?_)))))))))))));refine Rm Z Z (Lan Z Z (hK8 _ _ (l_ (ur (F_ Z Z ?_)))));first | exact ⟨_,rfl,S2.like0,by rw [cV_ (a.drop i) (b.drop k) q hj (by rw [List.length_drop];omega) (by rw [List.length_drop];omega) (by rw [List.length_drop,List.length_drop,et_,et_];omega)]⟩
theorem rs_nil1 {w:World} {A:Option Addr} {n c:Nat} {l:List UInt8} (hl:Rs w 1 A n c (bL l)) (h:A=none):n=0:=by
  subst h
  rcases Nat.eq_zero_or_pos n with q | q
  · exact q
  · obtain ⟨_,h2,_⟩:=hl.rd.2 q
    cases h2
theorem bclone (A:Option Addr) (n c:Nat) (a:List UInt8) (w0:World) (ha:Rs w0 1 A n c (bL a)) (hmx:n≤4611686018427) :
    Calls Tryz.prog 48 #[.slice A n c] w0 fun e w'=>∃ u,e=.returned u∧Like w0 w'∧∃ A' c',u=.slice A' n c'∧w'.ownsRow w0.heap.size 5 1 (.slice A' n c') n (bL a):=by
 refine v_ (env:=[(0,.slice A n c)]) [.slice A n c] Tryz.func48 Z Tryz.ntmps48 Z Z ?_;have hz:=rs_nil1 ha;have hn:=ha.lenb;have hcap:=ha.cap;have hmax:=ha.max;have S0:=St.start w0 noM;refine a_ fun K1 hK1=>b_ (Lan Z Z (hK1 _ _ (a_ fun K2 hK2=>a_ fun K3 hK3=>Rm Z Z (L_y (y_seqn Tryz.underlying22 Z) Z (f_ (hK3 _ _ ?_))))));refine aD_ Z (fun h4=>?_) (fun h4=>?_)
 ·
  refine a_ fun K4 hK4=>b_ (Lan Z Z (hK4 _ _ (l_ (ur (F_ Z Z ?_)))));first | exact ⟨_,rfl,S0.like0,_,_,by rw [Nat.zero_add],by have h9:=S0.own 0 Z;rw [Nat.zero_add] at h9;exact h9⟩ | exact ⟨_,rfl,S0.like0,none,0,by rw [hz (by simpa using h4)],by rw [hz (by simpa using h4),show a=[] from List.eq_nil_of_length_eq_zero (by have:=hz (by simpa using h4);omega)];exact World.ownsRow_nil _ _ _ _⟩
 ·
  refine j_ (hK2 _ _ (a_ fun K5 hK5=>b_ (L_o (o_bsl0 ba_ S0 Z fun b1 w1 l1 S1=>Lm Z Z (L_o (ay_ ba_ S1 0 Z Z Z (S1.rd ha) (R_ _) Z (by omega) (by omega) fun A2 c2 w2 S2=>Lan Z Z (hK5 _ _ (l_ (ur (F_ Z Z ?_))))))))));first | exact ⟨_,rfl,S2.like0,_,_,by rw [Nat.zero_add],by have h9:=S2.own 0 Z;rw [Nat.zero_add] at h9;exact h9⟩ | exact ⟨_,rfl,S2.like0,none,0,by rw [hz (by simpa using h4)],by rw [hz (by simpa using h4),show a=[] from List.eq_nil_of_length_eq_zero (by have:=hz (by simpa using h4);omega)];exact World.ownsRow_nil _ _ _ _⟩
end Del
namespace Del
open Go.RowKit Zk Zx
def nL (l:List Nat):List Value:=l.map fun (i:Nat)=>Value.int .i64 (i:Int)
theorem nL_app (l m:List Nat):nL (l++m)=nL l++nL m:=by simp [nL]
theorem nL_one (l:List Nat):∀ u ∈ nL l,u.oneCell'=true:=fun u hu=>by
  obtain ⟨i,_,rfl⟩:=List.mem_map.1 hu
  rfl
theorem nL_len (l:List Nat):(nL l).length=l.length:=by simp [nL]
theorem nL_get {l:List Nat} {k v:Nat} (h:l[k]?=some v):(nL l)[k]?=some (.int .i64 (v:Int)):=by simp [nL,h]
def six (a:List UInt8) (i:Nat):List UInt8:=(a.drop i).take 6
def gy_ (a:List UInt8) (k:Nat) (key:List UInt8):List Nat:=(List.range k).filter fun i=>six a i == key
theorem kf_ (a:List UInt8) (k:Nat) (key:List UInt8):gy_ a (k+1) key=gy_ a k key++(if six a k=key then [k] else []):=by
  unfold gy_
  rw [List.range_succ,List.filter_append]
  congr 1
  by_cases h:six a k=key <;> simp [h]
theorem kJ_ {a:List UInt8} {k i:Nat} {key:List UInt8} (h:i ∈ gy_ a k key):i < k:=by
  have:=(List.mem_filter.1 h).1
  simpa using this
theorem posF_len (a:List UInt8) (k:Nat) (key:List UInt8):(gy_ a k key).length≤k:=by
  unfold gy_
  have:=List.length_filter_le (fun i=>six a i == key) (List.range k)
  simpa using this
structure PE where
  k:List UInt8
  A:Option Addr
  n:Nat
  c:Nat
  xs:List Nat
def PE.ent (p:PE):List UInt8 × Value:=(p.k,.slice p.A p.n p.c)
def PE.row (p:PE):Res:=Zx.row 3 1 p.A p.n p.c (nL p.xs)
structure PI (a:List UInt8) (k:Nat) (pes:List PE):Prop where
  each:∀ p ∈ pes,p.xs=gy_ a k p.k
  nodup:(pes.map PE.k).Nodup
  all:∀ i,i < k→six a i ∈ pes.map PE.k
theorem PI.start (a:List UInt8):PI a 0 []:=⟨fun p hp=>(List.not_mem_nil hp).elim,List.Pairwise.nil,fun i h=>by omega⟩
theorem kq_ {pes:List PE} {key:List UInt8} {i:Nat} {v:Value} (h:eA_ key (pes.map PE.ent) 0=some (i,v)):∃ p,pes[i]?=some p∧p.k=key∧v=.slice p.A p.n p.c:=by
  obtain ⟨_,h2⟩:=dO_ h
  rw [Nat.sub_zero,List.getElem?_map] at h2
  cases hp:pes[i]? with
  | none=>rw [hp] at h2;cases h2
  | some p =>
    rw [hp] at h2
    have h3:=Option.some.inj h2
    exact ⟨p,rfl,congrArg Prod.fst h3,(congrArg Prod.snd h3).symm⟩
theorem ent_none {pes:List PE} {key:List UInt8} (h:eA_ key (pes.map PE.ent) 0=none):key ∉ pes.map PE.k:=fun hm=>by
  obtain ⟨p,hp,e⟩:=List.mem_map.1 hm
  exact hP_ h (PE.ent p) (List.mem_map.2 ⟨p,hp,rfl⟩) e
theorem PI.found {a:List UInt8} {k i:Nat} {pes:List PE} (h:PI a k pes) {p:PE} (hp:pes[i]?=some p) (hk:p.k=six a k) {q:PE} (hq:q.k=p.k) (hx:q.xs=p.xs++[k]):PI a (k+1) (pes.set i q):=by
  have hmap:(pes.set i q).map PE.k=pes.map PE.k:=by
    rw [List.map_set,hq]
    have:(pes.map PE.k)[i]?=some p.k:=by rw [List.getElem?_map,hp];rfl
    obtain ⟨h1,h2⟩:=List.getElem?_eq_some_iff.1 this
    rw [← h2,List.set_getElem_self]
  have hil:=(List.getElem?_eq_some_iff.1 hp).1
  refine ⟨fun r hr=>?_,by rw [hmap];exact h.nodup,fun j hj=>?_⟩
  · obtain ⟨j,hj,rfl⟩:=List.getElem_of_mem hr
    rw [kf_]
    by_cases e:i=j
    · subst e
      rw [List.getElem_set_self,hx,if_pos (by rw [hq,hk]),hq,h.each p (List.mem_of_getElem? hp)]
    · rw [List.getElem_set_ne e]
      have hjl:j < pes.length:=by rw [List.length_set] at hj;exact hj
      have hne:six a k≠(pes[j]'hjl).k:=fun e2=>by
        have hnd:=List.pairwise_iff_getElem.1 h.nodup
        have e3:p.k=pes[j].k:=hk.trans e2
        have hpi:pes[i]=p:=by
          have:=List.getElem?_eq_getElem hil
          rw [this] at hp
          exact Option.some.inj hp
        rcases Nat.lt_or_gt_of_ne e with q1 | q1
        · exact hnd i j (by rw [List.length_map];exact hil) (by rw [List.length_map];exact hjl) q1 (by rw [List.getElem_map,List.getElem_map,hpi];exact e3)
        · exact hnd j i (by rw [List.length_map];exact hjl) (by rw [List.length_map];exact hil) q1 (by rw [List.getElem_map,List.getElem_map,hpi];exact e3.symm)
      rw [if_neg hne,List.append_nil]
      exact h.each _ (List.getElem_mem hjl)
  · rw [hmap]
    rcases Nat.lt_or_ge j k with q1 | q1
    · exact h.all j q1
    · have e:j=k:=by omega
      subst e
      rw [← hk]
      exact List.mem_map.2 ⟨p,List.mem_of_getElem? hp,rfl⟩
theorem PI.new {a:List UInt8} {k:Nat} {pes:List PE} (h:PI a k pes) (hk:six a k ∉ pes.map PE.k) {q:PE} (hq:q.k=six a k) (hx:q.xs=[k]):PI a (k+1) (pes++[q]):=by
  refine ⟨fun r hr=>?_,?_,fun j hj=>?_⟩
  · rw [kf_]
    rcases List.mem_append.1 hr with hr | hr
    · have hne:six a k≠r.k:=fun e=>hk (by rw [e];exact List.mem_map.2 ⟨r,hr,rfl⟩)
      rw [if_neg hne,List.append_nil]
      exact h.each r hr
    · obtain rfl:=List.mem_singleton.1 hr
      rw [if_pos hq.symm,hx]
      have:gy_ a k r.k=[]:=by
        rw [List.eq_nil_iff_forall_not_mem]
        intro i hi
        have h1:=kJ_ hi
        have h2:six a i=r.k:=by simpa using (List.mem_filter.1 hi).2
        exact hk (by rw [← hq, ← h2];exact h.all i h1)
      rw [this]
      rfl
  · rw [List.map_append,List.map_cons,List.map_nil,List.nodup_append]
    refine ⟨h.nodup,by simp,fun x hx y hy=>?_⟩
    rw [List.mem_singleton.1 hy,hq]
    intro e
    exact hk (by rw [← e];exact hx)
  · rw [List.map_append,List.mem_append]
    rcases Nat.lt_or_ge j k with q1 | q1
    · exact .inl (h.all j q1)
    · have e:j=k:=by omega
      subst e
      exact .inr (by simp [hq])
theorem rows_at {pes:List PE} {i:Nat} {p:PE} (h:pes[i]?=some p):pes.map PE.row=(pes.take i).map PE.row++p.row::(pes.drop (i+1)).map PE.row:=by
  obtain ⟨h1,h2⟩:=List.getElem?_eq_some_iff.1 h
  rw [← h2, ← List.map_cons (f:=PE.row),List.getElem_cons_drop, ← List.map_append,List.take_append_drop]
theorem rows_set {pes:List PE} {i:Nat} {q:PE} (h:i < pes.length):(pes.take i).map PE.row++q.row::(pes.drop (i+1)).map PE.row=(pes.set i q).map PE.row:=by
  rw [List.set_eq_take_append_cons_drop,if_pos h,List.map_append,List.map_cons]
theorem ents_set {pes:List PE} {i:Nat} {q:PE}:(pes.map PE.ent).set i (PE.ent q)=(pes.set i q).map PE.ent:=by rw [List.map_set]
theorem look_pes {a:List UInt8} {k:Nat} {pes:List PE} (h:PI a k pes) (key:List UInt8) {w:World} (hf:(fam (pes.map PE.row)).holds w):∃ A n c,getB key (pes.map PE.ent) (.slice none 0 0)=.slice A n c∧Rs w 1 A n c (nL (gy_ a k key)):=by
  unfold getB
  cases hp:eA_ key (pes.map PE.ent) 0 with
  | some x =>
    obtain ⟨i,v⟩:=x
    obtain ⟨p,h1,h2,h3⟩:=kq_ hp
    have hm:=List.mem_of_getElem? h1
    refine ⟨p.A,p.n,p.c,h3,?_⟩
    have h4:p.row.holds w:=hf.1 _ (List.mem_map.2 ⟨p,hm,rfl⟩)
    rw [← h2, ← h.each p hm]
    exact cd_ h4
  | none =>
    refine ⟨none,0,0,rfl,?_⟩
    have:gy_ a k key=[]:=by
      rw [List.eq_nil_iff_forall_not_mem]
      intro i hi
      have h1:=kJ_ hi
      have h2:six a i=key:=by simpa using (List.mem_filter.1 hi).2
      exact ent_none hp (by rw [← h2];exact h.all i h1)
    rw [this]
    exact Rs.nil w 1
def bK_ (a t:List UInt8) (s:Nat × Nat) (k:Nat):Nat × Nat:=if s.2 < dL_ (a.drop k) t then (k,dL_ (a.drop k) t) else s
def bst (a t:List UInt8):Nat × Nat:=if t.length < 6 then (0,0) else (gy_ a (a.length - 5) (t.take 6)).foldl (bK_ a t) (0,0)
def bstA (a t:List UInt8) (k:Nat):Nat × Nat:=(List.range k).foldl (bK_ a t) (0,0)
theorem gu_ (a t:List UInt8) (k:Nat):bstA a t (k+1)=bK_ a t (bstA a t k) k:=by
  unfold bstA
  rw [List.range_succ,List.foldl_append]
  rfl
theorem six_iff {a t:List UInt8} {k:Nat} (ht:6≤t.length):6≤dL_ (a.drop k) t↔k < a.length - 5∧six a k=t.take 6:=by
  rw [ib_,List.length_drop]
  unfold six
  constructor
  · rintro ⟨h1,h2,h3⟩;exact ⟨by omega,h3⟩
  · rintro ⟨h1,h2⟩;exact ⟨by omega,ht,h2⟩
def RelB (s s':Nat × Nat):Prop:=(s.2 < 6∧s'=(0,0))∨(6≤s.2∧s'=s)
theorem hM_ (a t:List UInt8) (p:Nat→Bool) (hp:∀ k,p k=true↔6≤dL_ (a.drop k) t):∀ (xs:List Nat) (s s':Nat × Nat),RelB s s'→RelB (xs.foldl (bK_ a t) s) ((xs.filter p).foldl (bK_ a t) s')
  | [],s,s',h=>h
  | k :: xs,s,s',h=>by
    cases hk:p k with
    | true =>
      rw [List.filter_cons,if_pos hk]
      refine hM_ a t p hp xs _ _ ?_
      have h6:=(hp k).1 hk
      unfold bK_
      rcases h with ⟨h1,rfl⟩ | ⟨h1,rfl⟩
      · rw [if_pos (by omega),if_pos (by show 0 < _;omega)]
        exact .inr ⟨h6,rfl⟩
      · split
        · exact .inr ⟨h6,rfl⟩
        · exact .inr ⟨h1,rfl⟩
    | false =>
      rw [List.filter_cons,if_neg (by rw [hk];exact Bool.false_ne_true)]
      refine hM_ a t p hp xs _ _ ?_
      have h6:dL_ (a.drop k) t < 6:=by
        apply Nat.lt_of_not_le
        intro h2
        rw [(hp k).2 h2] at hk
        cases hk
      unfold bK_
      rcases h with ⟨h1,rfl⟩ | ⟨h1,rfl⟩
      · split
        · exact .inl ⟨h6,rfl⟩
        · exact .inl ⟨h1,rfl⟩
      · rw [if_neg (by omega)]
        exact .inr ⟨h1,rfl⟩
theorem bst_all (a t:List UInt8):RelB (bstA a t a.length) (bst a t):=by
  unfold bst
  by_cases ht:t.length < 6
  · rw [if_pos ht]
    refine .inl ⟨?_,rfl⟩
    have:∀ (xs:List Nat) (s:Nat × Nat),s.2 < 6→(xs.foldl (bK_ a t) s).2 < 6:=by
      intro xs
      induction xs with
      | nil=>exact fun s h=>h
      | cons k xs ih =>
        intro s h
        refine ih _ ?_
        unfold bK_
        split
        · show dL_ _ t < 6
          have:=(lk_ (a.drop k) t).2
          omega
        · exact h
    exact this _ _ (by decide)
  · rw [if_neg ht]
    have h:=hM_ a t (fun k=>decide (k < a.length - 5) && (six a k == t.take 6)) (fun k=>by
      rw [six_iff (by omega)]
      simp) (List.range a.length) (0,0) (0,0) (.inl ⟨by decide,rfl⟩)
    have e:(List.range a.length).filter (fun k=>decide (k < a.length - 5) && (six a k == t.take 6))=gy_ a (a.length - 5) (t.take 6):=by
      unfold gy_
      have e3:(fun k=>decide (k < a.length - 5) && (six a k == t.take 6))=(fun k=>(six a k == t.take 6) && decide (k < a.length - 5)):=by funext k;rw [Bool.and_comm]
      rw [e3, ← List.filter_filter]
      congr 1
      have e2:List.range a.length=List.range (a.length - 5)++(List.range (a.length - (a.length - 5))).map (a.length - 5 + ·):=by
        rw [← List.range_add]
        congr 1
        omega
      rw [e2,List.filter_append]
      have h1:(List.range (a.length - 5)).filter (fun k=>decide (k < a.length - 5))=List.range (a.length - 5):=by
        rw [List.filter_eq_self]
        intro x hx
        simpa using hx
      have h2:((List.range (a.length - (a.length - 5))).map (a.length - 5 + ·)).filter (fun k=>decide (k < a.length - 5))=[]:=by
        rw [List.filter_eq_nil_iff]
        intro x hx
        obtain ⟨y,_,rfl⟩:=List.mem_map.1 hx
        simp
      rw [h1,h2,List.append_nil]
    rw [e] at h
    exact h
theorem fold_bd {a t:List UInt8}:∀ (xs:List Nat) (s:Nat × Nat),s.2≤t.length∧s.1+s.2≤a.length→(xs.foldl (bK_ a t) s).2≤t.length∧(xs.foldl (bK_ a t) s).1+(xs.foldl (bK_ a t) s).2≤a.length
  | [],s,h=>h
  | k :: xs,s,h=>by
    refine fold_bd xs _ ?_
    unfold bK_
    split
    · rename_i hk
      have h1:=lk_ (a.drop k) t
      rw [List.length_drop] at h1
      refine ⟨h1.2,?_⟩
      show k+dL_ (a.drop k) t≤a.length
      omega
    · exact h
theorem bst_bd (a t:List UInt8):(bst a t).2≤t.length∧(bst a t).1+(bst a t).2≤a.length:=by
  unfold bst
  split
  · simp
  · exact fold_bd _ _ (by simp)
end Del
namespace Del
open Go.RowKit Zk Zx
theorem gh_ {a:List UInt8} {k:Nat} (h:k+6≤a.length):(six a k).length=6:=by unfold six;rw [List.length_take,List.length_drop];omega
theorem cut_six {w:World} {A:Option Addr} {n c k:Nat} {a:List UInt8} (h:Rs w 1 A n c (bL a)) (hk:k+6≤n):Rs w 1 (ct_ A c k 1) (k+6 - k) (c - k) (bL (six a k)):=by
  have h2:=h.cut (l:=k) (u:=k+6) (by omega) hk
  have e:((bL a).drop (k*1)).take ((k+6 - k)*1)=bL (six a k):=by
    rw [Nat.mul_one,Nat.mul_one,show k+6 - k=6 by omega]
    simp [bL,six]
  rwa [e] at h2
theorem take_six (a:List UInt8) (k:Nat) (h:k+6≤a.length):(six a k).take 6=six a k:=List.take_of_length_le (by rw [gh_ h];exact Nat.le_refl _)
theorem places (A:Option Addr) (n c:Nat) (a:List UInt8) (w0:World) (ha:Rs w0 1 A n c (bL a)) (hmx:n≤4000) :
    Calls Tryz.prog 161 #[.slice A n c] w0 fun e w'=>∃ u,e=.returned u∧Like w0 w'∧∃ b pes,u=.map (some b)∧PI a (a.length - 5) pes∧St w0 noM [eM_ 6 b (pes.map PE.ent),fam (pes.map PE.row)] w':=by
 refine v_ (env:=[(0,.slice A n c)]) [.slice A n c] Tryz.func161 Z Tryz.ntmps161 Z Z ?_;have hn:=ha.lenb;have hcap:=ha.cap;have hmax:=ha.max;have S0:=St.start w0 noM;refine a_ fun K1 hK1=>b_ (Lan Z Z (hK1 _ _ (a_ fun K2 hK2=>b_ (L_o (jp_ (n:=6) S0 Z fun b1 w1 hb1 S1=>Lan Z Z (hK2 _ _ (a_ fun K3 hK3=>a_ fun K4 hK4=>b_ ?_)))))));refine Lan Z Z (hK4 _ _ (r_ ?_));refine bX_ [(0,_),(3,_)] (fun (k:Nat) (pes:List PE)=>[(4,.int .i64 (k:Int))]) (fun (k:Nat) (pes:List PE)=>n - k) (fun (k:Nat) (pes:List PE) (w:World)=>k≤n - 5∧PI a k pes∧St w0 noM [eM_ 6 b1 (pes.map PE.ent),fam (pes.map PE.row)] w) 0 [] (Sc Z (Sub.nil _)) (Sub.cons Z Z (Sub.cons Z Z (Sub.nil _))) ?_ ?_
 ·
  have S9:=S1.fam0;exact ⟨Nat.zero_le _,PI.start a,S9⟩
 ·
  intro k pes w2 hrel;obtain ⟨hk,hpi0,S2⟩:=hrel;refine a_ fun K5 hK5=>a_ fun K6 hK6=>Rm Z Z (L_y (w_ Z Z (z_ (by omega))) Z (Lm Z Z (L_y (I_ Tryz.underlying22 Z) Z (L_y (ie_ Z Z) Z (f_ (hK6 _ _ ?_))))));refine o_ Z (fun h11=>?_) (fun h11=>?_)
  ·
   refine j_ (hK5 _ _ (a_ fun K7 hK7=>r_ (a_ fun K8 hK8=>Rm Z Z (Lm Z Z (Lm Z Z (L_y (w_ Z Z (z_ (by omega))) Z (L_y (en_ Tryz.underlying22 sz5 Z Z Z (Nt.mk (by omega):Nt _ (k)) (Nt.mk (by omega):Nt _ (k+6)) (by omega) (by omega)) Z (L_y (y_arrAt Tryz.underlying265 Z (by omega)) Z (L_y (y_ldArr Tryz.underlying265 sz265 Z (cut_six (S2.rd ha) (by omega)) (by omega) (by omega)) Z (L_o (H_ zz265 S2 Z fun b3 w3 hb3 S3=>?_)))))))))));refine L_o (G_ S3 2 Z Z Z (by rw [size_bA,List.length_take,gh_ (by omega)];exact sz265) (by rw [size_bA,List.length_take,gh_ (by omega)];rfl) (R_ _) fun w4 S4=>?_);refine f_ (hK8 _ _ (Rm Z Z (L_y (Y_ Tryz.underlying265 Z sz265 Z (S4.blk 2 Z) (show _=bL (six a k)∧_ from ⟨by rw [take_six a k (by omega)];exact List.take_of_length_le (by show (bL (six a k)).length≤6;rw [length_bL,gh_ (by omega)];exact Nat.le_refl _),by rw [length_bL,gh_ (by omega)]⟩)) Z ?_)));refine Lm Z Z (L_o (ah_ [_] eK_ zz3 S4 Z Z Z Z Z Z Z Z fun b5 w5 S5=>?_));refine L_o (o_entryB S5 0 Z Tryz.underlying248 Tryz.underlying265 Tryz.underlying5 sz5 zz111 Z Z (gh_ (by omega)) Z (fun i6 v6 hp6 S6=>?_) (fun hp6 w6 S6=>?_))
   ·
    obtain ⟨p,hpi,hpk,rfl⟩:=kq_ hp6;have hil:=(List.getElem?_eq_some_iff.1 hpi).1;have S91:=S6.famOutAt 1 Z (rows_at hpi);have hpx:=hpi0.each p (List.mem_of_getElem? hpi);have hpn:p.n=p.xs.length:=by have:=(S91.row 4 Z).len;rw [nL_len] at this;omega
    have hpl:=posF_len a k p.k;rw [← hpx] at hpl;refine L_y (m_ Z Z) Z (L_o (ay_ eK_ S91 4 Z Z Z (by first | exact S91.fix 1 Z | exact S91.row 3 Z | exact S91.row 4 Z) (nL_one [k]) Z (by omega) (by omega) fun A7 c7 w7 S7=>?_));have S7d:=S7.drop (rs':=[_,_,_,_]) (.cons_cons _ (.cons_cons _ (.cons_cons _ (.cons _ (.refl _)))));refine L_y (m_ Z Z) Z ?_;refine L_o (jq_ S7d 0 Z (show (pes.map PE.ent)[i6]?=some (six a k,Value.slice p.A p.n p.c) from by rw [List.getElem?_map,hpi, ← hpk];rfl) Z Z Z fun w8 S8=>?_);refine f_ (hK7 _ _ (Rm Z Z (L_y (w_ Z Z (z_ (by omega))) Z (Lan Z Z ?_))));have S92:=S8.sel [0,1,3] (by decide);have S93:=St.famInAt (rs:=[eM_ 6 b1 ((pes.map PE.ent).set i6 (six a k,Value.slice A7 (p.n+1) c7)),fam ((pes.take i6).map PE.row++(pes.drop (i6+1)).map PE.row)]) (r:=row 3 1 A7 (p.n+1) c7 (nL p.xs++nL [k])) S92 1 Z;have e93:(pes.map PE.ent).set i6 (six a k,Value.slice A7 (p.n+1) c7)=(pes.set i6 (⟨p.k,A7,p.n+1,c7,p.xs++[k]⟩:PE)).map PE.ent:=by rw [← ents_set];unfold PE.ent;rw [hpk]
    have e94:(pes.take i6).map PE.row++row 3 1 A7 (p.n+1) c7 (nL p.xs++nL [k])::(pes.drop (i6+1)).map PE.row=(pes.set i6 (⟨p.k,A7,p.n+1,c7,p.xs++[k]⟩:PE)).map PE.row:=by rw [← rows_set hil];unfold PE.row;rw [nL_app]
    have S94:St w0 noM [eM_ 6 b1 ((pes.set i6 (⟨p.k,A7,p.n+1,c7,p.xs++[k]⟩:PE)).map PE.ent),fam ((pes.set i6 (⟨p.k,A7,p.n+1,c7,p.xs++[k]⟩:PE)).map PE.row)] w8:=by rw [← e93, ← e94];exact S93
    refine ⟨k+1,pes.set i6 (⟨p.k,A7,p.n+1,c7,p.xs++[k]⟩:PE),by omega,⟨by omega,hpi0.found hpi hpk Z Z,S94⟩,?_⟩;exact (Sc Z (Sub.cons Z Z (Sub.cons Z Z (Sub.nil _))))
   ·
    have S91:=S6.nilrow 3 1;refine L_y (m_ Z Z) Z (L_o (ay_ eK_ S91 4 Z Z Z (by first | exact S91.fix 1 Z | exact S91.row 3 Z | exact S91.row 4 Z) (nL_one [k]) Z (by omega) (by omega) fun A9 c9 w9 S9=>?_));have S9d:=S9.drop (rs':=[_,_,_,_]) (.cons_cons _ (.cons_cons _ (.cons_cons _ (.cons _ (.refl _)))));refine L_y (m_ Z Z) Z ?_;refine L_o (jq_ S9d 0 Z (show (pes.map PE.ent++[(six a k,Value.slice none 0 0)])[(pes.map PE.ent).length]?=some (six a k,Value.slice none 0 0) from List.getElem?_concat_length) Z Z Z fun w10 S10=>?_);refine f_ (hK7 _ _ (Rm Z Z (L_y (w_ Z Z (z_ (by omega))) Z (Lan Z Z ?_))));have S92:=S10.sel [0,1,3] (by decide);have S93:=St.famInAt (L1:=pes.map PE.row) (L2:=[]) (rs:=[eM_ 6 b1 ((pes.map PE.ent++[(six a k,Value.slice none 0 0)]).set (pes.map PE.ent).length (six a k,Value.slice A9 (0+1) c9)),fam (pes.map PE.row++[])]) (r:=row 3 1 A9 (0+1) c9 ([]++nL [k])) (by rw [List.append_nil];exact S92) 1 Z;have e93:(pes.map PE.ent++[(six a k,Value.slice none 0 0)]).set (pes.map PE.ent).length (six a k,Value.slice A9 (0+1) c9)=(pes++[(⟨six a k,A9,1,c9,[k]⟩:PE)]).map PE.ent:=by rw [List.set_append_right _ _ (Nat.le_refl _),Nat.sub_self,List.map_append];rfl
    have S94:St w0 noM [eM_ 6 b1 ((pes++[(⟨six a k,A9,1,c9,[k]⟩:PE)]).map PE.ent),fam ((pes++[(⟨six a k,A9,1,c9,[k]⟩:PE)]).map PE.row)] w10:=by rw [← e93,List.map_append];exact S93
    refine ⟨k+1,pes++[(⟨six a k,A9,1,c9,[k]⟩:PE)],by omega,⟨by omega,hpi0.new (ent_none hp6) Z Z,S94⟩,?_⟩;exact (Sc Z (Sub.cons Z Z (Sub.cons Z Z (Sub.nil _))))
  ·
   refine K_ (hK3 _ _ (a_ fun K9 hK9=>Rm Z Z (Lan Z Z (hK9 _ _ (l_ (ur (F_ Z Z ?_)))))));have hke:k=a.length - 5:=by omega
   subst hke;exact ⟨_,rfl,S2.like0,b1,pes,rfl,hpi0,S2⟩
end Del
namespace Del
open Go.RowKit Zk Zx
theorem take1 {α:Type} {l:List α} {k:Nat} {x : α} (hx:l[k]?=some x):l.take (k+1)=l.take k++[x]:=by rw [List.take_add_one,hx];rfl
theorem cut_tail {w:World} {A:Option Addr} {n c k:Nat} {a:List UInt8} (h:Rs w 1 A n c (bL a)) (hk:k≤n):Rs w 1 (ct_ A c k 1) (n - k) (c - k) (bL (a.drop k)):=by
  have hl:=h.lenb
  have h2:=h.cut (l:=k) (u:=n) hk (Nat.le_refl _)
  have e:((bL a).drop (k*1)).take ((n - k)*1)=bL (a.drop k):=by
    rw [Nat.mul_one,Nat.mul_one]
    have e2:(bL a).drop k=bL (a.drop k):=by simp [bL]
    rw [e2]
    exact List.take_of_length_le (by simp;omega)
  rwa [e] at h2
theorem cut_mid {w:World} {A:Option Addr} {n c k u:Nat} {a:List UInt8} (h:Rs w 1 A n c (bL a)) (hk:k≤u) (hu:u≤n):Rs w 1 (ct_ A c k 1) (u - k) (c - k) (bL ((a.drop k).take (u - k))):=by
  have h2:=h.cut (l:=k) (u:=u) hk hu
  have e:((bL a).drop (k*1)).take ((u - k)*1)=bL ((a.drop k).take (u - k)):=by
    rw [Nat.mul_one,Nat.mul_one]
    simp [bL]
  rwa [e] at h2
theorem six0 (t:List UInt8):(six t 0).take 6=t.take 6:=by unfold six;rw [List.drop_zero,List.take_take,Nat.min_self]
theorem longest (A B:Option Addr) (n c m d b:Nat) (a t:List UInt8) (pes:List PE) (w0:World) (ha:Rs w0 1 A n c (bL a)) (ht:Rs w0 1 B m d (bL t)) (hmx:n≤4000) (hmt:m≤4000) (hm:(eM_ 6 b (pes.map PE.ent)).holds w0) (hmd:∀ i,i=b→i < w0.heap.size) (hf:(fam (pes.map PE.row)).holds w0) (hpi:PI a (a.length - 5) pes) :
    Calls Tryz.prog 163 #[.slice A n c,.map (some b),.slice B m d] w0 fun e w'=>∃ u,e=.returned u∧Like w0 w'∧u=.tuple #[.int .i64 ((bst a t).1:Int),.int .i64 ((bst a t).2:Int)]:=by
 refine v_ (env:=[(0,.slice A n c),(1,.map (some b)),(2,.slice B m d)]) [.slice A n c,.map (some b),.slice B m d] Tryz.func163 Z Tryz.ntmps163 Z Z ?_;have hn:=ha.lenb;have hcap:=ha.cap;have hmax:=ha.max;have hmn:=ht.lenb;have hcap2:=ht.cap;have hmax2:=ht.max;have S0:=St.start w0 noM;refine a_ fun K1 hK1=>b_ (La Z Z (Lan Z Z (hK1 _ _ (a_ fun K2 hK2=>a_ fun K3 hK3=>Rm Z Z (L_y (I_ Tryz.underlying22 Z) Z (L_y (L_ Z Z) Z (f_ (hK3 _ _ ?_))))))));refine o_ Z (fun h15=>?_) (fun h15=>?_)
 ·
  refine a_ fun K4 hK4=>b_ (La Z Z (Lan Z Z (hK4 _ _ (l_ (ur (bj_ Z Z Z ?_))))));first | exact ⟨_,rfl,S0.like0,by unfold bst;rw [if_pos (by omega)];rfl⟩ | exact ⟨_,rfl,S0.like0,by unfold bst;rw [if_neg (by omega),hs,List.take_of_length_le (by omega)]⟩
 ·
  refine j_ (hK2 _ _ (a_ fun K5 hK5=>b_ (La Z Z (Lan Z Z (hK5 _ _ (a_ fun K6 hK6=>a_ fun K7 hK7=>Rm Z Z (Lm Z Z (L_y (gW_ Tryz.underlying22 sz5 Z Z (Nt.mk Z:Nt _ 6) (by omega)) Z ?_))))))));refine L_y (y_arrAt Tryz.underlying265 Z (Nat.le_refl 6)) Z (L_y (y_ldArr Tryz.underlying265 sz265 Z (cut_six (S0.rd ht) (by omega)) (Nat.le_refl 6) (by omega)) Z ?_);obtain ⟨X,xn,xc,hg,hX⟩:=look_pes hpi ((six t 0).take 6) hf;rw [six0] at hX;have hxl:xn=(gy_ a (a.length - 5) (t.take 6)).length:=by have:=hX.len;rw [nL_len] at this;omega
  have hxc:=hX.cap;have hxm:=hX.max;have hpl:=posF_len a (a.length - 5) (t.take 6);refine L_y ((show Y Tryz.prog _ _ _ (Value.slice X xn xc) from by rw [← hg];exact y_lookB (S0.keepM hm hmd (fun _ _ h=>h)) Tryz.underlying248 Tryz.underlying265 Tryz.underlying5 sz5 zz111 Z Z (by rw [six0,List.length_take];omega))) Z ?_;refine L_y (I_ Tryz.underlying111 Z) Z (Lm Z Z (f_ (hK7 _ _ (r_ ?_))));refine bX_ [(0,_),(2,_),(21,_),(22,_)] (fun (q:Nat) (s:Nat × Nat)=>[(23,.int .i64 (q:Int)),(8,.int .i64 (s.1:Int)),(9,.int .i64 (s.2:Int))]) (fun (q:Nat) (s:Nat × Nat)=>xn - q) (fun (q:Nat) (s:Nat × Nat) (w:World)=>(q≤xn∧s=((gy_ a (a.length - 5) (t.take 6)).take q).foldl (bK_ a t) (0,0))∧St w0 noM [] w) 0 (0,0) (Sc Z (Sc Z (Sc Z (Sub.nil _)))) (Sub.cons Z Z (Sub.cons Z Z (Sub.cons Z Z (Sub.cons Z Z (Sub.nil _))))) ?_ ?_
  ·
   exact ⟨⟨Nat.zero_le _,rfl⟩,S0⟩
  ·
   intro q s w1 hrel;obtain ⟨⟨hq,hs⟩,S1⟩:=hrel;refine a_ fun K8 hK8=>b_ (L_y (L_ Z Z) Z (f_ (hK8 _ _ (a_ fun K9 hK9=>?_))));refine o_ Z (fun h24=>?_) (fun h24=>?_)
   ·
    obtain ⟨v,hv⟩:∃ v,(gy_ a (a.length - 5) (t.take 6))[q]?=some v:=⟨_,List.getElem?_eq_getElem (by omega)⟩;have hvl:=kJ_ (List.mem_of_getElem? hv);refine j_ (hK9 _ _ (a_ fun K10 hK10=>r_ (a_ fun K11 hK11=>b_ (L_y (T_ Tryz.underlying111 sz3 Z Z (S1.rd hX) (Nt.mk (by omega):Nt _ (q)) (by omega)) Z (L_y (cj_ Tryz.underlying3 Z Z (S1.rd hX) (nL_get hv)) Z (Lan Z Z (hK11 _ _ (a_ fun K12 hK12=>Rm Z Z ?_))))))));refine Lm Z Z (L_y (cv_ Tryz.underlying22 sz5 Z Z (Nt.mk (by omega):Nt _ (v)) (by omega)) Z (Lm Z Z (L_o (n_ Tryz.func185 Z Z (palike (ct_ A c v 1) B (n - v) (c - v) m d (a.drop v) t w1 (cut_tail (S1.rd ha) (by omega)) (S1.rd ht)) Z Z ?_))));rintro e2 w2 ⟨v2,rfl,l2,rfl⟩;refine ⟨_,rfl,(have S2:=S1.like l2;Lan Z Z (hK12 _ _ (a_ fun K13 hK13=>Rm Z Z (Lm Z Z (L_y (Z_ Z Z) Z (f_ (hK13 _ _ ?_)))))))⟩;refine o_ Z (fun h34=>?_) (fun h34=>?_)
    ·
     refine Rm Z Z (Lm Z Z (La Z Z (Lan Z Z (hK10 _ _ (b_ (L_y (w_ Z Z (z_ (by omega))) Z (Lm Z Z (f_ (⟨q+1,bK_ a t s v,by omega,⟨⟨by omega,by rw [take1 hv,List.foldl_append, ← hs];rfl⟩,S2⟩,?_⟩)))))))));exact (Sc Z (Sub.cons Z (by first | rfl | (unfold bK_;rw [if_pos (by omega)]) | (unfold bK_;rw [if_neg (by omega)])) (Sub.cons Z (by first | rfl | (unfold bK_;rw [if_pos (by omega)]) | (unfold bK_;rw [if_neg (by omega)])) (Sub.cons Z Z (Sub.cons Z Z (Sub.cons Z Z (Sub.cons Z Z (Sub.nil _))))))))
    ·
     refine j_ (hK10 _ _ (b_ (L_y (w_ Z Z (z_ (by omega))) Z (Lm Z Z (f_ (⟨q+1,bK_ a t s v,by omega,⟨⟨by omega,by rw [take1 hv,List.foldl_append, ← hs];rfl⟩,S2⟩,?_⟩))))));exact (Sc Z (Sub.cons Z (by first | rfl | (unfold bK_;rw [if_pos (by omega)]) | (unfold bK_;rw [if_neg (by omega)])) (Sub.cons Z (by first | rfl | (unfold bK_;rw [if_pos (by omega)]) | (unfold bK_;rw [if_neg (by omega)])) (Sub.cons Z Z (Sub.cons Z Z (Sub.cons Z Z (Sub.cons Z Z (Sub.nil _))))))))
   ·
    refine K_ (hK6 _ _ (a_ fun K14 hK14=>Rm Z Z (Lm Z Z (La Z Z (Lan Z Z (hK14 _ _ (l_ (ur (bj_ Z Z Z ?_)))))))));first | exact ⟨_,rfl,S1.like0,by unfold bst;rw [if_pos (by omega)];rfl⟩ | exact ⟨_,rfl,S1.like0,by unfold bst;rw [if_neg (by omega),hs,List.take_of_length_le (by omega)]⟩
end Del
namespace Del
open Go.RowKit Zk Zx
theorem _root_.Go.Proofs.YtgaklngnfecdaaaGreat.Zx.St.rdBM {w0 w:World} {M:Nat→Prop} {rs:List Res} (S:St w0 M rs w) {g t:Nat} {cs:Array Value} (h:Blk w0 g t cs) (hM:¬ M g):Blk w g t cs:=(S.old g h.lt hM).trans h
def scr (b:Nat) (x y:Int) (A:Option Addr) (n c:Nat) (ops:List OP) (ps:List Part):Res:=sep (blk b 179 (scA x y A n c)) (sep (row 221 4 A n c (ops.flatMap opf)) (fam (ps.map bE_)))
def InP (ops:List OP) (ps:List Part):Prop:=∀ o ∈ ops,o.p=p0∨o.p ∈ ps
theorem kD_ (x y:Int) (A:Option Addr) (n c:Nat) (A':Option Addr) (n' c':Nat):(scA x y A n c).setIfInBounds 2 (.slice A' n' c')=scA x y A' n' c':=by simp [scA]
def fl (t:List UInt8) (s e:Nat):List OV:=if s < e then [⟨false,0,0,(t.drop s).take (e - s)⟩] else []
theorem InP.add {ops:List OP} {ps:List Part} (h:InP ops ps) {o:OP}:InP (ops++[o]) (ps++[o.p]):=fun q hq=>by
  rcases List.mem_append.1 hq with hq | hq
  · rcases h q hq with h1 | h1
    · exact .inl h1
    · exact .inr (List.mem_append_left _ h1)
  · obtain rfl:=List.mem_singleton.1 hq
    exact .inr (List.mem_append_right _ (List.mem_singleton.2 Z))
theorem InP.add0 {ops:List OP} {ps:List Part} (h:InP ops ps) {o:OP} (ho:o.p=p0):InP (ops++[o]) ps:=fun q hq=>by
  rcases List.mem_append.1 hq with hq | hq
  · exact h q hq
  · obtain rfl:=List.mem_singleton.1 hq
    exact .inl ho
theorem famAdd {w0 w:World} {M:Nat→Prop} {rs:List Res} {ps:List Part} {p:Part} (S:St w0 M (rs++[bE_ p]) w) (k:Nat) (hk:rs[k]?=some (fam (ps.map bE_))):St w0 M (rs.set k (fam ((ps++[p]).map bE_))) w:=by
  have h:=St.famInAt (L1:=ps.map bE_) (L2:=[]) S k (by rw [List.append_nil];exact hk)
  rw [List.map_append]
  exact h
theorem fin_scr {w0 w:World} {r:Res} {b:Nat} {x y:Int} {A:Option Addr} {n' c:Nat} {xs:List Value} {ops:List OP} {ps:List Part} (S:St w0 r.dom [blk b 179 (scA x y A n' c),row 221 4 A n' c xs,fam (ps.map bE_)] w) (hn:n'=ops.length) (hx:xs=ops.flatMap opf):Turned w0 w r (scr b x y A ops.length c ops ps):=by
  subst hn;subst hx
  have S1:=St.sepj (rs:=[blk b 179 (scA x y A ops.length c)]) S
  have S2:=St.sepj (rs:=[]) S1
  exact S2.turned1 0 Z
theorem open_scr {w:World} {b:Nat} {x y:Int} {A:Option Addr} {n c:Nat} {ops:List OP} {ps:List Part} (h:(scr b x y A n c ops ps).holds w) (hd:∀ i,(scr b x y A n c ops ps).dom i→i < w.heap.size):St w (scr b x y A n c ops ps).dom [blk b 179 (scA x y A n c),row 221 4 A n c (ops.flatMap opf),fam (ps.map bE_)] w :=
  St.seps (rs:=[blk b 179 (scA x y A n c)]) (St.seps (rs:=[]) (St.borrow1 _ h hd))
theorem flush (e0 s0 b8 b6 b3:Nat) (x y:Int) (A B:Option Addr) (c m d:Nat) (ops:List OP) (ps:List Part) (t:List UInt8) (w0:World) (hw:(scr b6 x y A ops.length c ops ps).holds w0) (hd:∀ i,(scr b6 x y A ops.length c ops ps).dom i→i < w0.heap.size) (h8:Blk w0 b8 3 #[.int .i64 (s0:Int)]) (h8M:¬ (scr b6 x y A ops.length c ops ps).dom b8) (h3:Blk w0 b3 22 #[.slice B m d]) (h3M:¬ (scr b6 x y A ops.length c ops ps).dom b3) (ht:Rs w0 1 B m d (bL t)) (htM:∀ ad,0 < m→B=some ad→¬ (scr b6 x y A ops.length c ops ps).dom ad.block) (hmt:m≤4000) (he:e0≤m) (hin:InP ops ps) (hol:ops.length≤100000) :
    Calls Tryz.prog 162 #[.int .i64 (e0:Int),.pointer (some ⟨b8,0,none⟩),.pointer (some ⟨b6,0,none⟩),.pointer (some ⟨b3,0,none⟩)] w0 fun e w'=>∃ u,e=.returned u∧∃ A' c' ops' ps',ops'.map OP.v=ops.map OP.v++fl t s0 e0∧ops'.length≤ops.length+1∧InP ops' ps'∧Turned w0 w' (scr b6 x y A ops.length c ops ps) (scr b6 x y A' ops'.length c' ops' ps'):=by
 refine v_ (env:=[(0,.int .i64 (e0:Int)),(1,.pointer (some ⟨b8,0,none⟩)),(2,.pointer (some ⟨b6,0,none⟩)),(3,.pointer (some ⟨b3,0,none⟩))]) [.int .i64 (e0:Int),.pointer (some ⟨b8,0,none⟩),.pointer (some ⟨b6,0,none⟩),.pointer (some ⟨b3,0,none⟩)] Tryz.func162 Z Tryz.ntmps162 Z Z ?_;have hmn:=ht.lenb;have hcap2:=ht.cap;have hmax2:=ht.max;have S0:=open_scr hw hd;have hrc:=(S0.row 1 Z).cap;have hrm:=(S0.row 1 Z).max;refine a_ fun K1 hK1=>Rm Z Z (L_y (t_ Tryz.underlying3 Z Z (((S0.rdBM h8 h8M).cell _).trans (by rfl))) Z ?_);refine L_y (Z_ Z Z) Z (f_ (hK1 _ _ ?_));refine o_ Z (fun h7=>?_) (fun h7=>?_)
 ·
  refine dy_ [0,1,2,3,4,5,6,7,8] 9 [(0,1),(1,1),(2,1),(3,1),(4,1),(5,1),(6,2),(7,1),(8,2),(9,3),(10,3),(11,3)] aS_ (by kernel_rfl) fun w1 l1=>have S1:=S0.like l1;ga_ (Like w1) (Like.refl _) (Q_ Z (g_ 2 Tryz.underlying179 Z fA_ Z Z Z) Z (Q_ Z (t_ Tryz.underlying177 Z Z (((S1.blk 0 Z).cell _).trans (by rfl))) Z ?_));refine Q_ Z (t_ Tryz.underlying22 Z Z (((S1.rdBM h3 h3M).cell _).trans (by rfl))) Z ?_;refine Q_ Z (t_ Tryz.underlying3 Z Z (((S1.rdBM h8 h8M).cell _).trans (by rfl))) Z ?_;refine Q_ Z (p_ Z) Z (Q_ Z (en_ Tryz.underlying22 sz5 Z Z Z (Nt.mk (by omega):Nt _ (s0)) (Nt.mk (by omega):Nt _ (e0)) (by omega) (by omega)) Z (fF_ Z (n_ Tryz.func48 Z Z (bclone (ct_ B d s0 1) (e0 - s0) (d - s0) ((t.drop s0).take (e0 - s0)) w1 (cut_mid (S1.rdM ht htM) (by omega) (by omega)) (by omega)) Z Z ?_)));rintro e2 w2 ⟨v2,rfl,l2,A14,c14,rfl,O2⟩;refine ⟨_,rfl,l2,(have S2:=S1.adopt l2 O2;have q2:=l2;Q_ Z (C_ Z (show _=some #[Value.bool false,Value.int .i64 0,Value.int .i64 0,Value.slice A14 (e0 - s0) c14] by kernel_rfl)) Z (fF_ Z (eB_ [_,_,_,_] te177 gU_ S2 Z Z Z Z Z Z Z Z fun b3 w3 l3 S3=>have q3:=Like.trans q2 l3;⟨q3,(fZ_ Z (ay_ te177 S3 1 Z Z Z (by first | exact S3.row 1 Z | exact S3.fix 2 Z | exact S3.row 3 Z | exact S3.row 4 Z) (fun u hu=>bp_ ⟨false,0,0,⟨A14,e0 - s0,c14,[]⟩⟩ u hu) Z (by omega) (by omega) fun A4 c4 w4 S4=>?_))⟩)))⟩;have S4d:=S4.drop (rs':=[_,_,_,_]) (.cons_cons _ (.cons_cons _ (.cons_cons _ (.cons_cons _ (.cons _ (.refl _))))));refine dx_ Z (g_ 2 Tryz.underlying179 Z fA_ Z Z Z) Z (ZA_o Z (ac_ S4d 0 Z Z Z Z fA_ (by show 2 < 3;decide) fun w5 S5=>?_));refine cA_ ?_;first | refine cg_ (fn:=Tryz.f162) Z ?_ | (simp only [bf_,inB,if_true];refine cg_ (fn:=Tryz.f162) Z ?_)
  have S90:=S5.blkc 0 Z (kD_ x y A ops.length c A4 (ops.length+1) c4);have S91:=S90.still 3 Z;have S92:=famAdd (rs:=[_,_,fam (ps.map bE_)]) (ps:=ps) (p:=⟨A14,e0 - s0,c14,(t.drop s0).take (e0 - s0)⟩) (S91.sel [0,1,2,3] (by decide)) 2 Z;exact ⟨_,rfl,_,_,ops++[⟨false,0,0,⟨A14,e0 - s0,c14,(t.drop s0).take (e0 - s0)⟩⟩],_,by rw [List.map_append];unfold fl;rw [if_pos (by omega)];rfl,by rw [List.length_append];exact Nat.le_refl _,hin.add (o:=⟨false,0,0,⟨A14,e0 - s0,c14,(t.drop s0).take (e0 - s0)⟩⟩),fin_scr (A:=A4) (n':=ops.length+1) (c:=c4) (xs:=ops.flatMap opf++opf ⟨false,0,0,⟨A14,e0 - s0,c14,[]⟩⟩) (ps:=ps++[(⟨A14,e0 - s0,c14,(t.drop s0).take (e0 - s0)⟩:Part)]) S92 (by rw [List.length_append];rfl) (by rw [List.flatMap_append];rfl)⟩
 ·
  refine j_ ?_;first | refine cg_ (fn:=Tryz.f162) Z ?_ | (simp only [bf_,inB,if_true];refine cg_ (fn:=Tryz.f162) Z ?_)
  exact ⟨_,rfl,A,c,ops,ps,by unfold fl;rw [if_neg (by omega),List.append_nil],Nat.le_succ _,hin,fin_scr S0 Z Z⟩
end Del
namespace Del
open Go.RowKit Zk Zx
section
variable {w0 w w' : World} {M : Nat → Prop} {rs : List Res} {b : Nat} {x y : Int} {A A' : Option Addr} {n n' c c' : Nat} {ops ops' : List OP} {ps ps' : List Part}
theorem packScr (S:St w0 M (rs++[blk b 179 (scA x y A n c),row 221 4 A n c (ops.flatMap opf),fam (ps.map bE_)]) w):St w0 M (rs++[scr b x y A n c ops ps]) w:=by
  have S1:=St.sepj (rs:=rs++[blk b 179 (scA x y A n c)]) (r:=row 221 4 A n c (ops.flatMap opf)) (s:=fam (ps.map bE_)) (by simpa using S)
  exact St.sepj (rs:=rs) (by simpa using S1)
theorem unpackScr (S:St w0 M (rs++[scr b x y A n c ops ps]) w):St w0 M (rs++[blk b 179 (scA x y A n c),row 221 4 A n c (ops.flatMap opf),fam (ps.map bE_)]) w:=by
  have S1:=St.seps (rs:=rs) S
  have S2:=St.seps (rs:=rs++[blk b 179 (scA x y A n c)]) (r:=row 221 4 A n c (ops.flatMap opf)) (s:=fam (ps.map bE_)) (by simpa using S1)
  simpa using S2
theorem flushScr (S:St w0 M (rs++[blk b 179 (scA x y A n c),row 221 4 A n c (ops.flatMap opf),fam (ps.map bE_)]) w) (T:Turned w w' (scr b x y A n c ops ps) (scr b x y A' n' c' ops' ps')) :
    St w0 M (rs++[blk b 179 (scA x y A' n' c'),row 221 4 A' n' c' (ops'.flatMap opf),fam (ps'.map bE_)]) w':=by
  have S1:=(packScr S).turn rs.length (by simp) T
  refine unpackScr ?_
  simpa using S1
theorem dv_ (S:St w0 M (rs++[blk b 179 (scA x y A n c),row 221 4 A n c (ops.flatMap opf),fam (ps.map bE_)]) w) :
    (scr b x y A n c ops ps).holds w∧(∀ i,(scr b x y A n c ops ps).dom i→i < w.heap.size)∧(∀ r ∈ rs,∀ i,r.dom i→¬ (scr b x y A n c ops ps).dom i)∧(∀ i,i < w0.heap.size→¬ M i→¬ (scr b x y A n c ops ps).dom i):=by
  have S1:=packScr S
  obtain ⟨h1,h2⟩:=S1.res (scr b x y A n c ops ps) (by simp)
  have hap:=S1.apart
  rw [List.pairwise_append] at hap
  refine ⟨h1,fun i hi=>(h2 i hi).1,fun r hr i hi=>hap.2.2 r hr _ (by simp) i hi,fun i hi hM hd=>?_⟩
  rcases (h2 i hd).2 with h | h
  · omega
  · exact hM h
end
theorem cY_ (x y:Int) (A:Option Addr) (n c:Nat):∀ u ∈ (scA x y A n c).toList,u.oneCell'=true:=fun u hu=>by
  have:u ∈ [Value.int .i64 x,.int .i64 y,.slice A n c]:=hu
  simp only [List.mem_cons,List.not_mem_nil,or_false] at this
  rcases this with rfl | rfl | rfl <;> rfl
def mkR (a t:List UInt8):Nat→Nat→Nat→List OV
  | 0,_,since=>fl t since t.length
  | f+1,at_,since=>if at_ < t.length then (if (bst a (t.drop at_)).2=0 then mkR a t f (at_+1) since else fl t since at_++[⟨true,((bst a (t.drop at_)).1:Int),((bst a (t.drop at_)).2:Int),[]⟩]++mkR a t f (at_+(bst a (t.drop at_)).2) (at_+(bst a (t.drop at_)).2)) else fl t since t.length
def mkV (a t:List UInt8):List OV:=mkR a t t.length 0 0
theorem mkR_end {a t:List UInt8} {f k s:Nat} (h:t.length≤k):mkR a t f k s=fl t s t.length:=by
  cases f with
  | zero=>rfl
  | succ f=>unfold mkR;rw [if_neg (by omega)]
theorem mkR_zero {a t:List UInt8} {f k s:Nat} (h:k < t.length) (h0:(bst a (t.drop k)).2=0):mkR a t (f+1) k s=mkR a t f (k+1) s:=by
  conv=>lhs;unfold mkR
  rw [if_pos h,if_pos h0]
theorem mkR_copy {a t:List UInt8} {f k s:Nat} (h:k < t.length) (h0:(bst a (t.drop k)).2≠0):mkR a t (f+1) k s=fl t s k++[⟨true,((bst a (t.drop k)).1:Int),((bst a (t.drop k)).2:Int),[]⟩]++mkR a t f (k+(bst a (t.drop k)).2) (k+(bst a (t.drop k)).2):=by
  conv=>lhs;unfold mkR
  rw [if_pos h,if_neg h0]
def MKI (a t:List UInt8) (k s:Nat) (ops:List OP):Prop:=∃ f,t.length - k≤f∧ops.map OP.v++mkR a t f k s=mkV a t
theorem MKI.start (a t:List UInt8):MKI a t 0 0 []:=⟨t.length,by omega,rfl⟩
theorem MKI.zero {a t:List UInt8} {k s:Nat} {ops:List OP} (h:MKI a t k s ops) (hk:k < t.length) (h0:(bst a (t.drop k)).2=0):MKI a t (k+1) s ops:=by
  obtain ⟨f,h1,h2⟩:=h
  obtain ⟨g,rfl⟩:∃ g,f=g+1:=⟨f - 1,by omega⟩
  rw [mkR_zero hk h0] at h2
  exact ⟨g,by omega,h2⟩
theorem MKI.copy {a t:List UInt8} {k s:Nat} {ops ops':List OP} (h:MKI a t k s ops) (hk:k < t.length) (h0:(bst a (t.drop k)).2≠0) (ho:ops'.map OP.v=ops.map OP.v++fl t s k++[⟨true,((bst a (t.drop k)).1:Int),((bst a (t.drop k)).2:Int),[]⟩]) :
    MKI a t (k+(bst a (t.drop k)).2) (k+(bst a (t.drop k)).2) ops':=by
  obtain ⟨f,h1,h2⟩:=h
  obtain ⟨g,rfl⟩:∃ g,f=g+1:=⟨f - 1,by omega⟩
  rw [mkR_copy hk h0] at h2
  refine ⟨g,by omega,?_⟩
  rw [ho, ← h2]
  simp only [List.append_assoc]
theorem MKI.done {a t:List UInt8} {k s:Nat} {ops ops':List OP} (h:MKI a t k s ops) (hk:t.length≤k) (ho:ops'.map OP.v=ops.map OP.v++fl t s t.length):ops'.map OP.v=mkV a t:=by
  obtain ⟨f,h1,h2⟩:=h
  rw [mkR_end hk] at h2
  rw [ho,h2]
theorem okO_of {w:World} {ops:List OP} {ps:List Part} (h:InP ops ps) (hf:(fam (ps.map bE_)).holds w):OkO w ops:=fun o ho=>by
  rcases h o ho with h1 | h1
  · rw [h1];exact Rs.nil w 1
  · exact hf.1 (bE_ o.p) (List.mem_map.2 ⟨_,h1,rfl⟩)
end Del
namespace Del
open Go.RowKit Zk Zx
end Del
namespace Del
open Go.RowKit Zk Zx
end Del
namespace Del
open Go.RowKit Zk Zx
end Del
namespace Del
open Go.RowKit Zk Zx
def layV (a:List UInt8) (o:OV):List UInt8:=if o.cp then (a.drop o.fr.toNat).take o.n.toNat else o.l
def fs_ (a:List UInt8) (l:List OV):List UInt8:=l.flatMap (layV a)
def bW_ (a:List UInt8) (b t:Int) (l:List OV):List UInt8 × Int:=if eb_ b t l≠0 then ([],eb_ b t l) else if (a.length:Int)≠b then ([],21) else (fs_ a l,0)
theorem eh_ {a:List UInt8} {b t:Int} {l:List OV} (h:eb_ b t l≠0):bW_ a b t l=([],eb_ b t l):=by unfold bW_;rw [if_pos h]
theorem dq_ {a:List UInt8} {b t:Int} {l:List OV} (h:eb_ b t l=0) (h2:(a.length:Int)≠b):bW_ a b t l=([],21):=by unfold bW_;rw [if_neg (fun h3=>h3 h),if_pos h2]
theorem ev_ {a:List UInt8} {b t:Int} {l:List OV} (h:eb_ b t l=0) (h2:(a.length:Int)=b):bW_ a b t l=(fs_ a l,0):=by unfold bW_;rw [if_neg (fun h3=>h3 h),if_neg (fun h3=>h3 h2)]
theorem eT_ {b t:Int} {l:List OV} (h:eb_ b t l=0):(0≤b∧b≤4000∧0≤t∧t≤4000)∧bP_ b t l=true:=by
  unfold eb_ at h
  split at h
  · rename_i h1
    unfold chkV at h1
    rw [Bool.and_eq_true] at h1
    exact ⟨of_decide_eq_true h1.1,h1.2⟩
  · cases h
theorem ic_ {b left:Int} {l:List OP} {k:Nat} {o:OP} (ho:l[k]?=some o) (h:bP_ b left ((l.map OP.v).drop k)=true):rtV b o.v=true∧szV o.v≤left∧bP_ b (left - szV o.v) ((l.map OP.v).drop (k+1))=true:=by
  rw [ed_ (map_at ho)] at h
  unfold bP_ at h
  rw [Bool.and_eq_true,Bool.and_eq_true] at h
  exact ⟨h.1.1,of_decide_eq_true h.1.2,h.2⟩
theorem rt_cp {b:Int} {o:OP} (h:rtV b o.v=true) (hc:o.cp=true):1≤o.n∧o.n≤b∧0≤o.fr∧o.fr≤b - o.n∧szV o.v=o.n:=by
  unfold rtV at h
  rw [if_pos (show o.v.cp=true from hc)] at h
  simp only [Bool.and_eq_true,decide_eq_true_eq] at h
  exact ⟨h.1.1.1.1,h.1.1.1.2,h.1.1.2,h.1.2,by unfold szV;rw [if_pos (show o.v.cp=true from hc)];rfl⟩
theorem rt_new {b:Int} {o:OP} (h:rtV b o.v=true) (hc:o.cp=false):1≤o.p.l.length∧szV o.v=(o.p.l.length:Int):=by
  unfold rtV at h
  rw [if_neg (show ¬ o.v.cp=true from by rw [show o.v.cp=o.cp from Z,hc];exact Bool.false_ne_true)] at h
  simp only [Bool.and_eq_true,decide_eq_true_eq] at h
  exact ⟨h.1.1,by unfold szV;rw [if_neg (show ¬ o.v.cp=true from by rw [show o.v.cp=o.cp from Z,hc];exact Bool.false_ne_true)];rfl⟩
theorem kA_ {a:List UInt8} {l:List OP} {k:Nat} {o:OP} (ho:l[k]?=some o):fs_ a ((l.take (k+1)).map OP.v)=fs_ a ((l.take k).map OP.v)++layV a o.v:=by
  rw [take1 ho,List.map_append]
  unfold fs_
  rw [List.flatMap_append]
  simp
theorem lay_cp {a:List UInt8} {o:OP} (hc:o.cp=true):layV a o.v=(a.drop o.fr.toNat).take (o.fr.toNat+o.n.toNat - o.fr.toNat):=by
  unfold layV
  rw [if_pos (show o.v.cp=true from hc),Nat.add_sub_cancel_left]
  rfl
theorem lay_new {a:List UInt8} {o:OP} (hc:o.cp=false):layV a o.v=o.p.l:=by
  unfold layV
  rw [if_neg (show ¬ o.v.cp=true from by rw [show o.v.cp=o.cp from Z,hc];exact Bool.false_ne_true)]
  rfl
theorem iK_ (l m:List UInt8):bL l++bL m=bL (l++m):=by simp [bL]
theorem papply (A:Option Addr) (n c:Nat) (a:List UInt8) (B:Option Addr) (m d:Nat) (l:List OP) (b t:Int) (w0:World) (ha:Rs w0 1 A n c (bL a)) (hl:Rs w0 4 B m d (l.flatMap opf)) (hok:OkO w0 l) :
    Calls Tryz.prog 99 #[.slice A n c,.agg (scA b t B m d)] w0 fun e w'=>∃ u,e=.returned u∧Like w0 w'∧∃ A' c',u=.tuple #[.slice A' (bW_ a b t (l.map OP.v)).1.length c',.int .i64 (bW_ a b t (l.map OP.v)).2]∧w'.ownsRow w0.heap.size 5 1 (.slice A' (bW_ a b t (l.map OP.v)).1.length c') (bW_ a b t (l.map OP.v)).1.length (bL (bW_ a b t (l.map OP.v)).1):=by
 refine v_ (env:=[(0,.slice A n c),(1,.agg (scA b t B m d))]) [.slice A n c,.agg (scA b t B m d)] Tryz.func99 Z Tryz.ntmps99 Z Z ?_;have hm:=ops_n hl;have hcapm:=hl.cap;have hmaxm:=hl.max;have hn:=ha.lenb;have hcap:=ha.cap;have hmax:=ha.max;have S0:=St.start w0 noM;refine a_ fun K1 hK1=>b_ (L_o (bO_ Z S0 Z fun b1 w1 hb1 S1=>La Z Z (Lan Z Z (hK1 _ _ (a_ fun K2 hK2=>a_ fun K3 hK3=>b_ (L_y (Y_ Tryz.underlying179 Z cr_ Z (S1.blk 0 Z) (show _=(scA b t B m d).toList∧_ from ⟨rfl,rfl⟩)) Z (L_o (n_ Tryz.func134 Z Z (pcheck B m d l b t w1 (S1.rd hl) (hok.like S1.like0)) Z Z ?_))))))));rintro e2 w2 ⟨v2,rfl,l2,rfl⟩;refine ⟨_,rfl,(have S2:=S1.like l2;Lan Z Z (hK3 _ _ (a_ fun K4 hK4=>Rm Z Z (L_y (ab_ Z Z) Z (f_ (hK4 _ _ ?_))))))⟩;refine o_ Z (fun h13=>?_) (fun h13=>?_)
 ·
  refine a_ fun K5 hK5=>Rm Z Z (La Z Z (Lan Z Z (hK5 _ _ (l_ (ur (bj_ Z Z Z ?_))))));first | exact ⟨_,rfl,S2.like0,none,0,by rw [eh_ h13];rfl,by rw [eh_ h13];exact World.ownsRow_nil _ _ _ _⟩ | exact ⟨_,rfl,S2.like0,none,0,by rw [dq_ h130 (by omega)];rfl,by rw [dq_ h130 (by omega)];exact World.ownsRow_nil _ _ _ _⟩ | (have hke:k=m:=by omega);subst hke;rw [List.take_of_length_le (by omega)] at hout;exact ⟨_,rfl,S2.like0,A1,c1,by rw [ev_ h130 (by omega), ← hout],by rw [ev_ h130 (by omega), ← hout];exact S2.own 1 Z⟩
 ·
  have h130:=Decidable.byContradiction h13;obtain ⟨hrg,hall⟩:=eT_ h130;refine j_ (hK2 _ _ (a_ fun K6 hK6=>a_ fun K7 hK7=>Rm Z Z (L_y (I_ Tryz.underlying22 Z) Z (L_y (g_ 0 Tryz.underlying179 Z sz3 Z Z Z) Z (L_y (t_ Tryz.underlying3 Z Z (((S2.blk 0 Z).cell _).trans (by rfl))) Z ?_)))));refine L_y (ab_ Z Z) Z (f_ (hK7 _ _ ?_));refine o_ Z (fun h19=>?_) (fun h19=>?_)
  ·
   refine a_ fun K8 hK8=>b_ (La Z Z (Lan Z Z (hK8 _ _ (l_ (ur (bj_ Z Z Z ?_))))));first | exact ⟨_,rfl,S2.like0,none,0,by rw [eh_ h13];rfl,by rw [eh_ h13];exact World.ownsRow_nil _ _ _ _⟩ | exact ⟨_,rfl,S2.like0,none,0,by rw [dq_ h130 (by omega)];rfl,by rw [dq_ h130 (by omega)];exact World.ownsRow_nil _ _ _ _⟩ | (have hke:k=m:=by omega);subst hke;rw [List.take_of_length_le (by omega)] at hout;exact ⟨_,rfl,S2.like0,A1,c1,by rw [ev_ h130 (by omega), ← hout],by rw [ev_ h130 (by omega), ← hout];exact S2.own 1 Z⟩
  ·
   refine j_ (hK6 _ _ (a_ fun K9 hK9=>b_ (L_y (g_ 1 Tryz.underlying179 Z sz3 Z Z Z) Z (L_y (t_ Tryz.underlying3 Z Z (((S2.blk 0 Z).cell _).trans (by rfl))) Z ?_))));refine L_o (o_make ba_ Z S2 Z Z inferInstance (Nt.mk (by omega):Nt _ t.toNat) Z (by omega) (by omega) (by omega) fun b3 w3 S3=>Lan Z Z (hK9 _ _ (a_ fun K10 hK10=>a_ fun K11 hK11=>b_ (L_y (g_ 2 Tryz.underlying179 Z fA_ Z Z Z) Z (L_y (t_ Tryz.underlying177 Z Z (((S3.blk 0 Z).cell _).trans (by rfl))) Z ?_)))));refine L_y (I_ Tryz.underlying177 Z) Z (Lm Z Z (f_ (hK11 _ _ (r_ ?_))));refine hE_ [(0,_),(24,_),(25,_)] (fun (k:Nat) (out:List UInt8) (A1:Option Addr) (c1:Nat)=>[(26,.int .i64 (k:Int)),(7,.slice A1 out.length c1)]) (fun (k:Nat) (out:List UInt8) (A1:Option Addr) (c1:Nat)=>m - k) (fun (k:Nat) (out:List UInt8) (A1:Option Addr) (c1:Nat) (w:World)=>(k≤m∧out=fs_ a ((l.take k).map OP.v)∧(out.length:Int)≤t∧bP_ b (t - (out.length:Int)) ((l.map OP.v).drop k)=true)∧St w0 noM [blk b1 179 (scA b t B m d),row 5 1 A1 out.length c1 (bL out)] w) 0 [] (some ⟨b3,0,none⟩) t.toNat (Sc Z (Sc Z (Sub.nil _))) (Sub.cons Z Z (Sub.cons Z Z (Sub.cons Z Z (Sub.nil _)))) ?_ ?_
   ·
    exact ⟨⟨Nat.zero_le _,rfl,by show (0:Int)≤t;omega,by show bP_ b (t - 0) _=true;rw [Int.sub_zero];exact hall⟩,S3⟩
   ·
    intro k out A1 c1 w4 hrel;obtain ⟨⟨hk,hout,hol,hch⟩,S4⟩:=hrel;refine a_ fun K12 hK12=>b_ (L_y (L_ Z Z) Z (f_ (hK12 _ _ (a_ fun K13 hK13=>?_))));refine o_ Z (fun h27=>?_) (fun h27=>?_)
    ·
     obtain ⟨o,ho⟩:∃ o,l[k]?=some o:=⟨_,List.getElem?_eq_getElem (by omega)⟩;have hop:=hok o (List.mem_of_getElem? ho);have hopn:=hop.lenb;have hopc:=hop.cap;have hopm:=hop.max;obtain ⟨hrt,hsz,hrest⟩:=ic_ ho hch;refine j_ (hK13 _ _ (a_ fun K14 hK14=>r_ (a_ fun K15 hK15=>b_ (L_y (T_ Tryz.underlying177 bq_ Z Z (S4.rd hl) (Nt.mk (by omega):Nt _ (k)) (by omega)) Z (L_y (cp_ (f:=opf) go_ Tryz.underlying221 Z bq_ Z (S4.rd hl) (by omega) ho) Z (L_o (H_ gU_ S4 Z fun b5 w5 hb5 S5=>L_o (G_ S5 2 Z Z Z bq_ Z (bp_ o) fun w6 S6=>f_ (hK15 _ _ (a_ fun K16 hK16=>b_ ?_))))))))));refine L_y (g_ 0 Tryz.underlying221 Z sz4 Z Z Z) Z (L_y (t_ Tryz.underlying4 Z Z (((S6.blk 2 Z).cell _).trans (by rfl))) Z ?_);refine f_ (hK16 _ _ ?_);refine aD_ Z (fun h31=>?_) (fun h31=>?_)
     ·
      have hcp:o.cp=true:=h31;obtain ⟨g1,g2,g3,g4,g5⟩:=rt_cp hrt hcp;refine Rm Z Z (Lm Z Z (L_y (g_ 1 Tryz.underlying221 Z sz3 Z Z Z) Z (L_y (t_ Tryz.underlying3 Z Z (((S6.blk 2 Z).cell _).trans (by rfl))) Z ?_)));refine L_y (g_ 1 Tryz.underlying221 Z sz3 Z Z Z) Z (L_y (t_ Tryz.underlying3 Z Z (((S6.blk 2 Z).cell _).trans (by rfl))) Z ?_);refine L_y (g_ 2 Tryz.underlying221 Z sz3 Z Z Z) Z (L_y (t_ Tryz.underlying3 Z Z (((S6.blk 2 Z).cell _).trans (by rfl))) Z ?_);refine L_y (w_ Z Z (z_ (by omega))) Z (L_y (en_ Tryz.underlying22 sz5 Z Z Z (Nt.mk (by omega):Nt _ (o.fr.toNat)) (Nt.mk (by omega):Nt _ (o.fr.toNat+o.n.toNat)) (by omega) (by omega)) Z (L_o (ay_ ba_ S6 1 Z Z Z (cut_mid (S6.rd ha) (k:=o.fr.toNat) (u:=o.fr.toNat+o.n.toNat) (by omega) (by omega)) (R_ _) Z (by omega) (by omega) fun A7 c7 w7 S7=>Lan Z Z (hK14 _ _ (b_ (L_y (w_ Z Z (z_ (by omega))) Z (Lm Z Z (f_ ?_))))))));have hpl:((a.drop o.fr.toNat).take (o.fr.toNat+o.n.toNat - o.fr.toNat)).length=o.n.toNat:=by rw [List.length_take,List.length_drop];omega
      have S91:=S7.rowc 1 Z (n':=(out++((a.drop o.fr.toNat).take (o.fr.toNat+o.n.toNat - o.fr.toNat))).length) (xs':=bL (out++((a.drop o.fr.toNat).take (o.fr.toNat+o.n.toNat - o.fr.toNat)))) (by rw [List.length_append];omega) (iK_ _ _);have S92:=S91.sel [0,1] (by decide);refine ⟨k+1,out++((a.drop o.fr.toNat).take (o.fr.toNat+o.n.toNat - o.fr.toNat)),A7,c7,by omega,⟨⟨by omega,by rw [hout,kA_ ho,lay_cp hcp],by rw [List.length_append];omega,by rw [List.length_append,show t - ((out.length+((a.drop o.fr.toNat).take (o.fr.toNat+o.n.toNat - o.fr.toNat)).length:Nat):Int)=t - (out.length:Int) - szV o.v by omega];exact hrest⟩,S92⟩,?_⟩;exact (Sc Z (Sub.cons Z (by first | rfl | (rw [List.length_append];congr 1;omega)) (Sub.cons Z Z (Sub.cons Z Z (Sub.cons Z Z (Sub.nil _))))))
     ·
      have hcp:o.cp=false:=h31;obtain ⟨g1,g2⟩:=rt_new hrt hcp;refine Rm Z Z (L_y (g_ 3 Tryz.underlying221 Z br_ Z Z Z) Z (L_y (t_ Tryz.underlying22 Z Z (((S6.blk 2 Z).cell _).trans (by rfl))) Z ?_));refine L_o (ay_ ba_ S6 1 Z Z Z (S6.rd hop) (R_ _) Z (by omega) (by omega) fun A8 c8 w8 S8=>Lan Z Z (hK14 _ _ (b_ (L_y (w_ Z Z (z_ (by omega))) Z (Lm Z Z (f_ ?_))))));have hpl:o.p.l.length=o.p.n:=hop.lenb;have S91:=S8.rowc 1 Z (n':=(out++o.p.l).length) (xs':=bL (out++o.p.l)) (by rw [List.length_append];omega) (iK_ _ _);have S92:=S91.sel [0,1] (by decide);refine ⟨k+1,out++o.p.l,A8,c8,by omega,⟨⟨by omega,by rw [hout,kA_ ho,lay_new hcp],by rw [List.length_append];omega,by rw [List.length_append,show t - ((out.length+o.p.l.length:Nat):Int)=t - (out.length:Int) - szV o.v by omega];exact hrest⟩,S92⟩,?_⟩;exact (Sc Z (Sub.cons Z (by first | rfl | (rw [List.length_append];congr 1;omega)) (Sub.cons Z Z (Sub.cons Z Z (Sub.cons Z Z (Sub.nil _))))))
    ·
     refine K_ (hK10 _ _ (a_ fun K17 hK17=>Rm Z Z (La Z Z (Lan Z Z (hK17 _ _ (l_ (ur (bj_ Z Z Z ?_))))))));first | exact ⟨_,rfl,S4.like0,none,0,by rw [eh_ h13];rfl,by rw [eh_ h13];exact World.ownsRow_nil _ _ _ _⟩ | exact ⟨_,rfl,S4.like0,none,0,by rw [dq_ h130 (by omega)];rfl,by rw [dq_ h130 (by omega)];exact World.ownsRow_nil _ _ _ _⟩ | (have hke:k=m:=by omega);subst hke;rw [List.take_of_length_le (by omega)] at hout;exact ⟨_,rfl,S4.like0,A1,c1,by rw [ev_ h130 (by omega), ← hout],by rw [ev_ h130 (by omega), ← hout];exact S4.own 1 Z⟩
end Del
namespace Del
open Go.RowKit Zk Zx
end Del
namespace Del
open Go.ChangeShapes Go.WideShapes Go.ChangeAt Go.RowKit Go.Deep Zk Zx
section
variable {H : Type} {enc : TypeId × Value → H} {w : World} {base : Nat} {spare : Nat → Bool} {held : Bool}
end
end Del
namespace Del
open Go.RowKit Zk Zx
end Del
namespace Del
open Go.RowKit Zk Zx
section
variable {b t b' t' : Int} {l k : List OV}
end
theorem InP.cat {qs rs:List OP} {ps pr:List Part} (h1:InP qs ps) (h2:InP rs pr):InP (qs++rs) (ps++pr):=fun q hq=>by
  rcases List.mem_append.1 hq with hq | hq
  · rcases h1 q hq with h | h
    · exact .inl h
    · exact .inr (List.mem_append_left _ h)
  · rcases h2 q hq with h | h
    · exact .inl h
    · exact .inr (List.mem_append_right _ h)
end Del
namespace Del
open Go.RowKit Zk Zx
end Del
namespace Del
open Go.RowKit Zk Zx
theorem fold_eq {a t:List UInt8}:∀ (xs:List Nat) (s:Nat × Nat),(a.drop s.1).take s.2=t.take s.2→(a.drop (xs.foldl (bK_ a t) s).1).take (xs.foldl (bK_ a t) s).2=t.take (xs.foldl (bK_ a t) s).2
  | [],s,h=>h
  | k::xs,s,h=>by
    refine fold_eq xs _ ?_
    unfold bK_
    split
    · exact ((ib_ (a.drop k) t _).1 (Nat.le_refl _)).2.2
    · exact h
theorem bst_eq (a t:List UInt8):(a.drop (bst a t).1).take (bst a t).2=t.take (bst a t).2:=by
  unfold bst
  split
  · simp
  · exact fold_eq _ _ (by simp)
theorem gv_ (a:List UInt8) (o:OV) (l:List OV):fs_ a (o::l)=layV a o++fs_ a l:=rfl
theorem aplV_app (a:List UInt8) (l m:List OV):fs_ a (l++m)=fs_ a l++fs_ a m:=List.flatMap_append
theorem rtV_cp {b:Int} {o:OV} (h:rtV b o=true) (hc:o.cp=true):1≤o.n∧o.n≤b∧0≤o.fr∧o.fr≤b - o.n∧o.l=[]:=by
  unfold rtV at h
  rw [if_pos hc] at h
  simp at h
  obtain ⟨⟨⟨⟨h1,h2⟩,h3⟩,h4⟩,h5⟩:=h
  exact ⟨h1,h2,h3,h4,h5⟩
theorem rtV_new {b:Int} {o:OV} (h:rtV b o=true) (hc:o.cp=false):1≤o.l.length∧o.fr=0∧o.n=0:=by
  unfold rtV at h
  rw [if_neg (by rw [hc];exact Bool.false_ne_true)] at h
  simp at h
  obtain ⟨⟨h1,h2⟩,h3⟩:=h
  exact ⟨h1,h2,h3⟩
theorem rtV_mk_cp {b fr n:Int} (h1:1≤n) (h2:0≤fr) (h3:fr≤b - n):rtV b ⟨true,fr,n,[]⟩=true:=by
  unfold rtV
  rw [if_pos Z]
  simp
  omega
theorem rtV_mk_new {b:Int} {l:List UInt8} (h1:1≤l.length):rtV b ⟨false,0,0,l⟩=true:=by
  unfold rtV
  rw [if_neg Bool.false_ne_true]
  simp
  exact h1
theorem lay_len {a:List UInt8} {o:OV} (h:rtV a.length o=true):((layV a o).length:Int)=szV o:=by
  unfold layV szV
  cases hc:o.cp with
  | true =>
    obtain ⟨h1,h2,h3,h4,h5⟩:=rtV_cp h hc
    rw [if_pos Z,if_pos Z,List.length_take,List.length_drop]
    omega
  | false=>rw [if_neg Bool.false_ne_true,if_neg Bool.false_ne_true]
theorem hC_ {a:List UInt8}:∀ (l:List OV) (left:Int),bP_ a.length left l=true↔(∀ o ∈ l,rtV a.length o=true)∧((fs_ a l).length:Int)=left
  | [],left=>by
    unfold bP_ fs_
    simp
    omega
  | o :: r,left=>by
    unfold bP_
    rw [Bool.and_eq_true,Bool.and_eq_true,hC_ r]
    constructor
    · rintro ⟨⟨h1,h2⟩,h3,h4⟩
      refine ⟨fun q hq=>?_,?_⟩
      · rcases List.mem_cons.1 hq with rfl | hq
        · exact h1
        · exact h3 q hq
      · have:=lay_len h1
        rw [gv_,List.length_append]
        omega
    · rintro ⟨h1,h2⟩
      have h3:=h1 o (List.mem_cons_self ..)
      have:=lay_len h3
      rw [gv_,List.length_append] at h2
      refine ⟨⟨h3,decide_eq_true (by omega)⟩,fun q hq=>h1 q (List.mem_cons_of_mem _ hq),by omega⟩
theorem errV_of {a:List UInt8} {t:Int} {l:List OV} (ha:a.length≤4000) (hr:∀ o ∈ l,rtV a.length o=true) (ht:((fs_ a l).length:Int)=t) (h4:t≤4000):eb_ a.length t l=0:=by
  rw [N_ (by omega),if_pos ((hC_ l t).2 ⟨hr,ht⟩)]
theorem lay_mk_cp (a:List UInt8) (fr n:Nat) (l:List UInt8):layV a ⟨true,(fr:Int),(n:Int),l⟩=(a.drop fr).take n:=by
  unfold layV
  rw [if_pos Z,Int.toNat_natCast,Int.toNat_natCast]
theorem lay_mk_new (a:List UInt8) (fr n:Int) (l:List UInt8):layV a ⟨false,fr,n,l⟩=l:=by
  unfold layV
  rw [if_neg Bool.false_ne_true]
theorem apl_fl (a t:List UInt8) (s e:Nat):fs_ a (fl t s e)=(t.drop s).take (e - s):=by
  unfold fl
  split
  · rw [gv_,lay_mk_new]
    show _++[]=_
    rw [List.append_nil]
  · rename_i h
    rw [show e - s=0 by omega]
    rfl
theorem rt_fl {b:Int} {t:List UInt8} {s e:Nat} (he:e≤t.length):∀ o ∈ fl t s e,rtV b o=true:=fun o ho=>by
  unfold fl at ho
  split at ho
  · rw [List.mem_singleton.1 ho]
    refine rtV_mk_new ?_
    rw [List.length_take,List.length_drop]
    omega
  · cases ho
theorem mkR_all (a t:List UInt8):∀ f k s,s≤k→k≤t.length→t.length - k≤f→(∀ o ∈ mkR a t f k s,rtV a.length o=true)∧fs_ a (mkR a t f k s)=t.drop s:=by
  have fin:∀ f k s,s≤k→t.length≤k→(∀ o ∈ mkR a t f k s,rtV a.length o=true)∧fs_ a (mkR a t f k s)=t.drop s:=fun f k s _ h=>by
    rw [mkR_end h]
    exact ⟨rt_fl (Nat.le_refl _),by rw [apl_fl,List.take_of_length_le (by rw [List.length_drop];exact Nat.le_refl _)]⟩
  intro f
  induction f with
  | zero=>exact fun k s h1 h2 h3=>fin 0 k s h1 (by omega)
  | succ f ih =>
    intro k s h1 h2 h3
    rcases Nat.lt_or_ge k t.length with q | q
    · by_cases h0:(bst a (t.drop k)).2=0
      · rw [mkR_zero q h0]
        exact ih (k+1) s (by omega) (by omega) (by omega)
      · rw [mkR_copy q h0]
        have hb:=bst_bd a (t.drop k)
        have he:=bst_eq a (t.drop k)
        rw [List.length_drop] at hb
        obtain ⟨i1,i2⟩:=ih (k+(bst a (t.drop k)).2) (k+(bst a (t.drop k)).2) (Nat.le_refl _) (by omega) (by omega)
        refine ⟨fun o ho=>?_,?_⟩
        · rcases List.mem_append.1 ho with ho | ho
          · rcases List.mem_append.1 ho with ho | ho
            · exact rt_fl (by omega) o ho
            · rw [List.mem_singleton.1 ho]
              exact rtV_mk_cp (by omega) (by omega) (by omega)
          · exact i1 o ho
        · rw [aplV_app,aplV_app,i2,apl_fl,gv_,lay_mk_cp,he]
          show _++(_++[])++_=_
          rw [List.append_nil,List.append_assoc]
          have e1:t.drop (k+(bst a (t.drop k)).2)=(t.drop k).drop (bst a (t.drop k)).2:=by rw [List.drop_drop]
          rw [e1,List.take_append_drop]
          have e2:t.drop k=(t.drop s).drop (k - s):=by rw [List.drop_drop];congr 1;omega
          rw [e2,List.take_append_drop]
    · exact fin _ k s h1 q
theorem hq_ (a t:List UInt8):(∀ o ∈ mkV a t,rtV a.length o=true)∧fs_ a (mkV a t)=t:=mkR_all a t t.length 0 0 (Nat.le_refl _) (Nat.zero_le _) (by omega)
theorem iD_ {a t:List UInt8} (ha:a.length≤4000) (ht:t.length≤4000):eb_ a.length t.length (mkV a t)=0 :=
  errV_of ha (hq_ a t).1 (by rw [(hq_ a t).2]) (by omega)
theorem mkV_cnt {a t:List UInt8}:(mkV a t).length≤t.length:=by
  have h:∀ (l:List OV) (left:Int),bP_ a.length left l=true→(l.length:Int)≤left:=by
    intro l
    induction l with
    | nil=>intro left h;unfold bP_ at h;have:=of_decide_eq_true h;simp;omega
    | cons o r ih =>
      intro left h
      unfold bP_ at h
      rw [Bool.and_eq_true,Bool.and_eq_true] at h
      have h1:=cC_ h.1.1
      have h2:=ih _ h.2
      rw [List.length_cons]
      omega
  have:=h _ _ ((hC_ (a:=a) (mkV a t) t.length).2 ⟨(hq_ a t).1,by rw [(hq_ a t).2]⟩)
  omega
end Del
namespace Oct
open Go.RowKit Zk Zx
def rdr (g:Nat) (A:Option Addr) (n c:Nat) (l:List UInt8) (p q:Nat):Res:=both (blk g 218 #[.slice A n c,.int .i64 (p:Int),.int .i64 (q:Int)]) (row 5 1 A n c (bL l))
theorem do_ {w:World} {g n c p q:Nat} {A:Option Addr} {l:List UInt8} (h:(rdr g A n c l p q).holds w):∀ i,(blk g 218 #[.slice A n c,.int .i64 (p:Int),.int .i64 (q:Int)]).dom i→¬ (row 5 1 A n c (bL l)).dom i:=fun i hi hr=>by
  have hi':i=g:=hi
  subst hi'
  exact gO_ (e:=5) h.2 h.1 (by decide) hr
theorem dC_ {w:World} {g n c p q:Nat} {A:Option Addr} {l:List UInt8} (h:(rdr g A n c l p q).holds w):∀ i,(rdr g A n c l p q).dom i→i < w.heap.size:=fun i hi=>by
  rcases hi with hi | hi
  · have hi':i=g:=hi
    subst hi'
    exact Blk.lt h.1
  · exact (World.ownsRow.lt h.2 i hi).2
theorem ck_ {w:World} {g n c p q:Nat} {A:Option Addr} {l:List UInt8} (h:(rdr g A n c l p q).holds w):l.length=n:=by
  have:=h.2.1
  simpa using this
def tkL (l:List UInt8) (p k:Nat):List UInt8:=if k≤l.length - p then (l.drop p).take k else []
def tkP (l:List UInt8) (p k:Nat):Nat:=if k≤l.length - p then p+k else p
def tkE (l:List UInt8) (p k q:Nat):Nat:=if k≤l.length - p then q else 10
theorem fresh_ {w0 w:World} {rs:List Res} (S:St w0 noM rs w) (k:Nat) {r:Res} (hk:rs[k]?=some r):∀ i,r.dom i→w0.heap.size≤i∧i < w.heap.size:=fun i hi=>by
  have:=(S.res r (List.mem_of_getElem? hk)).2 i hi
  rcases this.2 with h | h
  · exact ⟨h,this.1⟩
  · exact h.elim
theorem tkP_le (l:List UInt8) (p k:Nat) (h:p≤l.length):tkP l p k≤l.length:=by unfold tkP;split <;> omega
theorem Rdd.of {w w':World} {g n c p q:Nat} {A:Option Addr} {l:List UInt8} {r:Res} {X:Array Value} (h:Turned w w' r (both (blk g 218 X) (row 5 1 A n c (bL l)))) (hX:X = #[.slice A n c,.int .i64 (p:Int),.int .i64 (q:Int)]):Turned w w' r (rdr g A n c l p q):=by
  subst hX
  exact h
theorem rdead (g:Nat) (A:Option Addr) (n c:Nat) (l:List UInt8) (p q:Nat) (w0:World) (hw:(rdr g A n c l p q).holds w0) (hp:p≤l.length) :
    Calls Tryz.prog 137 #[.pointer (some ⟨g,0,none⟩)] w0 fun e w'=>∃ u,e=.returned u∧Like w0 w'∧u=.bool (decide ((q:Int)≠0)):=by
 refine v_ (env:=[(0,.pointer (some ⟨g,0,none⟩))]) [.pointer (some ⟨g,0,none⟩)] Tryz.func137 Z Tryz.ntmps137 Z Z ?_;have hnl:=ck_ hw;have hnc:=aO_ hw.2;have S0:=St.start w0 noM;refine a_ fun K1 hK1=>b_ (Lan Z Z (hK1 _ _ (a_ fun K2 hK2=>Rm Z Z (L_y (eY_ Tryz.underlying172 Z) Z (Lm Z Z (d_ Z Z (Lm Z Z (d_ Z Z (L_y (E_ Z) Z ?_)))))))));refine d_ Z Z (L_y (g_ 2 Tryz.underlying218 Z dm_ Z Z Z) Z (d_ Z Z (L_y (t_ Tryz.underlying24 Z Z (((S0.rdB hw.1).cell _).trans (show (#[.slice A n c,.int .i64 (p:Int),.int .i64 (q:Int)]:Array Value)[2]?=some (Value.int .i64 (q:Int)) from Z))) Z (d_ Z Z (L_y (ab_ Z Z) Z (L_y (y_pickF Z Z) Z (Lan Z Z (hK2 _ _ (l_ (ur (F_ Z Z ?_)))))))))));exact ⟨_,rfl,S0.like0,rfl⟩
theorem rerr (g:Nat) (A:Option Addr) (n c:Nat) (l:List UInt8) (p q:Nat) (w0:World) (hw:(rdr g A n c l p q).holds w0) (hp:p≤l.length) :
    Calls Tryz.prog 128 #[.pointer (some ⟨g,0,none⟩)] w0 fun e w'=>∃ u,e=.returned u∧Like w0 w'∧u=.int .i64 (q:Int):=by
 refine v_ (env:=[(0,.pointer (some ⟨g,0,none⟩))]) [.pointer (some ⟨g,0,none⟩)] Tryz.func128 Z Tryz.ntmps128 Z Z ?_;have hnl:=ck_ hw;have hnc:=aO_ hw.2;have S0:=St.start w0 noM;refine a_ fun K1 hK1=>b_ (Lan Z Z (hK1 _ _ (a_ fun K2 hK2=>a_ fun K3 hK3=>Rm Z Z (L_y (eY_ Tryz.underlying172 Z) Z (f_ (hK3 _ _ (aW_ Z (j_ ?_))))))));refine hK2 _ _ (a_ fun K4 hK4=>Rm Z Z (L_y (E_ Z) Z (L_y (g_ 2 Tryz.underlying218 Z dm_ Z Z Z) Z (L_y (t_ Tryz.underlying24 Z Z (((S0.rdB hw.1).cell _).trans (show (#[.slice A n c,.int .i64 (p:Int),.int .i64 (q:Int)]:Array Value)[2]?=some (Value.int .i64 (q:Int)) from Z))) Z (Lan Z Z (hK4 _ _ (l_ (ur (F_ Z Z ?_)))))))));exact ⟨_,rfl,S0.like0,rfl⟩
theorem rleft (g:Nat) (A:Option Addr) (n c:Nat) (l:List UInt8) (p q:Nat) (w0:World) (hw:(rdr g A n c l p q).holds w0) (hp:p≤l.length) :
    Calls Tryz.prog 131 #[.pointer (some ⟨g,0,none⟩)] w0 fun e w'=>∃ u,e=.returned u∧Like w0 w'∧u=.int .i64 ((n:Int) - (p:Int)):=by
 refine v_ (env:=[(0,.pointer (some ⟨g,0,none⟩))]) [.pointer (some ⟨g,0,none⟩)] Tryz.func131 Z Tryz.ntmps131 Z Z ?_;have hnl:=ck_ hw;have hnc:=aO_ hw.2;have S0:=St.start w0 noM;refine a_ fun K1 hK1=>b_ (Lan Z Z (hK1 _ _ (a_ fun K2 hK2=>a_ fun K3 hK3=>Rm Z Z (L_y (eY_ Tryz.underlying172 Z) Z (f_ (hK3 _ _ (aW_ Z (j_ ?_))))))));refine hK2 _ _ (a_ fun K4 hK4=>ak_ [(0,true),(1,true),(2,true),(3,true),(4,true),(5,true),(6,true),(7,true),(8,true),(9,true),(10,true)] aS_ (by kernel_rfl) fun w1 l1=>have S1:=S0.like l1;u_ Z (p_ Z) Z (u_ Z (E_ Z) Z (u_ Z (g_ 0 Tryz.underlying218 Z br_ Z Z Z) Z (u_ Z (t_ Tryz.underlying22 Z Z (((S1.rdB hw.1).cell _).trans (show (#[.slice A n c,.int .i64 (p:Int),.int .i64 (q:Int)]:Array Value)[0]?=some (Value.slice A n c) from Z))) Z (u_ Z (I_ Tryz.underlying22 Z) Z (u_ Z (p_ Z) Z (u_ Z (E_ Z) Z (u_ Z (g_ 1 Tryz.underlying218 Z sz3 Z Z Z) Z (u_ Z (t_ Tryz.underlying3 Z Z (((S1.rdB hw.1).cell _).trans (show (#[.slice A n c,.int .i64 (p:Int),.int .i64 (q:Int)]:Array Value)[1]?=some (Value.int .i64 (p:Int)) from Z))) Z (u_ Z (ax_ Z Z (z_ (by omega))) Z ?_))))))))));refine u_ Z (J_ Z) Z (aH_ (hK4 _ _ (l_ (ur (F_ Z Z ?_)))));exact ⟨_,rfl,S1.like0,rfl⟩
theorem rtake (g:Nat) (A:Option Addr) (n c:Nat) (l:List UInt8) (p q:Nat) (k:Nat) (w0:World) (hw:(rdr g A n c l p q).holds w0) (hp:p≤l.length) (hk63:k≤9223372036854775807) (hn62:n≤4611686018427387904) :
    Calls Tryz.prog 139 #[.pointer (some ⟨g,0,none⟩),.int .i64 (k:Int)] w0 fun e w'=>∃ u,e=.returned u∧∃ B c2,u=.slice B (tkL l p k).length c2∧Rs w' 1 B (tkL l p k).length c2 (bL (tkL l p k))∧Turned w0 w' (rdr g A n c l p q) (rdr g A n c l (tkP l p k) (tkE l p k q)):=by
 refine v_ (env:=[(0,.pointer (some ⟨g,0,none⟩)),(1,.int .i64 (k:Int))]) [.pointer (some ⟨g,0,none⟩),.int .i64 (k:Int)] Tryz.func139 Z Tryz.ntmps139 Z Z ?_;have hnl:=ck_ hw;have hnc:=aO_ hw.2;have S0:=St.borrow2 (blk g 218 #[.slice A n c,.int .i64 (p:Int),.int .i64 (q:Int)]) (row 5 1 A n c (bL l)) hw.1 hw.2 (dC_ hw) (do_ hw);refine a_ fun K1 hK1=>b_ (Lan Z Z (hK1 _ _ (a_ fun K2 hK2=>a_ fun K3 hK3=>ak_ [(0,true),(1,true),(2,true),(3,true),(4,true),(5,true),(6,true),(7,true),(8,true),(9,true),(10,true),(11,true)] aS_ (by kernel_rfl) fun w1 l1=>have S1:=S0.like l1;u_ Z (p_ Z) Z (u_ Z (p_ Z) Z (u_ Z (E_ Z) Z (u_ Z (g_ 0 Tryz.underlying218 Z br_ Z Z Z) Z (u_ Z (t_ Tryz.underlying22 Z Z (((S1.blk 0 Z).cell _).trans (by rfl))) Z ?_)))))));refine u_ Z (I_ Tryz.underlying22 Z) Z (u_ Z (p_ Z) Z (u_ Z (E_ Z) Z (u_ Z (g_ 1 Tryz.underlying218 Z sz3 Z Z Z) Z (u_ Z (t_ Tryz.underlying3 Z Z (((S1.blk 0 Z).cell _).trans (by rfl))) Z ?_))));refine u_ Z (ax_ Z Z (z_ (by omega))) Z (u_ Z (Z_ Z Z) Z (aH_ (hK3 _ _ ?_)));refine o_ Z (fun h17=>?_) (fun h17=>?_)
 ·
  have hk:¬ k≤l.length - p:=by omega
  refine a_ fun K4 hK4=>Rm Z Z (L_y (E_ Z) Z (L_y (g_ 2 Tryz.underlying218 Z dm_ Z Z Z) Z (L_o (ac_ S1 0 Z Z Z Z dm_ (by simp;done) fun w2 S2=>?_))));refine f_ (hK4 _ _ (a_ fun K5 hK5=>b_ (Lan Z Z (hK5 _ _ (l_ (ur (F_ Z Z ?_)))))));first | exact ⟨_,rfl,none,0,(by rw [tkL,if_neg hk];rfl),(by rw [tkL,if_neg hk];exact Rs.nil _ _),Rdd.of (S2.turned2 0 1 Z Z) (by rw [tkP,tkE,if_neg hk,if_neg hk];rfl)⟩ | exact ⟨_,rfl,ct_ A c p 1,c - p,(by rw [e2]),(by rw [e2,e1];exact (S2.row 1 Z).cutb (by omega) (by omega)),Rdd.of (S2.turned2 0 1 Z Z) (by rw [tkP,tkE,if_pos hk,if_pos hk];rfl)⟩
 ·
  have hk:k≤l.length - p:=by omega
  have e1:(tkL l p k)=(l.drop p).take (p+k - p):=by rw [tkL,if_pos hk];congr 1;omega
  have e2:(tkL l p k).length=p+k - p:=by rw [e1,List.length_take,List.length_drop];omega
  refine j_ (hK2 _ _ (a_ fun K6 hK6=>ak_ [(0,true),(1,true),(2,true),(3,true),(4,true),(5,true),(6,true),(7,true),(8,true),(9,true),(10,true),(11,true),(12,true),(13,true),(14,true),(15,true)] aS_ (by kernel_rfl) fun w3 l3=>have S3:=S1.like l3;u_ Z (p_ Z) Z (u_ Z (E_ Z) Z (u_ Z (g_ 0 Tryz.underlying218 Z br_ Z Z Z) Z (u_ Z (t_ Tryz.underlying22 Z Z (((S3.blk 0 Z).cell _).trans (by rfl))) Z ?_)))));refine u_ Z (p_ Z) Z (u_ Z (E_ Z) Z (u_ Z (g_ 1 Tryz.underlying218 Z sz3 Z Z Z) Z (u_ Z (t_ Tryz.underlying3 Z Z (((S3.blk 0 Z).cell _).trans (by rfl))) Z ?_)));refine u_ Z (p_ Z) Z (u_ Z (E_ Z) Z (u_ Z (g_ 1 Tryz.underlying218 Z sz3 Z Z Z) Z (u_ Z (t_ Tryz.underlying3 Z Z (((S3.blk 0 Z).cell _).trans (by rfl))) Z ?_)));refine u_ Z (p_ Z) Z (u_ Z (w_ Z Z (z_ (by omega))) Z (u_ Z (en_ Tryz.underlying22 sz5 Z Z Z inferInstance inferInstance (by omega) (by omega)) Z (u_ Z (J_ Z) Z (aH_ (hK6 _ _ (a_ fun K7 hK7=>Rm Z Z (L_y (E_ Z) Z (L_y (g_ 1 Tryz.underlying218 Z sz3 Z Z Z) Z (L_y (t_ Tryz.underlying3 Z Z (((S3.blk 0 Z).cell _).trans (by rfl))) Z ?_)))))))));refine Lm Z Z (L_y (w_ Z Z (z_ (by omega))) Z (L_y (E_ Z) Z (L_y (g_ 1 Tryz.underlying218 Z sz3 Z Z Z) Z (L_o (ac_ S3 0 Z Z Z Z sz3 (by simp;done) fun w4 S4=>?_)))));refine f_ (hK7 _ _ (a_ fun K8 hK8=>Rm Z Z (Lan Z Z (hK8 _ _ (l_ (ur (F_ Z Z ?_)))))));first | exact ⟨_,rfl,none,0,(by rw [tkL,if_neg hk];rfl),(by rw [tkL,if_neg hk];exact Rs.nil _ _),Rdd.of (S4.turned2 0 1 Z Z) (by rw [tkP,tkE,if_neg hk,if_neg hk];rfl)⟩ | exact ⟨_,rfl,ct_ A c p 1,c - p,(by rw [e2]),(by rw [e2,e1];exact (S4.row 1 Z).cutb (by omega) (by omega)),Rdd.of (S4.turned2 0 1 Z Z) (by rw [tkP,tkE,if_pos hk,if_pos hk];rfl)⟩
theorem rback (g:Nat) (A:Option Addr) (n c:Nat) (l:List UInt8) (p q:Nat) (p0:Nat) (w0:World) (hw:(rdr g A n c l p q).holds w0) :
    DCalls Tryz.prog 167 #[.pointer (some ⟨g,0,none⟩),.int .i64 (p0:Int)] w0 fun e w'=>∃ u,e=.returned u∧Turned w0 w' (rdr g A n c l p q) (rdr g A n c l (if q≠0 then p0 else p) q):=by
 refine enterd1 (env:=[(0,.pointer (some ⟨g,0,none⟩)),(1,.int .i64 (p0:Int))]) [.pointer (some ⟨g,0,none⟩),.int .i64 (p0:Int)] Tryz.func167 Z Tryz.ntmps167 Z Z ?_;have hnl:=ck_ hw;have hnc:=aO_ hw.2;have S0:=St.borrow2 (blk g 218 #[.slice A n c,.int .i64 (p:Int),.int .i64 (q:Int)]) (row 5 1 A n c (bL l)) hw.1 hw.2 (dC_ hw) (do_ hw);refine a_ fun K1 hK1=>Rm Z Z (L_y (E_ Z) Z (L_y (g_ 2 Tryz.underlying218 Z dm_ Z Z Z) Z (L_y (t_ Tryz.underlying24 Z Z (((S0.blk 0 Z).cell _).trans (by rfl))) Z ?_)));refine L_y (ab_ Z Z) Z (f_ (hK1 _ _ ?_));refine o_ Z (fun h8=>?_) (fun h8=>?_)
 ·
  refine Rm Z Z (Lm Z Z (L_y (E_ Z) Z (L_y (g_ 1 Tryz.underlying218 Z sz3 Z Z Z) Z (L_o (ac_ S0 0 Z Z Z Z sz3 (by simp;done) fun w1 S1=>?_)))));refine f_ ?_;first | refine cg_ (fn:=Tryz.f167) Z ?_ | (simp only [bf_,inB,if_true];refine cg_ (fn:=Tryz.f167) Z ?_)
  exact ⟨_,rfl,Rdd.of (S1.turned2 0 1 Z Z) (by first | (rw [if_pos (by omega)];rfl) | (rw [if_neg (by omega)]))⟩
 ·
  refine j_ ?_;first | refine cg_ (fn:=Tryz.f167) Z ?_ | (simp only [bf_,inB,if_true];refine cg_ (fn:=Tryz.f167) Z ?_)
  exact ⟨_,rfl,Rdd.of (S0.turned2 0 1 Z Z) (by first | (rw [if_pos (by omega)];rfl) | (rw [if_neg (by omega)]))⟩
theorem rfail (g:Nat) (A:Option Addr) (n c:Nat) (l:List UInt8) (p q:Nat) (p0 q0:Nat) (w0:World) (hw:(rdr g A n c l p q).holds w0) (hp:p≤l.length) :
    Calls Tryz.prog 138 #[.pointer (some ⟨g,0,none⟩),.int .i64 (p0:Int),.int .i64 (q0:Int)] w0 fun e w'=>∃ u,e=.returned u∧Turned w0 w' (rdr g A n c l p q) (rdr g A n c l p0 q0):=by
 refine v_ (env:=[(0,.pointer (some ⟨g,0,none⟩)),(1,.int .i64 (p0:Int)),(2,.int .i64 (q0:Int))]) [.pointer (some ⟨g,0,none⟩),.int .i64 (p0:Int),.int .i64 (q0:Int)] Tryz.func138 Z Tryz.ntmps138 Z Z ?_;have hnl:=ck_ hw;have hnc:=aO_ hw.2;have S0:=St.borrow2 (blk g 218 #[.slice A n c,.int .i64 (p:Int),.int .i64 (q:Int)]) (row 5 1 A n c (bL l)) hw.1 hw.2 (dC_ hw) (do_ hw);refine a_ fun K1 hK1=>Rm Z Z (Lm Z Z (L_y (E_ Z) Z (L_y (g_ 1 Tryz.underlying218 Z sz3 Z Z Z) Z (L_o (ac_ S0 0 Z Z Z Z sz3 (by simp;done) fun w1 S1=>?_)))));refine f_ (hK1 _ _ (Rm Z Z (Lm Z Z (L_y (E_ Z) Z (L_y (g_ 2 Tryz.underlying218 Z dm_ Z Z Z) Z (L_o (ac_ S1 0 Z Z Z Z dm_ (by simp;done) fun w2 S2=>?_)))))));refine f_ ?_;first | refine cg_ (fn:=Tryz.f138) Z ?_ | (simp only [bf_,inB,if_true];refine cg_ (fn:=Tryz.f138) Z ?_)
 exact ⟨_,rfl,Rdd.of (S2.turned2 0 1 Z Z) Z⟩
theorem rnew (B:Option Addr) (m d:Nat) (l:List UInt8) (w0:World) (hb:Rs w0 1 B m d (bL l)) (hm:m≤70368744177664) :
    Calls Tryz.prog 96 #[.slice B m d] w0 fun e w'=>∃ u,e=.returned u∧Like w0 w'∧∃ g A c,u=.pointer (some ⟨g,0,none⟩)∧(rdr g A m c l 0 0).holds w'∧∀ i,(rdr g A m c l 0 0).dom i→w0.heap.size≤i∧i < w'.heap.size:=by
 refine v_ (env:=[(0,.slice B m d)]) [.slice B m d] Tryz.func96 Z Tryz.ntmps96 Z Z ?_;have S0:=St.start w0 noM;refine a_ fun K1 hK1=>b_ (Lan Z Z (hK1 _ _ (a_ fun K2 hK2=>Rm Z Z (L_o (o_app0 ba_ S0 Z Z (S0.rd hb) (R_ _) Z (by omega) (by omega) fun A1 c1 w1 S1=>L_y (C_ Z (show _=some #[Value.slice A1 m c1,Value.int .i64 0,Value.int .i64 0] by kernel_rfl)) Z (L_o (bO_ Z S1 Z fun b2 w2 hb2 S2=>Lan Z Z (hK2 _ _ ?_))))))));refine l_ (ur (F_ Z Z ?_));exact ⟨_,rfl,S2.like0,_,_,_,rfl,⟨S2.get 1 Z,S2.get 0 Z⟩,fun i hi=>by rcases hi with hi | hi;exact fresh_ S2 1 Z i hi;exact fresh_ S2 0 Z i hi⟩
end Oct
namespace Oct
open Go.RowKit Zk Zx
def be (l:List UInt8):Nat:=l.foldl (fun n c=>n*256+c.toNat) 0
def rwL (l:List UInt8) (p q k:Nat):List UInt8:=if q=0 then tkL l p k else []
def rwP (l:List UInt8) (p q k:Nat):Nat:=if q=0 then tkP l p k else p
def rwE (l:List UInt8) (p q k:Nat):Nat:=if q=0 then tkE l p k q else q
theorem tkL_ok {l:List UInt8} {p k:Nat} (h:k≤l.length - p):(tkL l p k).length=k:=by rw [tkL,if_pos h,List.length_take,List.length_drop];omega
theorem iX_ {l:List UInt8} {p k q:Nat} (h:k≤l.length - p):tkE l p k q=q:=by rw [tkE,if_pos h]
theorem ex_ {l:List UInt8} {p k q:Nat} (h:¬ k≤l.length - p):tkE l p k q=10:=by rw [tkE,if_neg h]
theorem tkL_no {l:List UInt8} {p k:Nat} (h:¬ k≤l.length - p):tkL l p k=[]:=by rw [tkL,if_neg h]
theorem tkE_case {l:List UInt8} {p k:Nat} (h:¬ ((tkE l p k 0:Nat):Int)≠0):k≤l.length - p:=by
  by_cases hk:k≤l.length - p
  · exact hk
  · rw [ex_ hk] at h
    omega
theorem gf_ {l:List UInt8} {p k:Nat} (h:((tkE l p k 0:Nat):Int)≠0):¬ k≤l.length - p:=fun hk=>by
  rw [iX_ hk] at h
  omega
theorem tk_one {l:List UInt8} {p:Nat} (h:1≤l.length - p):∃ x,l[p]?=some x∧tkL l p 1=[x]∧l.drop p=x::l.drop (p+1):=by
  have hp:p < l.length:=by omega
  refine ⟨l[p],List.getElem?_eq_getElem hp,?_,List.drop_eq_getElem_cons hp⟩
  rw [tkL,if_pos h,List.drop_eq_getElem_cons hp,List.take_succ_cons,List.take_zero]
theorem be_snoc (l:List UInt8) (c:UInt8):be (l++[c])=be l*256+c.toNat:=by simp [be,List.foldl_append]
theorem be_from:∀ (l:List UInt8) (a:Nat),l.foldl (fun n c=>n*256+c.toNat) a < (a+1)*256 ^ l.length
  | [],a=>by simp
  | c::l,a=>by
    have h:=be_from l (a*256+c.toNat)
    have h2:(a*256+c.toNat+1)*256 ^ l.length≤(a+1)*256*256 ^ l.length:=Nat.mul_le_mul_right _ (by have:=c.toNat_lt;omega)
    rw [List.foldl_cons,List.length_cons,Nat.pow_succ,Nat.mul_comm (256 ^ l.length), ← Nat.mul_assoc]
    omega
theorem be_lt (l:List UInt8):be l < 256 ^ l.length:=by simpa [be] using be_from l 0
theorem be_take {l:List UInt8} {k:Nat} {c:UInt8} (h:l[k]?=some c):be (l.take (k+1))=be (l.take k)*256+c.toNat:=by
  rw [List.take_add_one,h]
  exact be_snoc _ _
def bT_:List UInt8→Nat→Nat→Nat × Nat × Nat
  | [],k,_=>(0,k,10)
  | c::r,k,a=>if (k=9∧1 < c.toNat)∨(0 < k∧c.toNat=0) then (0,k+1,12) else if c.toNat < 128 then (a+c.toNat % 128*128 ^ k,k+1,0) else bT_ r (k+1) (a+c.toNat % 128*128 ^ k)
theorem and127:∀ m:Fin 256,bits .and .u8 (m.val:Int) 127=((m.val % 128:Nat):Int):=by decide
theorem andX (x:UInt8):bits .and .u8 (x.toNat:Int) 127=((x.toNat % 128:Nat):Int):=and127 ⟨x.toNat,x.toNat_lt⟩
theorem pow7 (k:Nat):128 ^ k=2 ^ (7*k):=by rw [show (128:Nat)=2 ^ 7 from Z, ← Nat.pow_mul]
theorem pow_eight {k:Nat} (h:k≤8):128 ^ k≤72057594037927936:=by
  have:=Nat.pow_le_pow_right (show 0 < 128 by decide) h
  exact this
theorem fk_ {k a x:Nat} (hk:k≤9) (ha:a < 128 ^ k) (hx:x≤255) (h9:k=9→x≤1):x % 128*128 ^ k≤18446744073709551615∧a+x % 128*128 ^ k≤18446744073709551615:=by
  by_cases h:k=9
  · have h1:=h9 h
    subst h
    have h2:x % 128*128 ^ 9≤1*128 ^ 9:=Nat.mul_le_mul_right _ (by omega)
    have h3:(128:Nat) ^ 9=9223372036854775808:=rfl
    omega
  · have h1:=pow_eight (k:=k) (by omega)
    have h2:x % 128*128 ^ k≤127*128 ^ k:=Nat.mul_le_mul_right _ (by omega)
    omega
theorem ho_ {k a x:Nat} (ha:a < 128 ^ k):a+x % 128*128 ^ k < 128 ^ (k+1):=by
  have h2:x % 128*128 ^ k≤127*128 ^ k:=Nat.mul_le_mul_right _ (by omega)
  rw [Nat.pow_succ]
  omega
theorem shl7 (x k:Nat) (hk:k≤9) (h:x*128 ^ k≤18446744073709551615):IntKind.u64.wrap ((x:Int)*2 ^ (min ((7:Int)*(k:Int)).toNat IntKind.u64.bits))=((x*128 ^ k:Nat):Int):=by
  have e:min ((7:Int)*(k:Int)).toNat IntKind.u64.bits=7*k:=by simp only [IntKind.bits];omega
  rw [e,show (x:Int)*2 ^ (7*k)=((x*128 ^ k:Nat):Int) by rw [pow7];push_cast;rfl,IntKind.wrap_u64]
  omega
theorem or64 (a b:Nat) (ha:a < 18446744073709551616) (hb:b < 18446744073709551616):bits .or .u64 (a:Int) (b:Int)=((a ||| b:Nat):Int):=by
  have h:a ||| b < 2 ^ 64:=Nat.or_lt_two_pow ha hb
  show IntKind.u64.wrap ((((BitVec.ofInt 64 (a:Int)) ||| (BitVec.ofInt 64 (b:Int)):BitVec 64).toNat:Nat):Int)=_
  rw [BitVec.ofInt_natCast,BitVec.ofInt_natCast,BitVec.toNat_or,BitVec.toNat_ofNat,BitVec.toNat_ofNat]
  rw [Nat.mod_eq_of_lt (by omega),Nat.mod_eq_of_lt (by omega),IntKind.wrap_u64]
  omega
theorem or7 (a y k:Nat) (ha:a < 128 ^ k) (h:a+y*128 ^ k≤18446744073709551615):bits .or .u64 (a:Int) ((y*128 ^ k:Nat):Int)=((a+y*128 ^ k:Nat):Int):=by
  rw [or64 _ _ (by omega) (by omega),Nat.or_comm,pow7,Nat.mul_comm, ← Nat.two_pow_add_eq_or_of_lt (by rw [← pow7];exact ha),Nat.add_comm]
theorem Rdd.turned {w w':World} {g n c p q p' q':Nat} {A:Option Addr} {l:List UInt8} (h:Turned w w' (rdr g A n c l p q) (rdr g A n c l p' q')) {p2 q2:Nat} (hp:p'=p2) (hq:q'=q2):Turned w w' (rdr g A n c l p q) (rdr g A n c l p2 q2):=by
  subst hp
  subst hq
  exact h
theorem tk_le (l:List UInt8) (p k:Nat):(tkL l p k).length≤k:=by unfold tkL;split <;> simp <;> omega
theorem be_bound {t:List UInt8} {k j:Nat} (hk:k < t.length) (ht:t.length≤j+1):be (t.take k) < 256 ^ j:=by
  have h1:=be_lt (t.take k)
  rw [List.length_take,Nat.min_eq_left (by omega)] at h1
  exact Nat.lt_of_lt_of_le h1 (Nat.pow_le_pow_right (by decide) (by omega))
theorem or256 (a:Nat) (x:UInt8):a*256 ||| x.toNat=a*256+x.toNat:=by
  rw [Nat.mul_comm,show (256:Nat)=2 ^ 8 from Z,Nat.two_pow_add_eq_or_of_lt x.toNat_lt]
theorem or32 (a b:Nat) (ha:a < 4294967296) (hb:b < 4294967296):bits .or .u32 (a:Int) (b:Int)=((a ||| b:Nat):Int):=by
  have h:a ||| b < 2 ^ 32:=Nat.or_lt_two_pow ha hb
  show IntKind.u32.wrap ((((BitVec.ofInt 32 (a:Int)) ||| (BitVec.ofInt 32 (b:Int)):BitVec 32).toNat:Nat):Int)=_
  rw [BitVec.ofInt_natCast,BitVec.ofInt_natCast,BitVec.toNat_or,BitVec.toNat_ofNat,BitVec.toNat_ofNat]
  rw [Nat.mod_eq_of_lt (by omega),Nat.mod_eq_of_lt (by omega),IntKind.wrap_u32]
  omega
theorem shl8_32 (a:Nat) (h:a < 256 ^ 3):IntKind.u32.wrap ((a:Int)*2 ^ (min (8:Int).toNat IntKind.u32.bits))=((a*256:Nat):Int):=by
  rw [show (2:Int) ^ (min (8:Int).toNat IntKind.u32.bits)=256 by decide,IntKind.wrap_u32]
  omega
theorem orbe32 (a:Nat) (x:UInt8) (h:a < 256 ^ 3):bits .or .u32 ((a*256:Nat):Int) (x.toNat:Int)=((a*256+x.toNat:Nat):Int):=by
  rw [or32 _ _ (by omega) (by have:=x.toNat_lt;omega),or256]
theorem bL_getX {l:List UInt8} {k:Nat} {x:UInt8} (h:l[k]?=some x):(bL l)[k]?=some (Value.int .u8 (x.toNat:Int)):=cP_ l k x h
theorem split1 {w0 w:World} {M:Nat→Prop} {r s:Res} (S:St w0 M [both r s] w) (hap:∀ i,r.dom i→¬ s.dom i):St w0 M [r,s] w :=
  ⟨S.os,S.tape,S.output,S.size,S.old,fun q hq=>by
    have h1:=S.res _ List.mem_cons_self
    rcases List.mem_cons.1 hq with rfl | hq
    · exact ⟨h1.1.1,fun i hi=>h1.2 i (.inl hi)⟩
    · obtain rfl:=List.mem_singleton.1 hq
      exact ⟨h1.1.2,fun i hi=>h1.2 i (.inr hi)⟩,List.pairwise_cons.2 ⟨fun s' hs'=>by obtain rfl:=List.mem_singleton.1 hs';exact hap,List.pairwise_singleton _ _⟩⟩
theorem Rdd.end2 {w0 w:World} {g n c p q p' q':Nat} {A:Option Addr} {l:List UInt8} {X:Array Value} (S:St w0 (rdr g A n c l p q).dom [blk g 218 X,row 5 1 A n c (bL l)] w) (hX:X = #[.slice A n c,.int .i64 (p':Int),.int .i64 (q':Int)]):Turned w0 w (rdr g A n c l p q) (rdr g A n c l p' q') :=
  Rdd.of (St.turned2 (r:=blk g 218 #[.slice A n c,.int .i64 (p:Int),.int .i64 (q:Int)]) (s:=row 5 1 A n c (bL l)) S 0 1 Z Z) hX
theorem gk_ (g:Nat) (A:Option Addr) (n c:Nat) (l:List UInt8) (p:Nat) (w0:World) (hw:(rdr g A n c l p 0).holds w0) (hp:p≤l.length) (hn62:n≤4611686018427387904) :
    Calls Tryz.prog 168 #[.pointer (some ⟨g,0,none⟩)] w0 fun e w'=>∃ u,e=.returned u∧u=.int .u64 ((bT_ (l.drop p) 0 0).1:Int)∧Turned w0 w' (rdr g A n c l p 0) (rdr g A n c l (p+(bT_ (l.drop p) 0 0).2.1) (bT_ (l.drop p) 0 0).2.2):=by
 refine v_ (env:=[(0,.pointer (some ⟨g,0,none⟩))]) [.pointer (some ⟨g,0,none⟩)] Tryz.func168 Z Tryz.ntmps168 Z Z ?_;have hnl:=ck_ hw;have hnc:=aO_ hw.2;have S0:=St.borrow1 (rdr g A n c l p 0) hw (dC_ hw);refine a_ fun K1 hK1=>b_ (Lan Z Z (hK1 _ _ (a_ fun K2 hK2=>b_ (Lan Z Z (hK2 _ _ (a_ fun K3 hK3=>b_ (Lan Z Z ?_)))))));refine hK3 _ _ (r_ ?_);refine bX_ [(0,_)] (fun (k:Nat) (a:Nat)=>[(3,.int .u64 (a:Int)),(4,.int .i64 (k:Int))]) (fun (k:Nat) (a:Nat)=>10 - k) (fun (k:Nat) (a:Nat) (w:World)=>((k≤9∧p+k≤l.length∧a < 128 ^ k)∧bT_ (l.drop (p+k)) k a=bT_ (l.drop p) 0 0)∧St w0 (rdr g A n c l p 0).dom [rdr g A n c l (p+k) 0] w) 0 0 (Sc Z (Sc Z (Sub.nil _))) (Sub.cons Z Z (Sub.nil _)) ?_ ?_
 ·
  exact ⟨⟨⟨by omega,by omega,by decide⟩,rfl⟩,S0⟩
 ·
  intro k a w1 hrel;obtain ⟨⟨⟨hk9,hpk,ha⟩,hN⟩,S1⟩:=hrel;refine a_ fun K4 hK4=>r_ (a_ fun K5 hK5=>Rm Z Z (L_o (n_ Tryz.func139 Z Z (rtake g A n c l (p+k) _ 1 w1 (S1.get 0 Z) (by omega) (by omega) hn62) Z Z ?_)));rintro e2 w2 ⟨v2,rfl,B2,d2,rfl,R2,T2⟩;refine ⟨_,rfl,(have S2:=S1.turn 0 Z T2;have RR:=R2;Lan Z Z (hK5 _ _ (a_ fun K6 hK6=>a_ fun K7 hK7=>Rm Z Z (L_y (E_ Z) Z (L_y (g_ 2 Tryz.underlying218 Z dm_ Z Z Z) Z (L_y (t_ Tryz.underlying24 Z Z (((S2.get 0 Z).1.cell _).trans (by rfl))) Z ?_))))))⟩;refine L_y (ab_ Z Z) Z (f_ (hK7 _ _ ?_));refine o_ Z (fun h15=>?_) (fun h15=>?_)
  ·
   have hk1:=gf_ h15;have hN2:bT_ (l.drop p) 0 0=(0,k,10):=by rw [← hN,List.drop_eq_nil_of_le (by omega)];rfl
   refine a_ fun K8 hK8=>b_ (Lan Z Z (hK8 _ _ (l_ (ur (F_ Z Z ?_)))));first | exact ⟨_,rfl,by rw [hN2];rfl,Rdd.turned (S2.turned1 0 Z) (by rw [hN2,tkP,if_neg hk1]) (by rw [hN2,ex_ hk1])⟩ | exact ⟨_,rfl,by rw [hN2],Rdd.turned (S2.turned1 0 Z) (by rw [hN2]) (by rw [hN2])⟩ | exact ⟨_,rfl,by rw [hN2];rfl,by rw [hN2];exact Rdd.end2 S2 Z⟩
  ·
   have hk1:=tkE_case h15;obtain ⟨x,hx,htk,hdr⟩:=tk_one hk1;rw [show bL (tkL l (p+k) 1)=bL [x] from congrArg bL htk] at RR;rw [show tkP l (p+k) 1=p+(k+1) by rw [tkP,if_pos hk1];omega,iX_ hk1] at S2;have hxl:=x.toNat_lt;refine j_ (hK6 _ _ (a_ fun K9 hK9=>Rm Z Z (L_y (T_ Tryz.underlying22 sz5 Z Z (RR) inferInstance (by rw [tkL_ok hk1];decide)) Z ?_)));refine L_y (cj_ Tryz.underlying5 Z Z RR (show ([bV x])[0]?=some (Value.int .u8 (x.toNat:Int)) from Z)) Z (Lan Z Z (hK9 _ _ (a_ fun K10 hK10=>a_ fun K11 hK11=>Rm Z Z (L_y (am_ Z Z) Z (Lm Z Z ?_)))));refine y_ 21 Z (fun h21=>?_) (fun h21=>?_)
   ·
    refine d_ Z Z (Lm Z Z (d_ Z Z (L_y (Z_ Z Z) Z (Lp Z Z Z (Lm Z Z ?_)))));refine y_ 25 Z (fun h25=>?_) (fun h25=>?_)
    ·
     refine h_ Z Z Z (h_ Z Z Z (h_ Z Z Z (aQ_ Z Z Z (aQ_ Z Z Z (h_ Z Z Z (Lp Z Z Z (f_ (hK11 _ _ (W_ Z (a_ fun K12 hK12=>?_))))))))));have hF:((k=9∧1 < x.toNat)∨(0 < k∧x.toNat=0)):=by omega
     have hN2:bT_ (l.drop p) 0 0=(0,k+1,12):=by rw [← hN,hdr,bT_,if_pos hF]
     refine Rm Z Z (L_y (E_ Z) Z (have S5:=split1 S2 (do_ (S2.get 0 Z));L_y (g_ 2 Tryz.underlying218 Z dm_ Z Z Z) Z (L_o (ac_ S5 0 Z Z Z Z dm_ (by simp;done) fun w6 S6=>?_))));refine f_ (hK12 _ _ (a_ fun K13 hK13=>b_ (Lan Z Z (hK13 _ _ (l_ (ur (F_ Z Z ?_)))))));first | exact ⟨_,rfl,by rw [hN2];rfl,Rdd.turned (S6.turned1 0 Z) (by rw [hN2,tkP,if_neg hk1]) (by rw [hN2,ex_ hk1])⟩ | exact ⟨_,rfl,by rw [hN2],Rdd.turned (S6.turned1 0 Z) (by rw [hN2]) (by rw [hN2])⟩ | exact ⟨_,rfl,by rw [hN2];rfl,by rw [hN2];exact Rdd.end2 S6 Z⟩
    ·
     refine d_ Z Z (Lm Z Z (d_ Z Z (L_y (Z_ Z Z) Z (d_ Z Z (Lm Z Z ?_)))));refine y_ 28 Z (fun h28=>?_) (fun h28=>?_)
     ·
      refine d_ Z Z (Lm Z Z (d_ Z Z (L_y (am_ Z Z) Z (d_ Z Z (Lp Z Z Z (Lp Z Z Z (f_ (hK11 _ _ ?_))))))));refine o_ Z (fun h32=>?_) (fun h32=>?_)
      ·
       refine a_ fun K14 hK14=>?_;have hF:((k=9∧1 < x.toNat)∨(0 < k∧x.toNat=0)):=by omega
       have hN2:bT_ (l.drop p) 0 0=(0,k+1,12):=by rw [← hN,hdr,bT_,if_pos hF]
       refine Rm Z Z (L_y (E_ Z) Z (have S8:=split1 S2 (do_ (S2.get 0 Z));L_y (g_ 2 Tryz.underlying218 Z dm_ Z Z Z) Z (L_o (ac_ S8 0 Z Z Z Z dm_ (by simp;done) fun w9 S9=>?_))));refine f_ (hK14 _ _ (a_ fun K15 hK15=>b_ (Lan Z Z (hK15 _ _ (l_ (ur (F_ Z Z ?_)))))));first | exact ⟨_,rfl,by rw [hN2];rfl,Rdd.turned (S9.turned1 0 Z) (by rw [hN2,tkP,if_neg hk1]) (by rw [hN2,ex_ hk1])⟩ | exact ⟨_,rfl,by rw [hN2],Rdd.turned (S9.turned1 0 Z) (by rw [hN2]) (by rw [hN2])⟩ | exact ⟨_,rfl,by rw [hN2];rfl,by rw [hN2];exact Rdd.end2 S9 Z⟩
      ·
       refine j_ (hK10 _ _ (a_ fun K16 hK16=>?_));have hF:¬ ((k=9∧1 < x.toNat)∨(0 < k∧x.toNat=0)):=by omega
       have hnm:=fk_ hk9 ha (x:=x.toNat) (by omega) (fun h=>by omega);refine Rm Z Z (Lm Z Z (L_y (ae_ Z Z Z (andX x)) Z (L_y (P_ is5 Tryz.underlying102 Z (dg_ (by omega))) Z (Lm Z Z (L_y (ci_ Z Z (z_ (by omega))) Z (L_y (P_ is3 Tryz.underlying68 Z (dg_ (by omega))) Z (L_y (gX_ Z Z (by omega) (shl7 _ k hk9 hnm.1)) Z (L_y (ae_ Z Z Z (or7 a _ k ha hnm.2)) Z (Lan Z Z (hK16 _ _ (a_ fun K17 hK17=>?_)))))))))));refine Rm Z Z (L_y (L_ Z Z) Z (f_ (hK17 _ _ ?_)));refine o_ Z (fun h46=>?_) (fun h46=>?_)
       ·
        have hN2:bT_ (l.drop p) 0 0=(a+x.toNat % 128*128 ^ k,k+1,0):=by rw [← hN,hdr,bT_,if_neg hF,if_pos (by omega)]
        refine a_ fun K18 hK18=>Rm Z Z (Lan Z Z (hK18 _ _ (l_ (ur (F_ Z Z ?_)))));first | exact ⟨_,rfl,by rw [hN2];rfl,Rdd.turned (S2.turned1 0 Z) (by rw [hN2,tkP,if_neg hk1]) (by rw [hN2,ex_ hk1])⟩ | exact ⟨_,rfl,by rw [hN2],Rdd.turned (S2.turned1 0 Z) (by rw [hN2]) (by rw [hN2])⟩ | exact ⟨_,rfl,by rw [hN2];rfl,by rw [hN2];exact Rdd.end2 S2 Z⟩
       ·
        refine j_ (hK4 _ _ (Rm Z Z (L_y (w_ Z Z (z_ (by omega))) Z (Lan Z Z (⟨k+1,a+x.toNat % 128*128 ^ k,by omega,⟨⟨⟨by omega,by omega,ho_ ha⟩,by rw [← hN,hdr,bT_,if_neg hF,if_neg (by omega)];rfl⟩,S2⟩,?_⟩)))));exact (Sc Z (Sc Z (Sub.cons Z Z (Sub.nil _))))
     ·
      refine h_ Z Z Z (h_ Z Z Z (d_ Z Z (Lp Z Z Z (Lp Z Z Z (f_ (hK11 _ _ (aW_ Z (j_ (hK10 _ _ (a_ fun K19 hK19=>?_))))))))));have hF:¬ ((k=9∧1 < x.toNat)∨(0 < k∧x.toNat=0)):=by omega
      have hnm:=fk_ hk9 ha (x:=x.toNat) (by omega) (fun h=>by omega);refine Rm Z Z (Lm Z Z (L_y (ae_ Z Z Z (andX x)) Z (L_y (P_ is5 Tryz.underlying102 Z (dg_ (by omega))) Z (Lm Z Z (L_y (ci_ Z Z (z_ (by omega))) Z (L_y (P_ is3 Tryz.underlying68 Z (dg_ (by omega))) Z (L_y (gX_ Z Z (by omega) (shl7 _ k hk9 hnm.1)) Z (L_y (ae_ Z Z Z (or7 a _ k ha hnm.2)) Z (Lan Z Z (hK19 _ _ (a_ fun K20 hK20=>?_)))))))))));refine Rm Z Z (L_y (L_ Z Z) Z (f_ (hK20 _ _ ?_)));refine o_ Z (fun h46=>?_) (fun h46=>?_)
      ·
       have hN2:bT_ (l.drop p) 0 0=(a+x.toNat % 128*128 ^ k,k+1,0):=by rw [← hN,hdr,bT_,if_neg hF,if_pos (by omega)]
       refine a_ fun K21 hK21=>Rm Z Z (Lan Z Z (hK21 _ _ (l_ (ur (F_ Z Z ?_)))));first | exact ⟨_,rfl,by rw [hN2];rfl,Rdd.turned (S2.turned1 0 Z) (by rw [hN2,tkP,if_neg hk1]) (by rw [hN2,ex_ hk1])⟩ | exact ⟨_,rfl,by rw [hN2],Rdd.turned (S2.turned1 0 Z) (by rw [hN2]) (by rw [hN2])⟩ | exact ⟨_,rfl,by rw [hN2];rfl,by rw [hN2];exact Rdd.end2 S2 Z⟩
      ·
       refine j_ (hK4 _ _ (Rm Z Z (L_y (w_ Z Z (z_ (by omega))) Z (Lan Z Z (⟨k+1,a+x.toNat % 128*128 ^ k,by omega,⟨⟨⟨by omega,by omega,ho_ ha⟩,by rw [← hN,hdr,bT_,if_neg hF,if_neg (by omega)];rfl⟩,S2⟩,?_⟩)))));exact (Sc Z (Sc Z (Sub.cons Z Z (Sub.nil _))))
   ·
    refine h_ Z Z Z (h_ Z Z Z (Lp Z Z Z (Lm Z Z (d_ Z Z (Lm Z Z (d_ Z Z (L_y (Z_ Z Z) Z (d_ Z Z (Lm Z Z ?_)))))))));refine y_ 28 Z (fun h28=>?_) (fun h28=>?_)
    ·
     refine d_ Z Z (Lm Z Z (d_ Z Z (L_y (am_ Z Z) Z (d_ Z Z (Lp Z Z Z (Lp Z Z Z (f_ (hK11 _ _ ?_))))))));refine o_ Z (fun h32=>?_) (fun h32=>?_)
     ·
      refine a_ fun K22 hK22=>?_;have hF:((k=9∧1 < x.toNat)∨(0 < k∧x.toNat=0)):=by omega
      have hN2:bT_ (l.drop p) 0 0=(0,k+1,12):=by rw [← hN,hdr,bT_,if_pos hF]
      refine Rm Z Z (L_y (E_ Z) Z (have S11:=split1 S2 (do_ (S2.get 0 Z));L_y (g_ 2 Tryz.underlying218 Z dm_ Z Z Z) Z (L_o (ac_ S11 0 Z Z Z Z dm_ (by simp;done) fun w12 S12=>?_))));refine f_ (hK22 _ _ (a_ fun K23 hK23=>b_ (Lan Z Z (hK23 _ _ (l_ (ur (F_ Z Z ?_)))))));first | exact ⟨_,rfl,by rw [hN2];rfl,Rdd.turned (S12.turned1 0 Z) (by rw [hN2,tkP,if_neg hk1]) (by rw [hN2,ex_ hk1])⟩ | exact ⟨_,rfl,by rw [hN2],Rdd.turned (S12.turned1 0 Z) (by rw [hN2]) (by rw [hN2])⟩ | exact ⟨_,rfl,by rw [hN2];rfl,by rw [hN2];exact Rdd.end2 S12 Z⟩
     ·
      refine j_ (hK10 _ _ (a_ fun K24 hK24=>?_));have hF:¬ ((k=9∧1 < x.toNat)∨(0 < k∧x.toNat=0)):=by omega
      have hnm:=fk_ hk9 ha (x:=x.toNat) (by omega) (fun h=>by omega);refine Rm Z Z (Lm Z Z (L_y (ae_ Z Z Z (andX x)) Z (L_y (P_ is5 Tryz.underlying102 Z (dg_ (by omega))) Z (Lm Z Z (L_y (ci_ Z Z (z_ (by omega))) Z (L_y (P_ is3 Tryz.underlying68 Z (dg_ (by omega))) Z (L_y (gX_ Z Z (by omega) (shl7 _ k hk9 hnm.1)) Z (L_y (ae_ Z Z Z (or7 a _ k ha hnm.2)) Z (Lan Z Z (hK24 _ _ (a_ fun K25 hK25=>?_)))))))))));refine Rm Z Z (L_y (L_ Z Z) Z (f_ (hK25 _ _ ?_)));refine o_ Z (fun h46=>?_) (fun h46=>?_)
      ·
       have hN2:bT_ (l.drop p) 0 0=(a+x.toNat % 128*128 ^ k,k+1,0):=by rw [← hN,hdr,bT_,if_neg hF,if_pos (by omega)]
       refine a_ fun K26 hK26=>Rm Z Z (Lan Z Z (hK26 _ _ (l_ (ur (F_ Z Z ?_)))));first | exact ⟨_,rfl,by rw [hN2];rfl,Rdd.turned (S2.turned1 0 Z) (by rw [hN2,tkP,if_neg hk1]) (by rw [hN2,ex_ hk1])⟩ | exact ⟨_,rfl,by rw [hN2],Rdd.turned (S2.turned1 0 Z) (by rw [hN2]) (by rw [hN2])⟩ | exact ⟨_,rfl,by rw [hN2];rfl,by rw [hN2];exact Rdd.end2 S2 Z⟩
      ·
       refine j_ (hK4 _ _ (Rm Z Z (L_y (w_ Z Z (z_ (by omega))) Z (Lan Z Z (⟨k+1,a+x.toNat % 128*128 ^ k,by omega,⟨⟨⟨by omega,by omega,ho_ ha⟩,by rw [← hN,hdr,bT_,if_neg hF,if_neg (by omega)];rfl⟩,S2⟩,?_⟩)))));exact (Sc Z (Sc Z (Sub.cons Z Z (Sub.nil _))))
    ·
     refine h_ Z Z Z (h_ Z Z Z (d_ Z Z (Lp Z Z Z (Lp Z Z Z (f_ (hK11 _ _ (aW_ Z (j_ (hK10 _ _ (a_ fun K27 hK27=>?_))))))))));have hF:¬ ((k=9∧1 < x.toNat)∨(0 < k∧x.toNat=0)):=by omega
     have hnm:=fk_ hk9 ha (x:=x.toNat) (by omega) (fun h=>by omega);refine Rm Z Z (Lm Z Z (L_y (ae_ Z Z Z (andX x)) Z (L_y (P_ is5 Tryz.underlying102 Z (dg_ (by omega))) Z (Lm Z Z (L_y (ci_ Z Z (z_ (by omega))) Z (L_y (P_ is3 Tryz.underlying68 Z (dg_ (by omega))) Z (L_y (gX_ Z Z (by omega) (shl7 _ k hk9 hnm.1)) Z (L_y (ae_ Z Z Z (or7 a _ k ha hnm.2)) Z (Lan Z Z (hK27 _ _ (a_ fun K28 hK28=>?_)))))))))));refine Rm Z Z (L_y (L_ Z Z) Z (f_ (hK28 _ _ ?_)));refine o_ Z (fun h46=>?_) (fun h46=>?_)
     ·
      have hN2:bT_ (l.drop p) 0 0=(a+x.toNat % 128*128 ^ k,k+1,0):=by rw [← hN,hdr,bT_,if_neg hF,if_pos (by omega)]
      refine a_ fun K29 hK29=>Rm Z Z (Lan Z Z (hK29 _ _ (l_ (ur (F_ Z Z ?_)))));first | exact ⟨_,rfl,by rw [hN2];rfl,Rdd.turned (S2.turned1 0 Z) (by rw [hN2,tkP,if_neg hk1]) (by rw [hN2,ex_ hk1])⟩ | exact ⟨_,rfl,by rw [hN2],Rdd.turned (S2.turned1 0 Z) (by rw [hN2]) (by rw [hN2])⟩ | exact ⟨_,rfl,by rw [hN2];rfl,by rw [hN2];exact Rdd.end2 S2 Z⟩
     ·
      refine j_ (hK4 _ _ (Rm Z Z (L_y (w_ Z Z (z_ (by omega))) Z (Lan Z Z (⟨k+1,a+x.toNat % 128*128 ^ k,by omega,⟨⟨⟨by omega,by omega,ho_ ha⟩,by rw [← hN,hdr,bT_,if_neg hF,if_neg (by omega)];rfl⟩,S2⟩,?_⟩)))));exact (Sc Z (Sc Z (Sub.cons Z Z (Sub.nil _))))
theorem Rdd.join {w0 w:World} {M:Nat→Prop} {g n c p' q':Nat} {A:Option Addr} {l:List UInt8} {X:Array Value} (S:St w0 M [blk g 218 X,row 5 1 A n c (bL l)] w) (hX:X = #[.slice A n c,.int .i64 (p':Int),.int .i64 (q':Int)]):St w0 M [rdr g A n c l p' q'] w:=by
  subst hX
  exact S.join
def vaN (l:List UInt8) (p q m:Nat):Nat × Nat × Nat :=
  if q≠0 then (0,p,q) else if (bT_ (l.drop p) 0 0).2.2≠0 then (0,p,(bT_ (l.drop p) 0 0).2.2) else if m < (bT_ (l.drop p) 0 0).1 then (0,p,3) else ((bT_ (l.drop p) 0 0).1,p+(bT_ (l.drop p) 0 0).2.1,0)
theorem rvar (g:Nat) (A:Option Addr) (n c:Nat) (l:List UInt8) (p q:Nat) (m:Nat) (w0:World) (hw:(rdr g A n c l p q).holds w0) (hp:p≤l.length) (hn62:n≤4611686018427387904) :
    Calls Tryz.prog 129 #[.pointer (some ⟨g,0,none⟩),.int .u64 (m:Int)] w0 fun e w'=>∃ u,e=.returned u∧u=.int .u64 ((vaN l p q m).1:Int)∧Turned w0 w' (rdr g A n c l p q) (rdr g A n c l (vaN l p q m).2.1 (vaN l p q m).2.2):=by
 refine lc_ (env:=[(0,.pointer (some ⟨g,0,none⟩)),(1,.int .u64 (m:Int))]) [.pointer (some ⟨g,0,none⟩),.int .u64 (m:Int)] Tryz.func129 Z Tryz.ntmps129 Z Z ?_;have hnl:=ck_ hw;have hnc:=aO_ hw.2;have S0:=St.borrow1 (rdr g A n c l p q) hw (dC_ hw);refine a_ fun K1 hK1=>b_ (Lan Z Z (hK1 _ _ (a_ fun K2 hK2=>a_ fun K3 hK3=>Rm Z Z (L_o (n_ Tryz.func137 Z Z (rdead g A n c l p _ w0 (S0.get 0 Z) hp) Z Z ?_)))));rintro e1 w1 ⟨v1,rfl,l1,rfl⟩;refine ⟨_,rfl,(have S1:=S0.like l1;f_ (hK3 _ _ ?_))⟩;refine o_ Z (fun h7=>?_) (fun h7=>?_)
 ·
  refine a_ fun K4 hK4=>b_ (Lan Z Z (hK4 _ _ (l_ (ur (retd1 Z Z ?_)))));have hV:vaN l p q m=(0,p,q):=by rw [vaN,if_pos (by omega)]
  exact ⟨_,rfl,by rw [hV];rfl,by rw [hV];exact Rdd.turned (S1.turned1 0 Z) Z Z⟩
 ·
  have hq:q=0:=by omega
  subst hq;refine j_ (hK2 _ _ (a_ fun K5 hK5=>Rm Z Z (Lm Z Z (L_y (E_ Z) Z (L_y (g_ 1 Tryz.underlying218 Z sz3 Z Z Z) Z (L_y (t_ Tryz.underlying3 Z Z (((S1.get 0 Z).1.cell _).trans (by rfl))) Z ?_))))));refine L_defer Z (f_ (hK5 _ _ (a_ fun K6 hK6=>Rm Z Z (L_o (n_ Tryz.func168 Z Z (gk_ g A n c l p w1 (S1.get 0 Z) hp hn62) Z Z ?_)))));rintro e2 w2 ⟨v2,rfl,rfl,T2⟩;refine ⟨_,rfl,(have S2:=S1.turn 0 Z T2;Lan Z Z (hK6 _ _ (a_ fun K7 hK7=>a_ fun K8 hK8=>Rm Z Z (L_y (E_ Z) Z (L_y (g_ 2 Tryz.underlying218 Z dm_ Z Z Z) Z (L_y (t_ Tryz.underlying24 Z Z (((S2.get 0 Z).1.cell _).trans (by rfl))) Z ?_))))))⟩;refine L_y (am_ Z Z) Z (Lm Z Z ?_);refine y_ 20 Z (fun h20=>?_) (fun h20=>?_)
  ·
   refine d_ Z Z (Lm Z Z (d_ Z Z (Lm Z Z (d_ Z Z (L_y (Z_ Z Z) Z (Lp Z Z Z (f_ (hK8 _ _ ?_))))))));refine o_ Z (fun h24=>?_) (fun h24=>?_)
   ·
    refine Rm Z Z (L_y (E_ Z) Z (have S4:=split1 S2 (do_ (S2.get 0 Z));L_y (g_ 2 Tryz.underlying218 Z dm_ Z Z Z) Z (L_o (ac_ S4 0 Z Z Z Z dm_ (by simp;done) fun w5 S5=>?_))));have S6:=Rdd.join S5 (q':=3) Z;refine f_ (hK7 _ _ (a_ fun K9 hK9=>a_ fun K10 hK10=>Rm Z Z (L_y (E_ Z) Z (L_y (g_ 2 Tryz.underlying218 Z dm_ Z Z Z) Z (L_y (t_ Tryz.underlying24 Z Z (((S6.get 0 Z).1.cell _).trans (by rfl))) Z ?_)))));refine L_y (ab_ Z Z) Z (f_ (hK10 _ _ ?_));refine o_ Z (fun h32=>?_) (fun h32=>?_)
    ·
     refine a_ fun K11 hK11=>b_ (Lan Z Z (hK11 _ _ (l_ (ur (retD1 (f:=167) Z Z Z Tryz.func167 Z Z (rback g A n c l _ _ p w5 (S6.get 0 Z)) ?_)))));rintro e7 w7 ⟨v7,rfl,T7⟩;refine ⟨_,rfl,?_⟩;have S7:=S6.turn 0 Z T7;have hV:vaN l p 0 m=(0,p,3):=by rw [vaN,if_neg (by omega),if_neg (by omega),if_pos (by omega)]
     exact ⟨_,rfl,by rw [hV];rfl,by rw [hV];exact Rdd.turned (S7.turned1 0 Z) (if_pos (by decide)) Z⟩
    ·
     refine j_ (hK9 _ _ (a_ fun K12 hK12=>Rm Z Z (Lan Z Z (hK12 _ _ (l_ (ur (retD1 (f:=167) Z Z Z Tryz.func167 Z Z (rback g A n c l _ _ p w5 (S6.get 0 Z)) ?_)))))));rintro e8 w8 ⟨v8,rfl,T8⟩;refine ⟨_,rfl,?_⟩;have S8:=S6.turn 0 Z T8;exfalso
     omega
   ·
    refine j_ (hK7 _ _ (a_ fun K13 hK13=>a_ fun K14 hK14=>Rm Z Z (L_y (E_ Z) Z (L_y (g_ 2 Tryz.underlying218 Z dm_ Z Z Z) Z (L_y (t_ Tryz.underlying24 Z Z (((S2.get 0 Z).1.cell _).trans (by rfl))) Z ?_)))));refine L_y (ab_ Z Z) Z (f_ (hK14 _ _ ?_));refine o_ Z (fun h32=>?_) (fun h32=>?_)
    ·
     refine a_ fun K15 hK15=>b_ (Lan Z Z (hK15 _ _ (l_ (ur (retD1 (f:=167) Z Z Z Tryz.func167 Z Z (rback g A n c l _ _ p w2 (S2.get 0 Z)) ?_)))));rintro e9 w9 ⟨v9,rfl,T9⟩;refine ⟨_,rfl,?_⟩;have S9:=S2.turn 0 Z T9;exfalso
     omega
    ·
     refine j_ (hK13 _ _ (a_ fun K16 hK16=>Rm Z Z (Lan Z Z (hK16 _ _ (l_ (ur (retD1 (f:=167) Z Z Z Tryz.func167 Z Z (rback g A n c l _ _ p w2 (S2.get 0 Z)) ?_)))))));rintro e10 w10 ⟨v10,rfl,T10⟩;refine ⟨_,rfl,?_⟩;have S10:=S2.turn 0 Z T10;have hV:vaN l p 0 m=((bT_ (l.drop p) 0 0).1,p+(bT_ (l.drop p) 0 0).2.1,0):=by rw [vaN,if_neg (by omega),if_neg (by omega),if_neg (by omega)]
     exact ⟨_,rfl,by rw [hV],by rw [hV];exact Rdd.turned (S10.turned1 0 Z) (if_neg (by omega)) (show (bT_ (l.drop p) 0 0).2.2=0 by omega)⟩
  ·
   refine h_ Z Z Z (h_ Z Z Z (h_ Z Z Z (Lp Z Z Z (f_ (hK8 _ _ (aW_ Z (j_ (hK7 _ _ (a_ fun K17 hK17=>a_ fun K18 hK18=>Rm Z Z (L_y (E_ Z) Z ?_))))))))));refine L_y (g_ 2 Tryz.underlying218 Z dm_ Z Z Z) Z (L_y (t_ Tryz.underlying24 Z Z (((S2.get 0 Z).1.cell _).trans (by rfl))) Z ?_);refine L_y (ab_ Z Z) Z (f_ (hK18 _ _ ?_));refine o_ Z (fun h32=>?_) (fun h32=>?_)
   ·
    refine a_ fun K19 hK19=>b_ (Lan Z Z (hK19 _ _ (l_ (ur (retD1 (f:=167) Z Z Z Tryz.func167 Z Z (rback g A n c l _ _ p w2 (S2.get 0 Z)) ?_)))));rintro e11 w11 ⟨v11,rfl,T11⟩;refine ⟨_,rfl,?_⟩;have S11:=S2.turn 0 Z T11;have hV:vaN l p 0 m=(0,p,(bT_ (l.drop p) 0 0).2.2):=by rw [vaN,if_neg (by omega),if_pos (by omega)]
    exact ⟨_,rfl,by rw [hV];rfl,by rw [hV];exact Rdd.turned (S11.turned1 0 Z) (if_pos (by omega)) Z⟩
   ·
    refine j_ (hK17 _ _ (a_ fun K20 hK20=>Rm Z Z (Lan Z Z (hK20 _ _ (l_ (ur (retD1 (f:=167) Z Z Z Tryz.func167 Z Z (rback g A n c l _ _ p w2 (S2.get 0 Z)) ?_)))))));rintro e12 w12 ⟨v12,rfl,T12⟩;refine ⟨_,rfl,?_⟩;have S12:=S2.turn 0 Z T12;exfalso
    omega
theorem numF_le:∀ (r:List UInt8) (k a:Nat),(bT_ r k a).2.1≤k+r.length
  | [],k,a=>by simp [bT_]
  | c :: r,k,a=>by
    have h:=numF_le r (k+1) (a+c.toNat % 128*128 ^ k)
    unfold bT_
    split
    · simp
    · split
      · simp
      · simp only [List.length_cons]
        omega
theorem numF_at (l:List UInt8) (p:Nat) (h:p≤l.length):p+(bT_ (l.drop p) 0 0).2.1≤l.length:=by
  have:=numF_le (l.drop p) 0 0
  rw [List.length_drop] at this
  omega
def rnL (l:List UInt8) (p q:Nat) (m:Int):List UInt8:=if m < 0 then [] else rwL l p q m.toNat
def rnP (l:List UInt8) (p q:Nat) (m:Int):Nat:=if m < 0 then p else rwP l p q m.toNat
def rnE (l:List UInt8) (p q:Nat) (m:Int):Nat:=if m < 0 then (if q≠0 then q else 3) else rwE l p q m.toNat
theorem rdr_same {g n c p q p' q':Nat} {A:Option Addr} {l:List UInt8} {i:Nat} (h:(rdr g A n c l p q).dom i):(rdr g A n c l p' q').dom i:=h
theorem rraw (g:Nat) (A:Option Addr) (n c:Nat) (l:List UInt8) (p q:Nat) (m:Int) (w0:World) (hw:(rdr g A n c l p q).holds w0) (hp:p≤l.length) (hn62:n≤70368744177664) (hm:m≤9223372036854775807) :
    Calls Tryz.prog 104 #[.pointer (some ⟨g,0,none⟩),.int .i64 m] w0 fun e w'=>∃ u,e=.returned u∧Turned w0 w' (rdr g A n c l p q) (rdr g A n c l (rnP l p q m) (rnE l p q m))∧∃ B c2,u=.slice B (rnL l p q m).length c2∧(row 5 1 B (rnL l p q m).length c2 (bL (rnL l p q m))).holds w'∧∀ i,(row 5 1 B (rnL l p q m).length c2 (bL (rnL l p q m))).dom i→w0.heap.size≤i:=by
 refine v_ (env:=[(0,.pointer (some ⟨g,0,none⟩)),(1,.int .i64 m)]) [.pointer (some ⟨g,0,none⟩),.int .i64 m] Tryz.func104 Z Tryz.ntmps104 Z Z ?_;have hnl:=ck_ hw;have hnc:=aO_ hw.2;have S0:=St.borrow1 (rdr g A n c l p q) hw (dC_ hw);refine a_ fun K1 hK1=>b_ (Lan Z Z (hK1 _ _ (a_ fun K2 hK2=>a_ fun K3 hK3=>Rm Z Z (L_o (n_ Tryz.func137 Z Z (rdead g A n c l p _ w0 (S0.get 0 Z) hp) Z Z ?_)))));rintro e1 w1 ⟨v1,rfl,l1,rfl⟩;refine ⟨_,rfl,(have S1:=S0.like l1;f_ (hK3 _ _ ?_))⟩;refine o_ Z (fun h6=>?_) (fun h6=>?_)
 ·
  refine a_ fun K4 hK4=>b_ (Lan Z Z (hK4 _ _ (l_ (ur (F_ Z Z ?_)))));have e1:rnL l p q m=[]:=by unfold rnL rwL;split;rfl;rw [if_neg (by omega)]
  have e2:rnP l p q m=p:=by unfold rnP rwP;split;rfl;rw [if_neg (by omega)]
  have e3:rnE l p q m=q:=by unfold rnE rwE;split;rw [if_pos (by omega)];rw [if_neg (by omega)]
  exact ⟨_,rfl,by rw [e2,e3];exact S1.turned1 0 Z,none,0,by rw [e1];rfl,by rw [e1];exact ⟨by simp [bL],.inl ⟨rfl,rfl⟩⟩,fun i hi=>by rw [e1] at hi;simp [row,Value.ownBlock] at hi⟩
 ·
  have hq:q=0:=by omega
  subst hq;refine j_ (hK2 _ _ (a_ fun K5 hK5=>a_ fun K6 hK6=>Rm Z Z (L_y (L_ Z Z) Z (f_ (hK6 _ _ ?_)))));refine o_ Z (fun h8=>?_) (fun h8=>?_)
  ·
   refine a_ fun K7 hK7=>Rm Z Z (Lm Z Z (L_y (E_ Z) Z (L_y (g_ 1 Tryz.underlying218 Z sz3 Z Z Z) Z (L_y (t_ Tryz.underlying3 Z Z (((S1.get 0 Z).1.cell _).trans (by rfl))) Z ?_))));refine L_o (n_ Tryz.func138 Z Z (rfail g A n c l _ _ p 3 w1 (S1.get 0 Z) hp) Z Z ?_);rintro e2 w2 ⟨v2,rfl,T2⟩;refine ⟨_,rfl,(have S2:=S1.turn 0 Z T2;f_ (hK7 _ _ (a_ fun K8 hK8=>b_ (Lan Z Z (hK8 _ _ (l_ (ur (F_ Z Z ?_))))))))⟩;have e1:rnL l p 0 m=[]:=by rw [rnL,if_pos (by omega)]
   have e2:rnP l p 0 m=p:=by rw [rnP,if_pos (by omega)]
   have e3:rnE l p 0 m=3:=by rw [rnE,if_pos (by omega)];rfl
   exact ⟨_,rfl,by rw [e2,e3];exact S2.turned1 0 Z,none,0,by rw [e1];rfl,by rw [e1];exact ⟨by simp [bL],.inl ⟨rfl,rfl⟩⟩,fun i hi=>by rw [e1] at hi;simp [row,Value.ownBlock] at hi⟩
  ·
   obtain ⟨k,rfl⟩:∃ k:Nat,m=(k:Int):=⟨m.toNat,by omega⟩;refine j_ (hK5 _ _ (a_ fun K9 hK9=>Rm Z Z (Lm Z Z (L_o (n_ Tryz.func139 Z Z (rtake g A n c l p _ k w1 (S1.get 0 Z) hp (by omega) (by omega)) Z Z ?_)))));rintro e3 w3 ⟨v3,rfl,B3,d3,rfl,RR,T3⟩;refine ⟨_,rfl,?_⟩;have S3:=S1.turn 0 Z T3;have htl:=tk_le l p k;have htn:(tkL l p k).length≤l.length:=by unfold tkL;split;simp;omega;simp
   refine L_o (o_app0 ba_ S3 Z Z (RR) (R_ _) Z (by omega) (by omega) fun A4 c4 w4 S4=>Lan Z Z (hK9 _ _ (l_ (ur (F_ Z Z ?_)))));have e1:rnL l p 0 (k:Int)=tkL l p k:=by rw [rnL,if_neg (by omega),rwL,if_pos Z,Int.toNat_natCast]
   have e2:rnP l p 0 (k:Int)=tkP l p k:=by rw [rnP,if_neg (by omega),rwP,if_pos Z,Int.toNat_natCast]
   have e3:rnE l p 0 (k:Int)=tkE l p k 0:=by rw [rnE,if_neg (by omega),rwE,if_pos Z,Int.toNat_natCast]
   exact ⟨_,rfl,by rw [e2,e3];exact S4.turned1 0 Z,_,_,by rw [e1],by rw [e1];exact S4.get 1 Z,fun i hi=>by rw [e1] at hi;have h9:=(S4.res _ (List.mem_of_getElem? (show _=some _ from (rfl:[rdr g A n c l (tkP l p k) (tkE l p k 0),_][1]?=some _)))).2 i hi;rcases h9.2 with h9 | h9;exact h9;exact absurd hi (St.apart_ S4 0 1 Z Z Z i (rdr_same h9))⟩
theorem ru32 (g:Nat) (A:Option Addr) (n c:Nat) (l:List UInt8) (p q:Nat) (w0:World) (hw:(rdr g A n c l p q).holds w0) (hp:p≤l.length) (hn62:n≤4611686018427387904) :
    Calls Tryz.prog 105 #[.pointer (some ⟨g,0,none⟩)] w0 fun e w'=>∃ u,e=.returned u∧u=.int .u32 (be (rwL l p q 4):Int)∧Turned w0 w' (rdr g A n c l p q) (rdr g A n c l (rwP l p q 4) (rwE l p q 4)):=by
 refine v_ (env:=[(0,.pointer (some ⟨g,0,none⟩))]) [.pointer (some ⟨g,0,none⟩)] Tryz.func105 Z Tryz.ntmps105 Z Z ?_;have hnl:=ck_ hw;have hnc:=aO_ hw.2;have S0:=St.borrow1 (rdr g A n c l p q) hw (dC_ hw);refine a_ fun K1 hK1=>b_ (Lan Z Z (hK1 _ _ (a_ fun K2 hK2=>a_ fun K3 hK3=>Rm Z Z (L_o (n_ Tryz.func137 Z Z (rdead g A n c l p _ w0 (S0.get 0 Z) hp) Z Z ?_)))));rintro e1 w1 ⟨v1,rfl,l1,rfl⟩;refine ⟨_,rfl,(have S1:=S0.like l1;f_ (hK3 _ _ ?_))⟩;refine o_ Z (fun h7=>?_) (fun h7=>?_)
 ·
  refine a_ fun K4 hK4=>b_ (Lan Z Z (hK4 _ _ (l_ (ur (F_ Z Z ?_)))));first | exact ⟨_,rfl,by rw [rwL,if_neg (by omega)];rfl,Rdd.turned (S1.turned1 0 Z) (by rw [rwP,if_neg (by omega)]) (by rw [rwE,if_neg (by omega)])⟩ | exact ⟨_,rfl,by rw [rwL,if_pos Z,List.take_length],Rdd.turned (S1.turned1 0 Z) Z Z⟩
 ·
  have hq:q=0:=by omega
  subst hq;refine j_ (hK2 _ _ (a_ fun K5 hK5=>b_ (Lan Z Z (hK5 _ _ (a_ fun K6 hK6=>a_ fun K7 hK7=>Rm Z Z (L_o (n_ Tryz.func139 Z Z (rtake g A n c l p _ 4 w1 (S1.get 0 Z) hp (by omega) hn62) Z Z ?_)))))));rintro e2 w2 ⟨v2,rfl,B2,d2,rfl,R2,T2⟩;refine ⟨_,rfl,(have S2:=S1.turn 0 Z T2;have RR:=R2;L_y (I_ Tryz.underlying22 Z) Z (Lm Z Z (f_ (hK7 _ _ (r_ ?_)))))⟩;refine an_ [(9,_),(10,_)] (fun (k:Nat)=>[(3,.int .u32 (be ((tkL l p 4).take k):Int)),(11,.int .i64 (k:Int))]) (fun (k:Nat)=>(tkL l p 4).length - k) (fun (k:Nat) (w:World)=>(k≤(tkL l p 4).length∧Rs w 1 B2 (tkL l p 4).length d2 (bL (tkL l p 4)))∧St w0 (rdr g A n c l p 0).dom [rdr g A n c l (tkP l p 4) (tkE l p 4 0)] w) 0 (Sc Z (Sc Z (Sub.nil _))) (Sub.cons Z Z (Sub.cons Z Z (Sub.nil _))) ?_ ?_
  ·
   exact ⟨⟨Nat.zero_le _,RR⟩,S2⟩
  ·
   intro k w3 hrel;obtain ⟨⟨hk,RX⟩,S3⟩:=hrel;have htl:=tk_le l p 4;refine a_ fun K8 hK8=>b_ (L_y (L_ Z Z) Z (f_ (hK8 _ _ (a_ fun K9 hK9=>?_))));refine o_ Z (fun h12=>?_) (fun h12=>?_)
   ·
    obtain ⟨x,hx⟩:∃ x,(tkL l p 4)[k]?=some x:=⟨_,List.getElem?_eq_getElem (by omega)⟩;have hxl:=x.toNat_lt;have hbb:=be_bound (k:=k) (j:=3) (show k < (tkL l p 4).length by omega) htl;refine j_ (hK9 _ _ (a_ fun K10 hK10=>r_ (a_ fun K11 hK11=>b_ (L_y (T_ Tryz.underlying22 sz5 Z Z (RX) inferInstance (by omega)) Z (L_y (cj_ Tryz.underlying5 Z Z RX (bL_getX hx)) Z (Lan Z Z (hK11 _ _ (Rm Z Z (L_y (gX_ Z Z (by omega) (shl8_32 _ hbb)) Z ?_)))))))));refine Lm Z Z (L_y (P_ is5 Tryz.underlying63 Z (u32w (by omega))) Z (L_y (ae_ Z Z Z (orbe32 _ _ hbb)) Z (Lan Z Z (hK10 _ _ (b_ (L_y (w_ Z Z (z_ (by omega))) Z (Lm Z Z (f_ (⟨k+1,by omega,⟨⟨by omega,RX⟩,S3⟩,?_⟩)))))))));exact (Sub.cons Z (congrArg (Value.int _) (by rw [be_take hx])) (Sc Z (Sub.cons Z Z (Sub.cons Z Z (Sub.nil _)))))
   ·
    have hke:k=(tkL l p 4).length:=by omega
    subst hke;refine K_ (hK6 _ _ (a_ fun K12 hK12=>Rm Z Z (Lan Z Z (hK12 _ _ (l_ (ur (F_ Z Z ?_)))))));first | exact ⟨_,rfl,by rw [rwL,if_neg (by omega)];rfl,Rdd.turned (S3.turned1 0 Z) (by rw [rwP,if_neg (by omega)]) (by rw [rwE,if_neg (by omega)])⟩ | exact ⟨_,rfl,by rw [rwL,if_pos Z,List.take_length],Rdd.turned (S3.turned1 0 Z) Z Z⟩
theorem rbyte (g:Nat) (A:Option Addr) (n c:Nat) (l:List UInt8) (p q:Nat) (w0:World) (hw:(rdr g A n c l p q).holds w0) (hp:p≤l.length) (hn62:n≤4611686018427387904) :
    Calls Tryz.prog 127 #[.pointer (some ⟨g,0,none⟩)] w0 fun e w'=>∃ u,e=.returned u∧u=.int .u8 (be (rwL l p q 1):Int)∧Turned w0 w' (rdr g A n c l p q) (rdr g A n c l (rwP l p q 1) (rwE l p q 1)):=by
 refine v_ (env:=[(0,.pointer (some ⟨g,0,none⟩))]) [.pointer (some ⟨g,0,none⟩)] Tryz.func127 Z Tryz.ntmps127 Z Z ?_;have hnl:=ck_ hw;have hnc:=aO_ hw.2;have S0:=St.borrow1 (rdr g A n c l p q) hw (dC_ hw);refine a_ fun K1 hK1=>b_ (Lan Z Z (hK1 _ _ (a_ fun K2 hK2=>a_ fun K3 hK3=>Rm Z Z (L_o (n_ Tryz.func137 Z Z (rdead g A n c l p _ w0 (S0.get 0 Z) hp) Z Z ?_)))));rintro e1 w1 ⟨v1,rfl,l1,rfl⟩;refine ⟨_,rfl,(have S1:=S0.like l1;f_ (hK3 _ _ ?_))⟩;refine o_ Z (fun h5=>?_) (fun h5=>?_)
 ·
  refine a_ fun K4 hK4=>b_ (Lan Z Z (hK4 _ _ (l_ (ur (F_ Z Z ?_)))));first | exact ⟨_,rfl,by rw [rwL,if_neg (by omega)];rfl,Rdd.turned (S1.turned1 0 Z) (by rw [rwP,if_neg (by omega)]) (by rw [rwE,if_neg (by omega)])⟩ | (have hk:=gf_ h12;exact ⟨_,rfl,by rw [rwL,if_pos Z,tkL_no hk];rfl,Rdd.turned (S1.turned1 0 Z) Z Z⟩) | exact ⟨_,rfl,by rw [rwL,if_pos Z,htk];simp [be],Rdd.turned (S1.turned1 0 Z) Z Z⟩
 ·
  have hq:q=0:=by omega
  subst hq;refine j_ (hK2 _ _ (a_ fun K5 hK5=>Rm Z Z (L_o (n_ Tryz.func139 Z Z (rtake g A n c l p _ 1 w1 (S1.get 0 Z) hp (by omega) hn62) Z Z ?_))));rintro e2 w2 ⟨v2,rfl,B2,d2,rfl,R2,T2⟩;refine ⟨_,rfl,(have S2:=S1.turn 0 Z T2;have RR:=R2;Lan Z Z (hK5 _ _ (a_ fun K6 hK6=>a_ fun K7 hK7=>Rm Z Z (L_y (E_ Z) Z (L_y (g_ 2 Tryz.underlying218 Z dm_ Z Z Z) Z (L_y (t_ Tryz.underlying24 Z Z (((S2.get 0 Z).1.cell _).trans (by rfl))) Z ?_))))))⟩;refine L_y (ab_ Z Z) Z (f_ (hK7 _ _ ?_));refine o_ Z (fun h12=>?_) (fun h12=>?_)
  ·
   refine a_ fun K8 hK8=>b_ (Lan Z Z (hK8 _ _ (l_ (ur (F_ Z Z ?_)))));first | exact ⟨_,rfl,by rw [rwL,if_neg (by omega)];rfl,Rdd.turned (S2.turned1 0 Z) (by rw [rwP,if_neg (by omega)]) (by rw [rwE,if_neg (by omega)])⟩ | (have hk:=gf_ h12;exact ⟨_,rfl,by rw [rwL,if_pos Z,tkL_no hk];rfl,Rdd.turned (S2.turned1 0 Z) Z Z⟩) | exact ⟨_,rfl,by rw [rwL,if_pos Z,htk];simp [be],Rdd.turned (S2.turned1 0 Z) Z Z⟩
  ·
   have hk:=tkE_case h12;obtain ⟨x,hx,htk,hdr⟩:=tk_one hk;rw [show bL (tkL l p 1)=bL [x] from congrArg bL htk] at RR;refine j_ (hK6 _ _ (a_ fun K9 hK9=>Rm Z Z (L_y (T_ Tryz.underlying22 sz5 Z Z (RR) inferInstance (by rw [tkL_ok hk];decide)) Z ?_)));refine L_y (cj_ Tryz.underlying5 Z Z RR (show ([bV x])[0]?=some (Value.int .u8 (x.toNat:Int)) from Z)) Z (Lan Z Z (hK9 _ _ (l_ (ur (F_ Z Z ?_)))));first | exact ⟨_,rfl,by rw [rwL,if_neg (by omega)];rfl,Rdd.turned (S2.turned1 0 Z) (by rw [rwP,if_neg (by omega)]) (by rw [rwE,if_neg (by omega)])⟩ | (have hk:=gf_ h12;exact ⟨_,rfl,by rw [rwL,if_pos Z,tkL_no hk];rfl,Rdd.turned (S2.turned1 0 Z) Z Z⟩) | exact ⟨_,rfl,by rw [rwL,if_pos Z,htk];simp [be],Rdd.turned (S2.turned1 0 Z) Z Z⟩
end Oct
namespace Oct
open Go.RowKit Zk Zx
theorem ki_ (rest:List UInt8):∀ (n t k a:Nat),t≤n→k≤9→(k=9→t≤1)→(0 < k→0 < t)→(t*128 ^ k≤18446744073709551615)→bT_ (vr t++rest) k a=(a+t*128 ^ k,k+(vr t).length,0)
  | n,t, k,a,hn,hk,h9,h0,hm=>by
    by_cases hl:t < 128
    · rw [hI_ _ hl,List.singleton_append,bT_,show (UInt8.ofNat t).toNat=t by rw [UInt8.toNat_ofNat'];omega,if_neg (by omega),if_pos hl,Nat.mod_eq_of_lt hl]
      rfl
    · have hk9:k≠9:=fun h=>by have:=h9 h;omega
      have e1:(UInt8.ofNat (t % 128+128)).toNat=t % 128+128:=by rw [UInt8.toNat_ofNat'];omega
      have e2:t / 128*128 ^ (k+1)+t % 128*128 ^ k=t*128 ^ k:=by
        rw [Nat.pow_succ,Nat.mul_comm (128 ^ k), ← Nat.mul_assoc, ← Nat.add_mul]
        congr 1
        omega
      match n,hn with
      | 0,hn=>exact absurd hn (by omega)
      | n + 1,hn =>
        have ih:=ki_ rest n (t / 128) (k+1) (a+t % 128*128 ^ k) (by omega) (by omega) (fun h=>by
          have h8:k=8:=by omega
          subst h8
          have h4:(128:Nat) ^ 8=72057594037927936:=rfl
          rw [h4] at hm
          omega) (fun _=>by omega) (by omega)
        rw [fH_ _ (by omega),List.cons_append,bT_,e1,if_neg (by omega),if_neg (by omega),show (t % 128+128) % 128=t % 128 by omega,ih,List.length_cons]
        simp only [Prod.mk.injEq,and_true]
        omega
theorem jt_ (rest:List UInt8) (t:Nat) (h:t≤18446744073709551615):bT_ (vr t++rest) 0 0=(t,(vr t).length,0):=by
  have:=ki_ rest t t 0 0 (Nat.le_refl _) (by omega) (by omega) (by omega) (by omega)
  simpa using this
theorem dl_ (l:List UInt8) (p q m:Nat) (hp:p≤l.length):(vaN l p q m).2.1≤l.length:=by
  unfold vaN
  have:=numF_at l p hp
  repeat' split
  all_goals simp only;omega
end Oct
namespace Oct
open Go.RowKit Zk Zx
def xr (g:Nat) (A:Option Addr) (n c p q:Nat):Res:=blk g 185 #[.slice A n c,.int .i64 (p:Int),.int .i64 (q:Int)]
theorem xr_lt {w:World} {g n c p q:Nat} {A:Option Addr} (h:(xr g A n c p q).holds w):∀ i,(xr g A n c p q).dom i→i < w.heap.size:=fun i hi=>by
  have hi':i=g:=hi
  subst hi'
  exact Blk.lt h
theorem St.rdM {w0 w:World} {M:Nat→Prop} {rs:List Res} (S:St w0 M rs w) {size n c:Nat} {A:Option Addr} {xs:List Value} (h:Rs w0 size A n c xs) (hM:∀ ad,0 < n→A=some ad→¬ M ad.block):Rs w size A n c xs :=
  (fixed size A n c xs).stable w0 w (fun i ⟨ad,hn,hA,hi⟩=>by
    subst hi
    obtain ⟨ad',hA',hb,_⟩:=h.rd.2 hn
    rw [hA] at hA'
    cases hA'
    exact S.old _ hb (hM ad hn hA)) h
theorem rn_nat (l:List UInt8) (p q k:Nat):rnL l p q (k:Int)=rwL l p q k∧rnP l p q (k:Int)=rwP l p q k∧rnE l p q (k:Int)=rwE l p q k :=
  ⟨by rw [rnL,if_neg (by omega),Int.toNat_natCast],by rw [rnP,if_neg (by omega),Int.toNat_natCast],by rw [rnE,if_neg (by omega),Int.toNat_natCast]⟩
theorem rn_no {l:List UInt8} {p k:Nat} (h:¬ k≤l.length - p):rnL l p 0 (k:Int)=[]∧rnP l p 0 (k:Int)=p∧rnE l p 0 (k:Int)=10:=by
  obtain ⟨e1,e2,e3⟩:=rn_nat l p 0 k
  exact ⟨by rw [e1,rwL,if_pos Z,tkL_no h],by rw [e2,rwP,if_pos Z,tkP,if_neg h],by rw [e3,rwE,if_pos Z,ex_ h]⟩
theorem rn_ok {l:List UInt8} {p k:Nat} (h:k≤l.length - p):rnL l p 0 (k:Int)=(l.drop p).take k∧rnP l p 0 (k:Int)=p+k∧rnE l p 0 (k:Int)=0:=by
  obtain ⟨e1,e2,e3⟩:=rn_nat l p 0 k
  exact ⟨by rw [e1,rwL,if_pos Z,tkL,if_pos h],by rw [e2,rwP,if_pos Z,tkP,if_pos h],by rw [e3,rwE,if_pos Z,iX_ h]⟩
theorem rw_le (l:List UInt8) (p q k:Nat):(rwL l p q k).length≤k:=by
  unfold rwL
  split
  · exact tk_le l p k
  · simp
end Oct
namespace Del
end Del
namespace Del
open Go.RowKit Zk Zx Oct
def em_ (o:OV):List UInt8:=if o.cp then 1::(vr o.fr.toNat++vr o.n.toNat) else 0::(vr o.l.length++o.l)
def bm_ (b t:Int) (l:List OV):List UInt8:=vr b.toNat++vr t.toNat++l.flatMap em_
def cy_ (b t:Int) (l:List OV):List UInt8 × Int:=if eb_ b t l≠0 then ([],eb_ b t l) else (bm_ b t l,0)
theorem er_ {b t:Int} {l:List OV} (h:eb_ b t l≠0):cy_ b t l=([],eb_ b t l):=by unfold cy_;rw [if_pos h]
theorem ez_ {b t:Int} {l:List OV} (h:eb_ b t l=0):cy_ b t l=(bm_ b t l,0):=by unfold cy_;rw [if_neg (fun x=>x h)]
theorem enc_cp {o:OP} (h:o.cp=true):em_ o.v=[1]++(vr o.fr.toNat++vr o.n.toNat):=by
  unfold em_
  rw [if_pos (show o.v.cp=true from h)]
  rfl
theorem enc_new {o:OP} (h:o.cp=false):em_ o.v=[0]++(vr o.p.l.length++o.p.l):=by
  unfold em_
  rw [if_neg (show ¬ o.v.cp=true from by rw [show o.v.cp=o.cp from Z,h];exact Bool.false_ne_true)]
  rfl
theorem eU_ {b t:Int} {l:List OP} {k:Nat} {o:OP} (ho:l[k]?=some o):bm_ b t ((l.take (k+1)).map OP.v)=bm_ b t ((l.take k).map OP.v)++em_ o.v:=by
  unfold bm_
  rw [take1 ho,List.map_append,List.flatMap_append,List.append_assoc,List.append_assoc,List.append_assoc]
  simp
theorem bF_ (x:Nat) (h:x≤5000):(vr x).length≤2:=vr_len x 1 (by omega)
theorem wt_fresh {w w':World} {b:Nat} (h:w.heap.size≤b) (hw:(wt b none 0 0 []).holds w'):∀ i,(wt b none 0 0 []).dom i→w.heap.size≤i∧i < w'.heap.size:=fun i hi=>by
  refine ⟨?_,wt_lt hw i hi⟩
  rcases hi with hi | hi
  · have hi':i=b:=hi
    omega
  · cases hi
theorem ip_ {x:Int} (h:0≤x) (h2:x≤5000):IntKind.u64.wrap x=((x.toNat:Nat):Int):=by
  rw [IntKind.wrap_u64]
  omega
theorem pput (A:Option Addr) (n c:Nat) (l:List OP) (b t:Int) (w0:World) (hl:Rs w0 4 A n c (l.flatMap opf)) (hok:OkO w0 l) (hn4:n≤4000) :
    Calls Tryz.prog 122 #[.agg (scA b t A n c)] w0 fun e w'=>∃ u,e=.returned u∧Like w0 w'∧∃ A' c',u=.tuple #[.slice A' (cy_ b t (l.map OP.v)).1.length c',.int .i64 (cy_ b t (l.map OP.v)).2]∧w'.ownsRow w0.heap.size 5 1 (.slice A' (cy_ b t (l.map OP.v)).1.length c') (cy_ b t (l.map OP.v)).1.length (bL (cy_ b t (l.map OP.v)).1):=by
 refine v_ (env:=[(0,.agg (scA b t A n c))]) [.agg (scA b t A n c)] Tryz.func122 Z Tryz.ntmps122 Z Z ?_;have hn:=ops_n hl;have hcap:=hl.cap;have hmax:=hl.max;have S0:=St.start w0 noM;refine a_ fun K1 hK1=>b_ (L_o (bO_ Z S0 Z fun b1 w1 hb1 S1=>La Z Z (Lan Z Z (hK1 _ _ (a_ fun K2 hK2=>a_ fun K3 hK3=>b_ (L_y (Y_ Tryz.underlying179 Z cr_ Z (S1.blk 0 Z) (show _=(scA b t A n c).toList∧_ from ⟨rfl,rfl⟩)) Z (L_o (n_ Tryz.func134 Z Z (pcheck A n c l b t w1 (S1.rd hl) (hok.like S1.like0)) Z Z ?_))))))));rintro e2 w2 ⟨v2,rfl,l2,rfl⟩;refine ⟨_,rfl,(have S2:=S1.like l2;Lan Z Z (hK3 _ _ (a_ fun K4 hK4=>Rm Z Z (L_y (ab_ Z Z) Z (f_ (hK4 _ _ ?_))))))⟩;refine o_ Z (fun h11=>?_) (fun h11=>?_)
 ·
  refine a_ fun K5 hK5=>Rm Z Z (La Z Z (Lan Z Z (hK5 _ _ (l_ (ur (bj_ Z Z Z ?_))))));first | exact ⟨_,rfl,S2.like0,none,0,by rw [er_ h11];rfl,by rw [er_ h11];exact World.ownsRow_nil _ _ _ _⟩ | (have hke:k=n:=by omega);subst hke;rw [List.take_of_length_le (by omega)] at hm;have hO:=S2.own 2 Z;have hL:=(S2.row 2 Z).lenb;subst hm;obtain rfl:=hL;exact ⟨_,rfl,S2.like0,_,_,by rw [ez_ h110],by rw [ez_ h110];exact hO⟩
 ·
  have h110:=Decidable.byContradiction h11;obtain ⟨hrg,hall⟩:=eT_ h110;refine j_ (hK2 _ _ (a_ fun K6 hK6=>b_ (L_o (n_ Tryz.func164 Z Z (wnew w2) Z Z ?_))));rintro e3 w3 ⟨v3,rfl,l3,g,rfl,hb3,hh3⟩;refine ⟨_,rfl,(have S3:=S2.new l3 _ hh3 (wt_fresh hb3 hh3);Lan Z Z (hK6 _ _ (a_ fun K7 hK7=>Rm Z Z (L_y (g_ 0 Tryz.underlying179 Z sz3 Z Z Z) Z (L_y (t_ Tryz.underlying3 Z Z (((S3.blk 0 Z).cell _).trans (by rfl))) Z ?_)))))⟩;refine L_y (P_ is3 Tryz.underlying102 Z (ip_ (by omega) (by omega))) Z (L_o (n_ Tryz.func91 Z Z (wvar g _ _ _ _ b.toNat w3 (S3.get 1 Z) (by omega) (by simp)) Z Z ?_));rintro e4 w4 ⟨v4,rfl,⟨A4,n4,c4,T4⟩⟩;refine ⟨_,rfl,(have S4:=S3.turn 1 Z T4;f_ (hK7 _ _ (a_ fun K8 hK8=>Rm Z Z (L_y (g_ 1 Tryz.underlying179 Z sz3 Z Z Z) Z (L_y (t_ Tryz.underlying3 Z Z (((S4.blk 0 Z).cell _).trans (by rfl))) Z ?_)))))⟩;refine L_y (P_ is3 Tryz.underlying102 Z (ip_ (by omega) (by omega))) Z (L_o (n_ Tryz.func91 Z Z (wvar g _ _ _ _ t.toNat w4 (S4.get 1 Z) (by omega) (by have:=bF_ b.toNat (by omega);simp;omega)) Z Z ?_));rintro e5 w5 ⟨v5,rfl,⟨A23,n23,c23,T5⟩⟩;refine ⟨_,rfl,(have S5:=S4.turn 1 Z T5;f_ (hK8 _ _ (a_ fun K9 hK9=>a_ fun K10 hK10=>b_ (L_y (g_ 2 Tryz.underlying179 Z fA_ Z Z Z) Z (L_y (t_ Tryz.underlying177 Z Z (((S5.blk 0 Z).cell _).trans (by rfl))) Z ?_)))))⟩;refine L_y (I_ Tryz.underlying177 Z) Z (Lm Z Z (f_ (hK10 _ _ (r_ ?_))));refine gw_ [(5,_),(25,_),(26,_)] (fun (k:Nat) (left:Int) (m:List UInt8) (A1:Option Addr) (n1:Nat) (c1:Nat)=>[(27,.int .i64 (k:Int))]) (fun (k:Nat) (left:Int) (m:List UInt8) (A1:Option Addr) (n1:Nat) (c1:Nat)=>n - k) (fun (k:Nat) (left:Int) (m:List UInt8) (A1:Option Addr) (n1:Nat) (c1:Nat) (w:World)=>(k≤n∧0≤left∧left≤4000∧bP_ b left ((l.map OP.v).drop k)=true∧m=bm_ b t ((l.take k).map OP.v)∧m.length+left.toNat≤4020+21*k)∧St w0 noM [blk b1 179 (scA b t A n c),wt g A1 n1 c1 m] w) 0 t ([]++vr b.toNat++vr t.toNat) A23 n23 c23 (Sc Z (Sub.nil _)) (Sub.cons Z Z (Sub.cons Z Z (Sub.cons Z Z (Sub.nil _)))) ?_ ?_
  ·
   exact ⟨⟨Nat.zero_le _,by omega,by omega,hall,by simp [bm_],by have:=bF_ b.toNat (by omega);have:=bF_ t.toNat (by omega);simp;omega⟩,S5⟩
  ·
   intro k left m A1 n1 c1 w6 hrel;obtain ⟨⟨hk,hl0,hl1,hch,hm,hml⟩,S6⟩:=hrel;refine a_ fun K11 hK11=>b_ (L_y (L_ Z Z) Z (f_ (hK11 _ _ (a_ fun K12 hK12=>?_))));refine o_ Z (fun h28=>?_) (fun h28=>?_)
   ·
    obtain ⟨o,ho⟩:∃ o,l[k]?=some o:=⟨_,List.getElem?_eq_getElem (by omega)⟩;have hop:=hok o (List.mem_of_getElem? ho);have hopn:=hop.lenb;have hopc:=hop.cap;have hopm:=hop.max;obtain ⟨hrt,hsz,hrest⟩:=ic_ ho hch;have hs1:=cC_ hrt;refine j_ (hK12 _ _ (a_ fun K13 hK13=>r_ (a_ fun K14 hK14=>b_ (L_y (T_ Tryz.underlying177 bq_ Z Z (S6.rd hl) (Nt.mk (by omega):Nt _ (k)) (by omega)) Z (L_y (cp_ (f:=opf) go_ Tryz.underlying221 Z bq_ Z (S6.rd hl) (by omega) ho) Z (L_o (H_ gU_ S6 Z fun b7 w7 hb7 S7=>L_o (G_ S7 2 Z Z Z bq_ Z (bp_ o) fun w8 S8=>f_ (hK14 _ _ (a_ fun K15 hK15=>b_ ?_))))))))));refine L_y (g_ 0 Tryz.underlying221 Z sz4 Z Z Z) Z (L_y (t_ Tryz.underlying4 Z Z (((S8.blk 2 Z).cell _).trans (by rfl))) Z ?_);refine f_ (hK15 _ _ ?_);refine aD_ Z (fun h32=>?_) (fun h32=>?_)
    ·
     have hcp:o.cp=true:=h32;obtain ⟨g1,g2,g3,g4,g5⟩:=rt_cp hrt hcp;refine a_ fun K16 hK16=>Rm Z Z (L_o (n_ Tryz.func89 Z Z (wbyte g _ _ _ _ 1 w8 (S8.get 1 Z) (by omega)) Z Z ?_));rintro e9 w9 ⟨v9,rfl,⟨A9,n9,c9,T9⟩⟩;refine ⟨_,rfl,(have S9:=S8.turn 1 Z T9;f_ (hK16 _ _ (a_ fun K17 hK17=>Rm Z Z (L_y (g_ 1 Tryz.underlying221 Z sz3 Z Z Z) Z (L_y (t_ Tryz.underlying3 Z Z (((S9.blk 2 Z).cell _).trans (by rfl))) Z ?_)))))⟩;refine L_y (P_ is3 Tryz.underlying102 Z (ip_ (by omega) (by omega))) Z (L_o (n_ Tryz.func91 Z Z (wvar g _ _ _ _ o.fr.toNat w9 (S9.get 1 Z) (by omega) (by simp;omega)) Z Z ?_));rintro e10 w10 ⟨v10,rfl,⟨A10,n10,c10,T10⟩⟩;refine ⟨_,rfl,(have S10:=S9.turn 1 Z T10;f_ (hK17 _ _ (Rm Z Z (L_y (g_ 2 Tryz.underlying221 Z sz3 Z Z Z) Z (L_y (t_ Tryz.underlying3 Z Z (((S10.blk 2 Z).cell _).trans (by rfl))) Z ?_)))))⟩;refine L_y (P_ is3 Tryz.underlying102 Z (ip_ (by omega) (by omega))) Z (L_o (n_ Tryz.func91 Z Z (wvar g _ _ _ _ o.n.toNat w10 (S10.get 1 Z) (by omega) (by have:=bF_ o.fr.toNat (by omega);simp;omega)) Z Z ?_));rintro e11 w11 ⟨v11,rfl,⟨A11,n11,c11,T11⟩⟩;refine ⟨_,rfl,(have S11:=S10.turn 1 Z T11;f_ (hK13 _ _ (b_ (L_y (w_ Z Z (z_ (by omega))) Z (Lm Z Z (f_ (have S91:=S11.drop (rs':=[_,_]) (.cons_cons _ (.cons_cons _ (.cons _ (.refl _))));⟨k+1,left - szV o.v,_,_,_,_,by omega,⟨⟨by omega,by omega,by omega,hrest,by rw [hm,eU_ ho,enc_cp hcp];simp [List.append_assoc,ByteArray.size],by have:=bF_ o.fr.toNat (by omega);have:=bF_ o.n.toNat (by omega);simp;omega⟩,S91⟩,?_⟩)))))))⟩;exact (Sc Z (Sub.cons Z Z (Sub.cons Z Z (Sub.cons Z Z (Sub.nil _)))))
    ·
     have hcp:o.cp=false:=h32;obtain ⟨g1,g2⟩:=rt_new hrt hcp;refine a_ fun K18 hK18=>Rm Z Z (L_o (n_ Tryz.func89 Z Z (wbyte g _ _ _ _ 0 w8 (S8.get 1 Z) (by omega)) Z Z ?_));rintro e12 w12 ⟨v12,rfl,⟨A12,n12,c12,T12⟩⟩;refine ⟨_,rfl,(have S12:=S8.turn 1 Z T12;f_ (hK18 _ _ (Rm Z Z (L_y (g_ 3 Tryz.underlying221 Z br_ Z Z Z) Z (L_y (t_ Tryz.underlying22 Z Z (((S12.blk 2 Z).cell _).trans (by rfl))) Z ?_)))))⟩;refine L_y (co_ Tryz.underlying22 Tryz.underlying5 Tryz.underlying9 Z (S12.rd hop)) Z (L_o (n_ Tryz.func165 Z Z (wtext g _ _ _ _ ⟨o.p.l.toArray⟩ w12 (S12.get 1 Z) (by simp [ByteArray.size];omega)) Z Z ?_));rintro e13 w13 ⟨v13,rfl,⟨A13,n13,c13,T13⟩⟩;refine ⟨_,rfl,(have S13:=S12.turn 1 Z T13;f_ (hK13 _ _ (b_ (L_y (w_ Z Z (z_ (by omega))) Z (Lm Z Z (f_ (have S91:=S13.drop (rs':=[_,_]) (.cons_cons _ (.cons_cons _ (.cons _ (.refl _))));⟨k+1,left - szV o.v,_,_,_,_,by omega,⟨⟨by omega,by omega,by omega,hrest,by rw [hm,eU_ ho,enc_new hcp];simp [List.append_assoc,ByteArray.size],by have:=bF_ o.p.l.length (by omega);simp [ByteArray.size];omega⟩,S91⟩,?_⟩)))))))⟩;exact (Sc Z (Sub.cons Z Z (Sub.cons Z Z (Sub.cons Z Z (Sub.nil _)))))
   ·
    refine K_ (hK9 _ _ (a_ fun K19 hK19=>Rm Z Z (L_o (n_ Tryz.func59 Z Z (wbytes g _ _ _ _ w6 (S6.get 1 Z) (by omega)) Z Z ?_))));rintro e14 w14 ⟨v14,rfl,l14,A14,m14,c14,rfl,O14⟩;refine ⟨_,rfl,(have S14:=S6.adopt l14 O14;La Z Z (Lan Z Z (hK19 _ _ (l_ (ur (bj_ Z Z Z ?_))))))⟩;first | exact ⟨_,rfl,S14.like0,none,0,by rw [er_ h11];rfl,by rw [er_ h11];exact World.ownsRow_nil _ _ _ _⟩ | (have hke:k=n:=by omega);subst hke;rw [List.take_of_length_le (by omega)] at hm;have hO:=S14.own 2 Z;have hL:=(S14.row 2 Z).lenb;subst hm;obtain rfl:=hL;exact ⟨_,rfl,S14.like0,_,_,by rw [ez_ h110],by rw [ez_ h110];exact hO⟩
end Del
namespace Del
open Go.RowKit Zk Zx Oct
def cO_ (ps:List Part):List UInt8:=ps.flatMap Part.l
theorem catP_step {ps:List Part} {k:Nat} {p:Part} (hp:ps[k]?=some p):cO_ (ps.take (k+1))=cO_ (ps.take k)++p.l:=by
  unfold cO_
  rw [take1 hp,List.flatMap_append]
  simp
def okP (w:World) (B:Nat) (ps:List Part):Prop:=∀ p ∈ ps,p.ok w∧p.n≤B
theorem okP.nil (w:World) (B:Nat):okP w B []:=fun p hp=>by cases hp
theorem okP.cons {w:World} {B:Nat} {p:Part} {ps:List Part} (h1:p.ok w) (h2:p.n≤B) (h:okP w B ps):okP w B (p::ps):=fun q hq=>by
  rcases List.mem_cons.1 hq with rfl | hq
  · exact ⟨h1,h2⟩
  · exact h q hq
theorem okP.like {w w':World} {B:Nat} {ps:List Part} (h:okP w B ps) (lk:Like w w'):okP w' B ps:=fun p hp=>⟨Rs.like (h p hp).1 lk,(h p hp).2⟩
theorem getP {ps:List Part} {k:Nat} {p:Part} (hp:ps[k]?=some p):(ps.map pv)[k]?=some (.slice p.A p.n p.c):=by rw [List.getElem?_map,hp];rfl
theorem je_ (A:Option Addr) (n c:Nat) (ps:List Part) (w0:World) (hps:Rs w0 1 A n c (ps.map pv)) (hok:okP w0 100000 ps) (hn8:n≤1000) :
    Calls Tryz.prog 60 #[.slice A n c] w0 fun e w'=>∃ u,e=.returned u∧Like w0 w'∧∃ A' c',u=.slice A' (cO_ ps).length c'∧w'.ownsRow w0.heap.size 5 1 (.slice A' (cO_ ps).length c') (cO_ ps).length (bL (cO_ ps)):=by
 refine v_ (env:=[(0,.slice A n c)]) [.slice A n c] Tryz.func60 Z Tryz.ntmps60 Z Z ?_;have hn:=hps.len;rw [List.length_map] at hn;have hcap:=hps.cap;have hmax:=hps.max;have S0:=St.start w0 noM;refine a_ fun K1 hK1=>b_ (Lan Z Z (hK1 _ _ (a_ fun K2 hK2=>b_ (have S1:=S0.nilrow 5 1;Lan Z Z (hK2 _ _ (a_ fun K3 hK3=>a_ fun K4 hK4=>b_ ?_))))));refine Lan Z Z (hK4 _ _ (r_ ?_));refine hE_ [(0,_)] (fun (k:Nat) (m:List UInt8) (A1:Option Addr) (c1:Nat)=>[(4,.int .i64 (k:Int)),(3,.slice A1 m.length c1)]) (fun (k:Nat) (m:List UInt8) (A1:Option Addr) (c1:Nat)=>n - k) (fun (k:Nat) (m:List UInt8) (A1:Option Addr) (c1:Nat) (w:World)=>(k≤n∧m=cO_ (ps.take k)∧m.length≤100000*k)∧St w0 noM [row 5 1 A1 m.length c1 (bL m)] w) 0 [] none 0 (Sc Z (Sc Z (Sub.nil _))) (Sub.cons Z Z (Sub.nil _)) ?_ ?_
 ·
  exact ⟨⟨Nat.zero_le _,rfl,Nat.zero_le _⟩,S1⟩
 ·
  intro k m A1 c1 w2 hrel;obtain ⟨⟨hk,hm,hml⟩,S2⟩:=hrel;refine a_ fun K5 hK5=>a_ fun K6 hK6=>Rm Z Z (Lm Z Z (L_y (I_ Tryz.underlying155 Z) Z (L_y (L_ Z Z) Z (f_ (hK6 _ _ ?_)))));refine o_ Z (fun h8=>?_) (fun h8=>?_)
  ·
   obtain ⟨p,hp⟩:∃ p,ps[k]?=some p:=⟨_,List.getElem?_eq_getElem (by omega)⟩;obtain ⟨hpo,hpb⟩:=hok p (List.mem_of_getElem? hp);have hpn:=hpo.lenb;have hpc:=hpo.cap;have hpm:=hpo.max;refine j_ (hK5 _ _ (a_ fun K7 hK7=>r_ (Rm Z Z (Lm Z Z (Lm Z Z (L_y (T_ Tryz.underlying155 br_ Z Z (S2.rd hps) (Nt.mk (by omega):Nt _ (k)) (by omega)) Z (L_y (cj_ Tryz.underlying22 Z Z (S2.rd hps) (getP hp)) Z (L_o (ay_ ba_ S2 0 Z Z Z (S2.rd hpo) (R_ _) Z (by omega) (by omega) fun A3 c3 w3 S3=>Lan Z Z (hK7 _ _ ?_))))))))));refine Rm Z Z (L_y (w_ Z Z (z_ (by omega))) Z (Lan Z Z ?_));have S91:=S3.rowc 0 Z (n':=(m++p.l).length) (xs':=bL (m++p.l)) (by rw [List.length_append];omega) (iK_ _ _);refine ⟨k+1,m++p.l,_,_,by omega,⟨⟨by omega,by rw [catP_step hp,hm],by rw [List.length_append];omega⟩,S91⟩,?_⟩;exact (Sc Z (Sub.cons Z (by rw [List.length_append];congr 1;omega) (Sub.cons Z Z (Sub.nil _))))
  ·
   refine K_ (hK3 _ _ (a_ fun K8 hK8=>Rm Z Z (Lan Z Z (hK8 _ _ (l_ (ur (F_ Z Z ?_)))))));have hke:k=n:=by omega
   subst hke;rw [List.take_of_length_le (by omega)] at hm;subst hm;exact ⟨_,rfl,S2.like0,_,_,rfl,S2.own 0 Z⟩
end Del
end Go.Proofs.YtgaklngnfecdaaaGreat
