import Derived.Test.YtgaklngnfecdaaaGreatMgPScans8
import Derived.Test.YtgaklngnfecdaaaGreatMgPScans3
import Derived.Test.YtgaklngnfecdaaaGreatMgPScans2
import Derived.Test.YtgaklngnfecdaaaGreatMgPScans7
set_option linter.unusedSimpArgs false
set_option linter.unusedVariables false
set_option maxRecDepth 100000
namespace Go.Proofs.YtgaklngnfecdaaaGreat
namespace Oct
open Go.RowKit Zk Zx
def xr (g:Nat) (A:Option Addr) (n c p q:Nat):Res:=blk g 185 #[.slice A n c,.int .i64 (p:Int),.int .i64 (q:Int)]
theorem xr_lt {w:World} {g n c p q:Nat} {A:Option Addr} (h:(xr g A n c p q).holds w):∀ i,(xr g A n c p q).dom i→i < w.heap.size:=fun i hi=>by
  have hi':i=g:=hi
  subst hi'
  exact Blk.lt h
theorem St.rdM {w0 w:World} {M:Nat→Prop} {rs:List Res} (S:St w0 M rs w) {size n c:Nat} {A:Option Addr} {xs:List Value} (h:Rs w0 size A n c xs) (hM:∀ ad,0 < n→A=some ad→¬ M ad.block):Rs w size A n c xs :=
  (fixed size A n c xs).stable w0 w (fun i ⟨ad,hn,hA,hi⟩=>by
    subst hi
    obtain ⟨ad',hA',hb,_⟩:=h.rd.2 hn
    rw [hA] at hA'
    cases hA'
    exact S.old _ hb (hM ad hn hA)) h
theorem im_ {w w':World} {g n c p' q':Nat} {A:Option Addr} {r:Res} {X:Array Value} (h:Turned w w' r (blk g 185 X)) (hX:X = #[.slice A n c,.int .i64 (p':Int),.int .i64 (q':Int)]):Turned w w' r (xr g A n c p' q'):=by
  subst hX
  exact h
theorem mul7 (x k:Nat) (h:x % 128*128 ^ k≤18446744073709551615):IntKind.u64.wrap (((x:Int) % 128)*((128 ^ k:Nat):Int))=((x % 128*128 ^ k:Nat):Int):=by
  rw [show ((x:Int) % 128)*((128 ^ k:Nat):Int)=((x % 128*128 ^ k:Nat):Int) by push_cast;rfl,IntKind.wrap_u64]
  omega
theorem pow7s (k:Nat) (h:k≤8):IntKind.u64.wrap (((128 ^ k:Nat):Int)*128)=((128 ^ (k+1):Nat):Int):=by
  have:=kn_ h
  rw [IntKind.wrap_u64,Nat.pow_succ]
  omega
def nuN (l:List UInt8) (p:Nat):Nat × Nat × Nat:=if (aG_ (l.drop p) 0 0).2.2=0 then aG_ (l.drop p) 0 0 else (0,0,(aG_ (l.drop p) 0 0).2.2)
theorem at_one {l:List UInt8} {p:Nat} (h:p < l.length):∃ x,l[p]?=some x∧l.drop p=x::l.drop (p+1) :=
  ⟨l[p],List.getElem?_eq_getElem h,List.drop_eq_getElem_cons h⟩
theorem xnumber (g:Nat) (A:Option Addr) (n c:Nat) (l:List UInt8) (p q:Nat) (w0:World) (hw:(xr g A n c p q).holds w0) (hb:Rs w0 1 A n c (bL l)) (hp:p≤l.length) (hn62:n≤70368744177664) :
    Calls Tryz.prog 135 #[.pointer (some ⟨g,0,none⟩)] w0 fun e w'=>∃ u,e=.returned u∧Like w0 w'∧u=.tuple #[.int .u64 ((nuN l p).1:Int),.int .i64 ((nuN l p).2.1:Int),.int .i64 ((nuN l p).2.2:Int)]:=by
 refine w_ (env:=[(0,.pointer (some ⟨g,0,none⟩))]) [.pointer (some ⟨g,0,none⟩)] Tryz.func135 Z Tryz.ntmps135 Z Z ?_;have hnl:=hb.lenb;have hcap:=hb.cap;have hmx:=hb.max;have S0:=St.start w0 noM;refine a_ fun K1 hK1=>b_ (La Z Z (La Z Z (Lan Z Z (hK1 _ _ (a_ fun K2 hK2=>b_ (La Z Z (Lan Z Z (hK2 _ _ (a_ fun K3 hK3=>?_)))))))));refine a_ fun K4 hK4=>b_ (Lan Z Z (hK4 _ _ (u_ ?_)));refine bN_ [(0,_)] (fun (k:Nat) (a:Nat)=>[(5,.int .u64 (a:Int)),(6,.int .u64 ((128 ^ k:Nat):Int)),(7,.int .i64 (k:Int))]) (fun (k:Nat) (a:Nat)=>10 - k) (fun (k:Nat) (a:Nat) (w:World)=>((k≤9∧p+k≤l.length∧a < 128 ^ k)∧aG_ (l.drop (p+k)) k a=aG_ (l.drop p) 0 0)∧St w0 noM [] w) 0 0 (Sub.cons Z (by first | rfl | exact congrArg (Value.int _) (by first | omega | decide)) (Sub.cons Z (by first | rfl | exact congrArg (Value.int _) (by first | omega | decide)) (Sub.cons Z (by first | rfl | exact congrArg (Value.int _) (by first | omega | decide)) (Sub.nil _)))) (Sub.cons Z Z (Sub.nil _)) ?_ ?_
 ·
  exact ⟨⟨⟨by omega,by omega,by decide⟩,rfl⟩,S0⟩
 ·
  intro k a w1 hrel;obtain ⟨⟨⟨hk9,hpk,ha⟩,hN⟩,S1⟩:=hrel;refine a_ fun K5 hK5=>a_ fun K6 hK6=>Rm Z Z (L_y (H_ Z Z) Z (f_ (hK6 _ _ ?_)));refine m_ Z (fun h10=>?_) (fun h10=>?_)
  ·
   refine j_ (hK5 _ _ (a_ fun K7 hK7=>u_ (a_ fun K8 hK8=>a_ fun K9 hK9=>ad_ [(0,true),(1,true),(2,true),(3,true),(4,true),(5,true),(6,true),(7,true),(8,true),(9,true),(10,true),(11,true)] aJ_ (by kernel_rfl) fun w2 l2=>have S2:=S1.like l2;t_ Z (r_ Z) Z (t_ Z (x_ Z) Z (t_ Z (d_ 1 Tryz.underlying185 Z sz3 Z Z Z) Z (t_ Z (p_ Tryz.underlying3 Z Z (((S2.rdB hw).cell _).trans (show (#[.slice A n c,.int .i64 (p:Int),.int .i64 (q:Int)]:Array Value)[1]?=some (Value.int .i64 (p:Int)) from Z))) Z (t_ Z (r_ Z) Z (t_ Z (v_ Z Z (z_ (by omega))) Z ?_))))))));refine t_ Z (r_ Z) Z (t_ Z (x_ Z) Z (t_ Z (d_ 0 Tryz.underlying185 Z bi_ Z Z Z) Z (t_ Z (p_ Tryz.underlying22 Z Z (((S2.rdB hw).cell _).trans (show (#[.slice A n c,.int .i64 (p:Int),.int .i64 (q:Int)]:Array Value)[0]?=some (Value.slice A n c) from Z))) Z (t_ Z (J_ Tryz.underlying22 Z) Z (t_ Z (cF_ Z Z) Z (av_ (hK9 _ _ ?_)))))));refine m_ Z (fun h24=>?_) (fun h24=>?_)
   ·
    have hN2:aG_ (l.drop p) 0 0=(0,k,10):=by rw [← hN,List.drop_eq_nil_of_le (by omega)];rfl
    refine a_ fun K10 hK10=>b_ (La Z Z (La Z Z (Lan Z Z (hK10 _ _ (l_ (ur (cn_ Z Z Z Z ?_)))))));first | exact ⟨_,rfl,S2.like0,by rw [nuN,hN2,if_neg (by simp)];rfl⟩ | exact ⟨_,rfl,S2.like0,by rw [nuN,hN2,if_pos (by simp)];rfl⟩
   ·
    obtain ⟨x,hx,hdr⟩:=at_one (show p+k < l.length by omega);have hxl:=x.toNat_lt;refine j_ (hK8 _ _ (a_ fun K11 hK11=>ad_ [(0,true),(1,true),(2,true),(3,true),(4,true),(5,true),(6,true),(7,true),(8,true),(9,true),(10,true),(11,true),(12,true),(13,true)] aJ_ (by kernel_rfl) fun w3 l3=>have S3:=S2.like l3;t_ Z (r_ Z) Z (t_ Z (x_ Z) Z (t_ Z (d_ 0 Tryz.underlying185 Z bi_ Z Z Z) Z (t_ Z (p_ Tryz.underlying22 Z Z (((S3.rdB hw).cell _).trans (show (#[.slice A n c,.int .i64 (p:Int),.int .i64 (q:Int)]:Array Value)[0]?=some (Value.slice A n c) from Z))) Z (t_ Z (r_ Z) Z (t_ Z (x_ Z) Z (t_ Z (d_ 1 Tryz.underlying185 Z sz3 Z Z Z) Z (t_ Z (p_ Tryz.underlying3 Z Z (((S3.rdB hw).cell _).trans (show (#[.slice A n c,.int .i64 (p:Int),.int .i64 (q:Int)]:Array Value)[1]?=some (Value.int .i64 (p:Int)) from Z))) Z (t_ Z (r_ Z) Z ?_))))))))));refine t_ Z (v_ Z Z (z_ (by omega))) Z (t_ Z (ab_ Tryz.underlying22 sz5 Z Z (S3.rd hb) inferInstance (by omega)) Z (t_ Z (ck_ Tryz.underlying5 Z Z (S3.rd hb) (ly_ hx)) Z (t_ Z (O_ is5 Tryz.underlying102 Z (dD_ (by omega))) Z (t_ Z (I_ Z) Z (av_ (hK11 _ _ (a_ fun K12 hK12=>a_ fun K13 hK13=>Rm Z Z (L_y (ah_ Z Z) Z (Lm Z Z ?_)))))))));refine A_ 40 Z (fun h40=>?_) (fun h40=>?_)
    ·
     refine g_ Z Z (Lm Z Z (g_ Z Z (L_y (aa_ Z Z) Z (Lp Z Z Z (Lm Z Z ?_)))));refine A_ 44 Z (fun h44=>?_) (fun h44=>?_)
     ·
      refine h_ Z Z Z (h_ Z Z Z (h_ Z Z Z (aD_ Z Z Z (aD_ Z Z Z (h_ Z Z Z (Lp Z Z Z (f_ (hK13 _ _ (U_ Z (a_ fun K14 hK14=>?_))))))))));have hF:((k=9∧1 < x.toNat)∨(0 < k∧x.toNat=0)):=by omega
      have hN2:aG_ (l.drop p) 0 0=(0,k+1,12):=by rw [← hN,hdr,aG_,if_pos hF]
      refine b_ (La Z Z (La Z Z (Lan Z Z (hK14 _ _ (l_ (ur (cn_ Z Z Z Z ?_)))))));first | exact ⟨_,rfl,S3.like0,by rw [nuN,hN2,if_neg (by simp)];rfl⟩ | exact ⟨_,rfl,S3.like0,by rw [nuN,hN2,if_pos (by simp)];rfl⟩
     ·
      refine g_ Z Z (Lm Z Z (g_ Z Z (L_y (aa_ Z Z) Z (g_ Z Z (Lm Z Z ?_)))));refine A_ 47 Z (fun h47=>?_) (fun h47=>?_)
      ·
       refine g_ Z Z (Lm Z Z (g_ Z Z (L_y (ah_ Z Z) Z (g_ Z Z (Lp Z Z Z (Lp Z Z Z (f_ (hK13 _ _ ?_))))))));refine m_ Z (fun h51=>?_) (fun h51=>?_)
       ·
        refine a_ fun K15 hK15=>?_;have hF:((k=9∧1 < x.toNat)∨(0 < k∧x.toNat=0)):=by omega
        have hN2:aG_ (l.drop p) 0 0=(0,k+1,12):=by rw [← hN,hdr,aG_,if_pos hF]
        refine b_ (La Z Z (La Z Z (Lan Z Z (hK15 _ _ (l_ (ur (cn_ Z Z Z Z ?_)))))));first | exact ⟨_,rfl,S3.like0,by rw [nuN,hN2,if_neg (by simp)];rfl⟩ | exact ⟨_,rfl,S3.like0,by rw [nuN,hN2,if_pos (by simp)];rfl⟩
       ·
        refine j_ (hK12 _ _ (a_ fun K16 hK16=>?_));have hF:¬ ((k=9∧1 < x.toNat)∨(0 < k∧x.toNat=0)):=by omega
        have hnm:=dd_ hk9 ha (x:=x.toNat) (by omega) (fun h=>by omega);refine Rm Z Z (Lm Z Z (L_y (dy_ Z Z (by omega) (gv_ (by omega))) Z (Lm Z Z (L_y (bo_ Z Z (mul7 _ k hnm.1)) Z (L_y (v_ Z Z (show _=((a+x.toNat % 128*128 ^ k:Nat):Int) by rw [IntKind.wrap_u64];omega)) Z ?_)))));refine Lan Z Z (hK16 _ _ (a_ fun K17 hK17=>a_ fun K18 hK18=>Rm Z Z (L_y (H_ Z Z) Z (f_ (hK18 _ _ ?_)))));refine m_ Z (fun h59=>?_) (fun h59=>?_)
        ·
         have hN2:aG_ (l.drop p) 0 0=(a+x.toNat % 128*128 ^ k,k+1,0):=by rw [← hN,hdr,aG_,if_neg hF,if_pos (by omega)]
         refine a_ fun K19 hK19=>Rm Z Z (Lm Z Z (L_y (v_ Z Z (z_ (by omega))) Z (La Z Z (La Z Z (Lan Z Z (hK19 _ _ (l_ (ur (cn_ Z Z Z Z ?_)))))))));first | exact ⟨_,rfl,S3.like0,by rw [nuN,hN2,if_neg (by simp)];rfl⟩ | exact ⟨_,rfl,S3.like0,by rw [nuN,hN2,if_pos (by simp)];rfl⟩
        ·
         refine j_ (hK17 _ _ ?_);have hk8:k≤8:=by omega
         refine Rm Z Z (L_y (bo_ Z Z (pow7s k hk8)) Z (Lan Z Z (hK7 _ _ (Rm Z Z (L_y (v_ Z Z (z_ (by omega))) Z (Lan Z Z (⟨k+1,a+x.toNat % 128*128 ^ k,by omega,⟨⟨⟨by omega,by omega,dc_ ha⟩,by rw [← hN,hdr,aG_,if_neg hF,if_neg (by omega)];rfl⟩,S3⟩,?_⟩)))))));exact (Sc Z (Sc Z (Sc Z (Sub.cons Z Z (Sub.nil _)))))
      ·
       refine h_ Z Z Z (h_ Z Z Z (g_ Z Z (Lp Z Z Z (Lp Z Z Z (f_ (hK13 _ _ (aI_ Z (j_ (hK12 _ _ (a_ fun K20 hK20=>?_))))))))));have hF:¬ ((k=9∧1 < x.toNat)∨(0 < k∧x.toNat=0)):=by omega
       have hnm:=dd_ hk9 ha (x:=x.toNat) (by omega) (fun h=>by omega);refine Rm Z Z (Lm Z Z (L_y (dy_ Z Z (by omega) (gv_ (by omega))) Z (Lm Z Z (L_y (bo_ Z Z (mul7 _ k hnm.1)) Z (L_y (v_ Z Z (show _=((a+x.toNat % 128*128 ^ k:Nat):Int) by rw [IntKind.wrap_u64];omega)) Z ?_)))));refine Lan Z Z (hK20 _ _ (a_ fun K21 hK21=>a_ fun K22 hK22=>Rm Z Z (L_y (H_ Z Z) Z (f_ (hK22 _ _ ?_)))));refine m_ Z (fun h59=>?_) (fun h59=>?_)
       ·
        have hN2:aG_ (l.drop p) 0 0=(a+x.toNat % 128*128 ^ k,k+1,0):=by rw [← hN,hdr,aG_,if_neg hF,if_pos (by omega)]
        refine a_ fun K23 hK23=>Rm Z Z (Lm Z Z (L_y (v_ Z Z (z_ (by omega))) Z (La Z Z (La Z Z (Lan Z Z (hK23 _ _ (l_ (ur (cn_ Z Z Z Z ?_)))))))));first | exact ⟨_,rfl,S3.like0,by rw [nuN,hN2,if_neg (by simp)];rfl⟩ | exact ⟨_,rfl,S3.like0,by rw [nuN,hN2,if_pos (by simp)];rfl⟩
       ·
        refine j_ (hK21 _ _ ?_);have hk8:k≤8:=by omega
        refine Rm Z Z (L_y (bo_ Z Z (pow7s k hk8)) Z (Lan Z Z (hK7 _ _ (Rm Z Z (L_y (v_ Z Z (z_ (by omega))) Z (Lan Z Z (⟨k+1,a+x.toNat % 128*128 ^ k,by omega,⟨⟨⟨by omega,by omega,dc_ ha⟩,by rw [← hN,hdr,aG_,if_neg hF,if_neg (by omega)];rfl⟩,S3⟩,?_⟩)))))));exact (Sc Z (Sc Z (Sc Z (Sub.cons Z Z (Sub.nil _)))))
    ·
     refine h_ Z Z Z (h_ Z Z Z (Lp Z Z Z (Lm Z Z (g_ Z Z (Lm Z Z (g_ Z Z (L_y (aa_ Z Z) Z (g_ Z Z (Lm Z Z ?_)))))))));refine A_ 47 Z (fun h47=>?_) (fun h47=>?_)
     ·
      refine g_ Z Z (Lm Z Z (g_ Z Z (L_y (ah_ Z Z) Z (g_ Z Z (Lp Z Z Z (Lp Z Z Z (f_ (hK13 _ _ ?_))))))));refine m_ Z (fun h51=>?_) (fun h51=>?_)
      ·
       refine a_ fun K24 hK24=>?_;have hF:((k=9∧1 < x.toNat)∨(0 < k∧x.toNat=0)):=by omega
       have hN2:aG_ (l.drop p) 0 0=(0,k+1,12):=by rw [← hN,hdr,aG_,if_pos hF]
       refine b_ (La Z Z (La Z Z (Lan Z Z (hK24 _ _ (l_ (ur (cn_ Z Z Z Z ?_)))))));first | exact ⟨_,rfl,S3.like0,by rw [nuN,hN2,if_neg (by simp)];rfl⟩ | exact ⟨_,rfl,S3.like0,by rw [nuN,hN2,if_pos (by simp)];rfl⟩
      ·
       refine j_ (hK12 _ _ (a_ fun K25 hK25=>?_));have hF:¬ ((k=9∧1 < x.toNat)∨(0 < k∧x.toNat=0)):=by omega
       have hnm:=dd_ hk9 ha (x:=x.toNat) (by omega) (fun h=>by omega);refine Rm Z Z (Lm Z Z (L_y (dy_ Z Z (by omega) (gv_ (by omega))) Z (Lm Z Z (L_y (bo_ Z Z (mul7 _ k hnm.1)) Z (L_y (v_ Z Z (show _=((a+x.toNat % 128*128 ^ k:Nat):Int) by rw [IntKind.wrap_u64];omega)) Z ?_)))));refine Lan Z Z (hK25 _ _ (a_ fun K26 hK26=>a_ fun K27 hK27=>Rm Z Z (L_y (H_ Z Z) Z (f_ (hK27 _ _ ?_)))));refine m_ Z (fun h59=>?_) (fun h59=>?_)
       ·
        have hN2:aG_ (l.drop p) 0 0=(a+x.toNat % 128*128 ^ k,k+1,0):=by rw [← hN,hdr,aG_,if_neg hF,if_pos (by omega)]
        refine a_ fun K28 hK28=>Rm Z Z (Lm Z Z (L_y (v_ Z Z (z_ (by omega))) Z (La Z Z (La Z Z (Lan Z Z (hK28 _ _ (l_ (ur (cn_ Z Z Z Z ?_)))))))));first | exact ⟨_,rfl,S3.like0,by rw [nuN,hN2,if_neg (by simp)];rfl⟩ | exact ⟨_,rfl,S3.like0,by rw [nuN,hN2,if_pos (by simp)];rfl⟩
       ·
        refine j_ (hK26 _ _ ?_);have hk8:k≤8:=by omega
        refine Rm Z Z (L_y (bo_ Z Z (pow7s k hk8)) Z (Lan Z Z (hK7 _ _ (Rm Z Z (L_y (v_ Z Z (z_ (by omega))) Z (Lan Z Z (⟨k+1,a+x.toNat % 128*128 ^ k,by omega,⟨⟨⟨by omega,by omega,dc_ ha⟩,by rw [← hN,hdr,aG_,if_neg hF,if_neg (by omega)];rfl⟩,S3⟩,?_⟩)))))));exact (Sc Z (Sc Z (Sc Z (Sub.cons Z Z (Sub.nil _)))))
     ·
      refine h_ Z Z Z (h_ Z Z Z (g_ Z Z (Lp Z Z Z (Lp Z Z Z (f_ (hK13 _ _ (aI_ Z (j_ (hK12 _ _ (a_ fun K29 hK29=>?_))))))))));have hF:¬ ((k=9∧1 < x.toNat)∨(0 < k∧x.toNat=0)):=by omega
      have hnm:=dd_ hk9 ha (x:=x.toNat) (by omega) (fun h=>by omega);refine Rm Z Z (Lm Z Z (L_y (dy_ Z Z (by omega) (gv_ (by omega))) Z (Lm Z Z (L_y (bo_ Z Z (mul7 _ k hnm.1)) Z (L_y (v_ Z Z (show _=((a+x.toNat % 128*128 ^ k:Nat):Int) by rw [IntKind.wrap_u64];omega)) Z ?_)))));refine Lan Z Z (hK29 _ _ (a_ fun K30 hK30=>a_ fun K31 hK31=>Rm Z Z (L_y (H_ Z Z) Z (f_ (hK31 _ _ ?_)))));refine m_ Z (fun h59=>?_) (fun h59=>?_)
      ·
       have hN2:aG_ (l.drop p) 0 0=(a+x.toNat % 128*128 ^ k,k+1,0):=by rw [← hN,hdr,aG_,if_neg hF,if_pos (by omega)]
       refine a_ fun K32 hK32=>Rm Z Z (Lm Z Z (L_y (v_ Z Z (z_ (by omega))) Z (La Z Z (La Z Z (Lan Z Z (hK32 _ _ (l_ (ur (cn_ Z Z Z Z ?_)))))))));first | exact ⟨_,rfl,S3.like0,by rw [nuN,hN2,if_neg (by simp)];rfl⟩ | exact ⟨_,rfl,S3.like0,by rw [nuN,hN2,if_pos (by simp)];rfl⟩
      ·
       refine j_ (hK30 _ _ ?_);have hk8:k≤8:=by omega
       refine Rm Z Z (L_y (bo_ Z Z (pow7s k hk8)) Z (Lan Z Z (hK7 _ _ (Rm Z Z (L_y (v_ Z Z (z_ (by omega))) Z (Lan Z Z (⟨k+1,a+x.toNat % 128*128 ^ k,by omega,⟨⟨⟨by omega,by omega,dc_ ha⟩,by rw [← hN,hdr,aG_,if_neg hF,if_neg (by omega)];rfl⟩,S3⟩,?_⟩)))))));exact (Sc Z (Sc Z (Sc Z (Sub.cons Z Z (Sub.nil _)))))
  ·
   exfalso;omega
theorem new_of {w0 w:World} {M:Nat→Prop} {rs:List Res} (S:St w0 M rs w) (k:Nat) {s:Res} (hk:rs[k]?=some s) (hM:∀ i,M i→¬ s.dom i):∀ i,s.dom i→w0.heap.size≤i:=fun i hi=>by
  have h:=((S.res _ (List.mem_of_getElem? hk)).2 i hi).2
  rcases h with h | h
  · exact h
  · exact absurd hi (hM i h)
theorem nu_e (l:List UInt8) (p:Nat):(nuN l p).2.2=(aG_ (l.drop p) 0 0).2.2:=by
  unfold nuN
  split
  · rfl
  · rfl
theorem nu_ok {l:List UInt8} {p:Nat} (h:(aG_ (l.drop p) 0 0).2.2=0):nuN l p=aG_ (l.drop p) 0 0:=by rw [nuN,if_pos h]
theorem nu_at (l:List UInt8) (p:Nat) (h:p≤l.length):p+(nuN l p).2.1≤l.length:=by
  have:=numF_at l p h
  unfold nuN
  split
  · exact this
  · exact h
theorem nu_max (l:List UInt8) (p:Nat):(nuN l p).1≤18446744073709551615:=by
  have:=numF_max (l.drop p) 0 0 (by omega) (by decide)
  unfold nuN
  split
  · exact this
  · simp
theorem rn_nat (l:List UInt8) (p q k:Nat):rnL l p q (k:Int)=rwL l p q k∧rnP l p q (k:Int)=rwP l p q k∧rnE l p q (k:Int)=rwE l p q k :=
  ⟨by rw [rnL,if_neg (by omega),Int.toNat_natCast],by rw [rnP,if_neg (by omega),Int.toNat_natCast],by rw [rnE,if_neg (by omega),Int.toNat_natCast]⟩
theorem rw_dead {l:List UInt8} {p q k:Nat} (h:q≠0):rwL l p q k=[]∧rwP l p q k=p∧rwE l p q k=q:=⟨by rw [rwL,if_neg h],by rw [rwP,if_neg h],by rw [rwE,if_neg h]⟩
theorem rn_dead {l:List UInt8} {p q:Nat} {m:Int} (h:q≠0):rnL l p q m=[]∧rnP l p q m=p∧rnE l p q m=q:=by
  obtain ⟨h1,h2,h3⟩:=rw_dead (l:=l) (p:=p) (k:=m.toNat) h
  refine ⟨?_,?_,?_⟩
  · rw [rnL];split;rfl;exact h1
  · rw [rnP];split;rfl;exact h2
  · by_cases hm:m < 0;rw [rnE,if_pos hm,if_pos h];rw [rnE,if_neg hm];exact h3
theorem rn_neg {l:List UInt8} {p:Nat} {m:Int} (h:m < 0):rnL l p 0 m=[]∧rnP l p 0 m=p∧rnE l p 0 m=3:=⟨by rw [rnL,if_pos h],by rw [rnP,if_pos h],by rw [rnE,if_pos h];rfl⟩
theorem rn_no {l:List UInt8} {p k:Nat} (h:¬ k≤l.length - p):rnL l p 0 (k:Int)=[]∧rnP l p 0 (k:Int)=p∧rnE l p 0 (k:Int)=10:=by
  obtain ⟨e1,e2,e3⟩:=rn_nat l p 0 k
  exact ⟨by rw [e1,rwL,if_pos Z,tkL_no h],by rw [e2,rwP,if_pos Z,tkP,if_neg h],by rw [e3,rwE,if_pos Z,ew_ h]⟩
theorem rn_ok {l:List UInt8} {p k:Nat} (h:k≤l.length - p):rnL l p 0 (k:Int)=(l.drop p).take k∧rnP l p 0 (k:Int)=p+k∧rnE l p 0 (k:Int)=0:=by
  obtain ⟨e1,e2,e3⟩:=rn_nat l p 0 k
  exact ⟨by rw [e1,rwL,if_pos Z,tkL,if_pos h],by rw [e2,rwP,if_pos Z,tkP,if_pos h],by rw [e3,rwE,if_pos Z,fM_ h]⟩
theorem xraw (g:Nat) (A:Option Addr) (n c:Nat) (l:List UInt8) (p q:Nat) (m:Int) (w0:World) (hw:(xr g A n c p q).holds w0) (hb:Rs w0 1 A n c (bL l)) (hp:p≤l.length) (hn62:n≤70368744177664) (hbg:∀ ad,0 < n→A=some ad→ad.block≠g) (hm:m≤9223372036854775807) :
    Calls Tryz.prog 102 #[.pointer (some ⟨g,0,none⟩),.int .i64 m] w0 fun e w'=>∃ u,e=.returned u∧Turned w0 w' (xr g A n c p q) (xr g A n c (rnP l p q m) (rnE l p q m))∧∃ B c2,u=.slice B (rnL l p q m).length c2∧(row 5 1 B (rnL l p q m).length c2 (bL (rnL l p q m))).holds w'∧∀ i,(row 5 1 B (rnL l p q m).length c2 (bL (rnL l p q m))).dom i→w0.heap.size≤i:=by
 refine w_ (env:=[(0,.pointer (some ⟨g,0,none⟩)),(1,.int .i64 m)]) [.pointer (some ⟨g,0,none⟩),.int .i64 m] Tryz.func102 Z Tryz.ntmps102 Z Z ?_;have hnl:=hb.lenb;have hcap:=hb.cap;have hmx:=hb.max;have S0:=St.borrow1 (blk g 185 #[.slice A n c,.int .i64 (p:Int),.int .i64 (q:Int)]) hw (xr_lt hw);refine a_ fun K1 hK1=>b_ (Lan Z Z (hK1 _ _ (a_ fun K2 hK2=>a_ fun K3 hK3=>Rm Z Z (L_y (x_ Z) Z (L_y (d_ 2 Tryz.underlying185 Z sz3 Z Z Z) Z (L_y (p_ Tryz.underlying3 Z Z (((S0.blk 0 Z).cell _).trans (by rfl))) Z ?_))))));refine L_y (V_ Z Z) Z (f_ (hK3 _ _ ?_));refine m_ Z (fun h10=>?_) (fun h10=>?_)
 ·
  refine a_ fun K4 hK4=>b_ (Lan Z Z (hK4 _ _ (l_ (ur (G_ Z Z ?_)))));obtain ⟨e1,e2,e3⟩:=rn_dead (l:=l) (p:=p) (m:=m) (show q≠0 by omega);exact ⟨_,rfl,by rw [e2,e3];exact im_ (S0.turned1 0 Z) Z,none,0,by rw [e1];rfl,by rw [e1];exact ⟨by simp [bL],.inl ⟨rfl,rfl⟩⟩,fun i hi=>by rw [e1] at hi;simp [row,Value.ownBlock] at hi⟩
 ·
  have hq:q=0:=by omega
  subst hq;refine j_ (hK2 _ _ (a_ fun K5 hK5=>a_ fun K6 hK6=>Rm Z Z (L_y (H_ Z Z) Z (f_ (hK6 _ _ ?_)))));refine m_ Z (fun h12=>?_) (fun h12=>?_)
  ·
   refine a_ fun K7 hK7=>Rm Z Z (L_y (x_ Z) Z (L_y (d_ 2 Tryz.underlying185 Z sz3 Z Z Z) Z (L_o (Y_ S0 0 Z Z Z Z sz3 (by simp;done) fun w1 S1=>?_))));refine f_ (hK7 _ _ (a_ fun K8 hK8=>b_ (Lan Z Z (hK8 _ _ (l_ (ur (G_ Z Z ?_)))))));obtain ⟨e1,e2,e3⟩:=rn_neg (l:=l) (p:=p) (m:=m) (by omega);exact ⟨_,rfl,by rw [e2,e3];exact im_ (S1.turned1 0 Z) Z,none,0,by rw [e1];rfl,by rw [e1];exact ⟨by simp [bL],.inl ⟨rfl,rfl⟩⟩,fun i hi=>by rw [e1] at hi;simp [row,Value.ownBlock] at hi⟩
  ·
   obtain ⟨k,rfl⟩:∃ k:Nat,m=(k:Int):=⟨m.toNat,by omega⟩;refine j_ (hK5 _ _ (a_ fun K9 hK9=>a_ fun K10 hK10=>ad_ [(0,true),(1,true),(2,true),(3,true),(4,true),(5,true),(6,true),(7,true),(8,true),(9,true),(10,true),(11,true)] aJ_ (by kernel_rfl) fun w2 l2=>have S2:=S0.like l2;t_ Z (r_ Z) Z (t_ Z (r_ Z) Z (t_ Z (x_ Z) Z (t_ Z (d_ 0 Tryz.underlying185 Z bi_ Z Z Z) Z (t_ Z (p_ Tryz.underlying22 Z Z (((S2.blk 0 Z).cell _).trans (by rfl))) Z ?_))))));refine t_ Z (J_ Tryz.underlying22 Z) Z (t_ Z (r_ Z) Z (t_ Z (x_ Z) Z (t_ Z (d_ 1 Tryz.underlying185 Z sz3 Z Z Z) Z (t_ Z (p_ Tryz.underlying3 Z Z (((S2.blk 0 Z).cell _).trans (by rfl))) Z ?_))));refine t_ Z (am_ Z Z (z_ (by omega))) Z (t_ Z (aa_ Z Z) Z (av_ (hK10 _ _ ?_)));refine m_ Z (fun h27=>?_) (fun h27=>?_)
   ·
    refine a_ fun K11 hK11=>Rm Z Z (L_y (x_ Z) Z (L_y (d_ 2 Tryz.underlying185 Z sz3 Z Z Z) Z (L_o (Y_ S2 0 Z Z Z Z sz3 (by simp;done) fun w3 S3=>?_))));refine f_ (hK11 _ _ (a_ fun K12 hK12=>b_ (Lan Z Z (hK12 _ _ (l_ (ur (G_ Z Z ?_)))))));obtain ⟨e1,e2,e3⟩:=rn_no (l:=l) (p:=p) (k:=k) (by omega);exact ⟨_,rfl,by rw [e2,e3];exact im_ (S3.turned1 0 Z) Z,none,0,by rw [e1];rfl,by rw [e1];exact ⟨by simp [bL],.inl ⟨rfl,rfl⟩⟩,fun i hi=>by rw [e1] at hi;simp [row,Value.ownBlock] at hi⟩
   ·
    refine j_ (hK9 _ _ (a_ fun K13 hK13=>b_ (have S4:=S2.nilrow 5 1;Lan Z Z (hK13 _ _ (a_ fun K14 hK14=>fv_ 16 aJ_ (by kernel_rfl) fun w5 l5 K15 hK15=>have S5:=S4.like l5;ae_ (r_ Z) Z (ae_ (r_ Z) Z (ae_ (x_ Z) Z ?_)))))));refine ae_ (d_ 0 Tryz.underlying185 Z bi_ Z Z Z) Z (ae_ (p_ Tryz.underlying22 Z Z (((S5.blk 0 Z).cell _).trans (by rfl))) Z ?_);refine ae_ (r_ Z) Z (ae_ (x_ Z) Z (ae_ (d_ 1 Tryz.underlying185 Z sz3 Z Z Z) Z (ae_ (p_ Tryz.underlying3 Z Z (((S5.blk 0 Z).cell _).trans (by rfl))) Z ?_)));refine ae_ (r_ Z) Z (ae_ (x_ Z) Z (ae_ (d_ 1 Tryz.underlying185 Z sz3 Z Z Z) Z (ae_ (p_ Tryz.underlying3 Z Z (((S5.blk 0 Z).cell _).trans (by rfl))) Z ?_)));refine ae_ (r_ Z) Z (ae_ (v_ Z Z (z_ (by omega))) Z (ae_ (cY_ Tryz.underlying22 sz5 Z Z Z inferInstance inferInstance (by omega) (by omega)) Z (fC_ (hK15 _ (L_o (aL_ bA_ S5 1 Z Z Z (((S5.rdM hb hbg).cutb (l:=p) (u:=p+k) (by omega) (by omega))) (T_ _) Z (by omega) (by omega) fun A6 c6 w6 S6=>Lan Z Z (hK14 _ _ (a_ fun K16 hK16=>Rm Z Z (Lm Z Z (L_y (x_ Z) Z ?_))))))))));refine L_y (d_ 1 Tryz.underlying185 Z sz3 Z Z Z) Z (L_y (p_ Tryz.underlying3 Z Z (((S6.blk 0 Z).cell _).trans (by rfl))) Z ?_);refine Lm Z Z (L_y (v_ Z Z (z_ (by omega))) Z (L_y (x_ Z) Z (L_y (d_ 1 Tryz.underlying185 Z sz3 Z Z Z) Z (L_o (Y_ S6 0 Z Z Z Z sz3 (by simp;done) fun w7 S7=>?_)))));refine f_ (hK16 _ _ (a_ fun K17 hK17=>Rm Z Z (Lan Z Z (hK17 _ _ (l_ (ur (G_ Z Z ?_)))))));obtain ⟨e1,e2,e3⟩:=rn_ok (l:=l) (p:=p) (k:=k) (by omega);have e4:p+k - p=k:=by omega
    have e5:(rnL l p 0 (k:Int)).length=0+(p+k - p):=by rw [e1,List.length_take,List.length_drop];omega
    have S99:=S7.rowc 1 Z (n':=(rnL l p 0 (k:Int)).length) (xs':=bL (rnL l p 0 (k:Int))) e5.symm (by rw [e1,e4];rfl);refine ⟨_,rfl,by rw [e2,e3];exact im_ (S99.turned1 0 Z) Z,_,_,by rw [e5],S99.get 1 Z,new_of S99 1 Z (fun i hi=>St.apart_ S99 0 1 Z Z Z i hi)⟩
theorem rw_le (l:List UInt8) (p q k:Nat):(rwL l p q k).length≤k:=by
  unfold rwL
  split
  · exact tk_le l p k
  · simp
theorem xbig (g:Nat) (A:Option Addr) (n c:Nat) (l:List UInt8) (p q:Nat) (j:Nat) (w0:World) (hw:(xr g A n c p q).holds w0) (hb:Rs w0 1 A n c (bL l)) (hp:p≤l.length) (hn62:n≤70368744177664) (hbg:∀ ad,0 < n→A=some ad→ad.block≠g) (hj:j≤8) :
    Calls Tryz.prog 100 #[.pointer (some ⟨g,0,none⟩),.int .i64 (j:Int)] w0 fun e w'=>∃ u,e=.returned u∧u=.int .u64 (be (rwL l p q j):Int)∧Turned w0 w' (xr g A n c p q) (xr g A n c (rwP l p q j) (rwE l p q j)):=by
 refine w_ (env:=[(0,.pointer (some ⟨g,0,none⟩)),(1,.int .i64 (j:Int))]) [.pointer (some ⟨g,0,none⟩),.int .i64 (j:Int)] Tryz.func100 Z Tryz.ntmps100 Z Z ?_;have hnl:=hb.lenb;have hcap:=hb.cap;have hmx:=hb.max;have S0:=St.borrow1 (blk g 185 #[.slice A n c,.int .i64 (p:Int),.int .i64 (q:Int)]) hw (xr_lt hw);refine a_ fun K1 hK1=>b_ (Lan Z Z (hK1 _ _ (a_ fun K2 hK2=>Rm Z Z (Lm Z Z (L_o (o_ Tryz.func102 Z Z (xraw g A n c l p q (j:Int) w0 (S0.get 0 Z) hb hp hn62 hbg (by omega)) Z Z ?_))))));rintro e1 w1 ⟨v1,rfl,T1,B9,d9,rfl,hr1,hd1⟩;refine ⟨_,rfl,?_⟩;have S1:=S0.turn 0 Z T1;obtain ⟨e1,e2,e3⟩:=rn_nat l p q j;have HR:=bF_ hr1;rw [show (rnL l p q (j:Int)).length=(rwL l p q j).length from congrArg _ e1,show bL (rnL l p q (j:Int))=bL (rwL l p q j) from congrArg _ e1] at HR;rw [show (Value.slice B9 (rnL l p q (j:Int)).length d9)=Value.slice B9 (rwL l p q j).length d9 by rw [e1]];rw [e2,e3] at S1;have htl:=rw_le l p q j;refine Lan Z Z (hK2 _ _ (a_ fun K3 hK3=>b_ (Lan Z Z (hK3 _ _ (a_ fun K4 hK4=>a_ fun K5 hK5=>b_ (Lan Z Z (hK5 _ _ ?_)))))));refine u_ ?_;refine ap_ [(5,_)] (fun (k:Nat)=>[(6,.int .u64 (be ((rwL l p q j).take k):Int)),(7,.int .i64 (k:Int))]) (fun (k:Nat)=>(rwL l p q j).length - k) (fun (k:Nat) (w:World)=>(k≤(rwL l p q j).length∧Rs w 1 B9 (rwL l p q j).length d9 (bL (rwL l p q j)))∧St w0 (xr g A n c p q).dom [xr g A n c (rwP l p q j) (rwE l p q j)] w) 0 (Sc Z (Sc Z (Sub.nil _))) (Sub.cons Z Z (Sub.nil _)) ?_ ?_
 ·
  exact ⟨⟨Nat.zero_le _,HR⟩,S1⟩
 ·
  intro k w2 hrel;obtain ⟨⟨hk,RX⟩,S2⟩:=hrel;refine a_ fun K6 hK6=>a_ fun K7 hK7=>Rm Z Z (Lm Z Z (L_y (J_ Tryz.underlying22 Z) Z (L_y (H_ Z Z) Z (f_ (hK7 _ _ ?_)))));refine m_ Z (fun h14=>?_) (fun h14=>?_)
  ·
   obtain ⟨x,hx⟩:∃ x,(rwL l p q j)[k]?=some x:=⟨_,List.getElem?_eq_getElem (by omega)⟩;have hxl:=x.toNat_lt;have hbb:=be_bound (k:=k) (j:=7) (show k < (rwL l p q j).length by omega) (by omega);refine j_ (hK6 _ _ (a_ fun K8 hK8=>u_ (Rm Z Z (L_y (bo_ Z Z (IntKind.wrap_u64 _)) Z (Lm Z Z (Lm Z Z (L_y (ab_ Tryz.underlying22 sz5 Z Z (RX) inferInstance (by omega)) Z (L_y (ck_ Tryz.underlying5 Z Z RX (ly_ hx)) Z (L_y (O_ is5 Tryz.underlying102 Z (dD_ (by omega))) Z (L_y (v_ Z Z (IntKind.wrap_u64 _)) Z (La Z Z ?_)))))))))));refine f_ (hK8 _ _ (Rm Z Z (L_y (v_ Z Z (z_ (by omega))) Z (Lan Z Z (⟨k+1,by omega,⟨⟨by omega,RX⟩,S2⟩,?_⟩)))));exact (Sub.cons Z (congrArg (Value.int _) (by rw [lw_ hx];omega)) (Sc Z (Sub.cons Z Z (Sub.nil _))))
  ·
   have hke:k=(rwL l p q j).length:=by omega
   subst hke;refine P_ (hK4 _ _ (a_ fun K9 hK9=>Rm Z Z (Lan Z Z (hK9 _ _ (l_ (ur (G_ Z Z ?_)))))));exact ⟨_,rfl,by rw [List.take_length],S2.turned1 0 Z⟩
theorem xvar (g:Nat) (A:Option Addr) (n c:Nat) (l:List UInt8) (p q:Nat) (m:Nat) (w0:World) (hw:(xr g A n c p q).holds w0) (hb:Rs w0 1 A n c (bL l)) (hp:p≤l.length) (hn62:n≤70368744177664) (hbg:∀ ad,0 < n→A=some ad→ad.block≠g) :
    Calls Tryz.prog 101 #[.pointer (some ⟨g,0,none⟩),.int .u64 (m:Int)] w0 fun e w'=>∃ u,e=.returned u∧u=.int .u64 ((vaN l p q m).1:Int)∧Turned w0 w' (xr g A n c p q) (xr g A n c (vaN l p q m).2.1 (vaN l p q m).2.2):=by
 refine w_ (env:=[(0,.pointer (some ⟨g,0,none⟩)),(1,.int .u64 (m:Int))]) [.pointer (some ⟨g,0,none⟩),.int .u64 (m:Int)] Tryz.func101 Z Tryz.ntmps101 Z Z ?_;have hnl:=hb.lenb;have hcap:=hb.cap;have hmx:=hb.max;have S0:=St.borrow1 (blk g 185 #[.slice A n c,.int .i64 (p:Int),.int .i64 (q:Int)]) hw (xr_lt hw);refine a_ fun K1 hK1=>b_ (Lan Z Z (hK1 _ _ (a_ fun K2 hK2=>a_ fun K3 hK3=>Rm Z Z (L_y (x_ Z) Z (L_y (d_ 2 Tryz.underlying185 Z sz3 Z Z Z) Z (L_y (p_ Tryz.underlying3 Z Z (((S0.blk 0 Z).cell _).trans (by rfl))) Z ?_))))));refine L_y (V_ Z Z) Z (f_ (hK3 _ _ ?_));refine m_ Z (fun h12=>?_) (fun h12=>?_)
 ·
  refine a_ fun K4 hK4=>b_ (Lan Z Z (hK4 _ _ (l_ (ur (G_ Z Z ?_)))));have hV:vaN l p q m=(0,p,q):=by rw [vaN,if_pos (by omega)]
  exact ⟨_,rfl,by rw [hV];rfl,by rw [hV];exact im_ (S0.turned1 0 Z) Z⟩
 ·
  have hq:q=0:=by omega
  subst hq;refine j_ (hK2 _ _ (a_ fun K5 hK5=>Rm Z Z (L_o (o_ Tryz.func135 Z Z (xnumber g A n c l p _ w0 (S0.get 0 Z) hb hp hn62) Z Z ?_))));rintro e1 w1 ⟨v1,rfl,l1,rfl⟩;refine ⟨_,rfl,(have S1:=S0.like l1;have hE:=nu_e l p;have hat:=nu_at l p hp;have hmx2:=nu_max l p;Lm Z Z (L_y (n_ Z Z) Z (L_y (n_ Z Z) Z (L_y (n_ Z Z) Z (La Z Z (La Z Z (Lan Z Z (hK5 _ _ ?_))))))))⟩;refine a_ fun K6 hK6=>a_ fun K7 hK7=>Rm Z Z (L_y (ah_ Z Z) Z (Lm Z Z ?_));refine A_ 21 Z (fun h21=>?_) (fun h21=>?_)
  ·
   refine g_ Z Z (Lm Z Z (g_ Z Z (Lm Z Z (g_ Z Z (L_y (aa_ Z Z) Z (Lp Z Z Z (f_ (hK7 _ _ ?_))))))));refine m_ Z (fun h25=>?_) (fun h25=>?_)
   ·
    refine b_ (Lan Z Z (hK6 _ _ (a_ fun K8 hK8=>a_ fun K9 hK9=>Rm Z Z (L_y (V_ Z Z) Z (f_ (hK9 _ _ ?_))))));refine m_ Z (fun h27=>?_) (fun h27=>?_)
    ·
     refine a_ fun K10 hK10=>Rm Z Z (Lm Z Z (L_y (x_ Z) Z (L_y (d_ 2 Tryz.underlying185 Z sz3 Z Z Z) Z (L_o (Y_ S1 0 Z Z Z Z sz3 (by simp;done) fun w3 S3=>?_)))));refine f_ (hK10 _ _ (a_ fun K11 hK11=>b_ (Lan Z Z (hK11 _ _ (l_ (ur (G_ Z Z ?_)))))));have hV:vaN l p 0 m=(0,p,3):=by rw [vaN,if_neg (by omega),if_neg (by omega),if_pos (by rw [← nu_ok (by omega)];omega)]
     exact ⟨_,rfl,by rw [hV];rfl,by rw [hV];exact im_ (S3.turned1 0 Z) Z⟩
    ·
     refine j_ (hK8 _ _ (a_ fun K12 hK12=>Rm Z Z (Lm Z Z (L_y (x_ Z) Z (L_y (d_ 1 Tryz.underlying185 Z sz3 Z Z Z) Z (L_y (p_ Tryz.underlying3 Z Z (((S1.blk 0 Z).cell _).trans (by rfl))) Z ?_))))));refine Lm Z Z (L_y (v_ Z Z (z_ (by omega))) Z (L_y (x_ Z) Z (L_y (d_ 1 Tryz.underlying185 Z sz3 Z Z Z) Z (L_o (Y_ S1 0 Z Z Z Z sz3 (by simp;done) fun w4 S4=>?_)))));refine f_ (hK12 _ _ (a_ fun K13 hK13=>Rm Z Z (Lan Z Z (hK13 _ _ (l_ (ur (G_ Z Z ?_)))))));exfalso;omega
   ·
    refine j_ (hK6 _ _ (a_ fun K14 hK14=>a_ fun K15 hK15=>Rm Z Z (L_y (V_ Z Z) Z (f_ (hK15 _ _ ?_)))));refine m_ Z (fun h27=>?_) (fun h27=>?_)
    ·
     refine a_ fun K16 hK16=>Rm Z Z (Lm Z Z (L_y (x_ Z) Z (L_y (d_ 2 Tryz.underlying185 Z sz3 Z Z Z) Z (L_o (Y_ S1 0 Z Z Z Z sz3 (by simp;done) fun w5 S5=>?_)))));refine f_ (hK16 _ _ (a_ fun K17 hK17=>b_ (Lan Z Z (hK17 _ _ (l_ (ur (G_ Z Z ?_)))))));exfalso;omega
    ·
     refine j_ (hK14 _ _ (a_ fun K18 hK18=>Rm Z Z (Lm Z Z (L_y (x_ Z) Z (L_y (d_ 1 Tryz.underlying185 Z sz3 Z Z Z) Z (L_y (p_ Tryz.underlying3 Z Z (((S1.blk 0 Z).cell _).trans (by rfl))) Z ?_))))));refine Lm Z Z (L_y (v_ Z Z (z_ (by omega))) Z (L_y (x_ Z) Z (L_y (d_ 1 Tryz.underlying185 Z sz3 Z Z Z) Z (L_o (Y_ S1 0 Z Z Z Z sz3 (by simp;done) fun w6 S6=>?_)))));refine f_ (hK18 _ _ (a_ fun K19 hK19=>Rm Z Z (Lan Z Z (hK19 _ _ (l_ (ur (G_ Z Z ?_)))))));have hV:vaN l p 0 m=((nuN l p).1,p+(nuN l p).2.1,0):=by rw [vaN,if_neg (by omega),if_neg (by omega),if_neg (by rw [← nu_ok (by omega)];omega),nu_ok (by omega)]
     exact ⟨_,rfl,by rw [hV];rfl,by rw [hV];exact im_ (S6.turned1 0 Z) Z⟩
  ·
   refine h_ Z Z Z (h_ Z Z Z (h_ Z Z Z (Lp Z Z Z (f_ (hK7 _ _ (aI_ Z (j_ (hK6 _ _ (a_ fun K20 hK20=>a_ fun K21 hK21=>Rm Z Z (L_y (V_ Z Z) Z ?_))))))))));refine f_ (hK21 _ _ ?_);refine m_ Z (fun h27=>?_) (fun h27=>?_)
   ·
    refine a_ fun K22 hK22=>Rm Z Z (Lm Z Z (L_y (x_ Z) Z (L_y (d_ 2 Tryz.underlying185 Z sz3 Z Z Z) Z (L_o (Y_ S1 0 Z Z Z Z sz3 (by simp;done) fun w7 S7=>?_)))));refine f_ (hK22 _ _ (a_ fun K23 hK23=>b_ (Lan Z Z (hK23 _ _ (l_ (ur (G_ Z Z ?_)))))));have hV:vaN l p 0 m=(0,p,(nuN l p).2.2):=by rw [vaN,if_neg (by omega),if_pos (by omega),hE]
    exact ⟨_,rfl,by rw [hV];rfl,by rw [hV];exact im_ (S7.turned1 0 Z) Z⟩
   ·
    refine j_ (hK20 _ _ (a_ fun K24 hK24=>Rm Z Z (Lm Z Z (L_y (x_ Z) Z (L_y (d_ 1 Tryz.underlying185 Z sz3 Z Z Z) Z (L_y (p_ Tryz.underlying3 Z Z (((S1.blk 0 Z).cell _).trans (by rfl))) Z ?_))))));refine Lm Z Z (L_y (v_ Z Z (z_ (by omega))) Z (L_y (x_ Z) Z (L_y (d_ 1 Tryz.underlying185 Z sz3 Z Z Z) Z (L_o (Y_ S1 0 Z Z Z Z sz3 (by simp;done) fun w8 S8=>?_)))));refine f_ (hK24 _ _ (a_ fun K25 hK25=>Rm Z Z (Lan Z Z (hK25 _ _ (l_ (ur (G_ Z Z ?_)))))));exfalso;omega
end Oct
namespace Del
end Del
namespace Del
open Go.RowKit Zk Zx Oct
def eo_ (o:OV):List UInt8:=if o.cp then 1::(vr o.fr.toNat++vr o.n.toNat) else 0::(vr o.l.length++o.l)
def bR_ (b t:Int) (l:List OV):List UInt8:=vr b.toNat++vr t.toNat++l.flatMap eo_
def dG_ (b t:Int) (l:List OV):List UInt8 × Int:=if ee_ b t l≠0 then ([],ee_ b t l) else (bR_ b t l,0)
theorem iH_ {b t:Int} {l:List OV} (h:ee_ b t l≠0):dG_ b t l=([],ee_ b t l):=by unfold dG_;rw [if_pos h]
theorem jq_ {b t:Int} {l:List OV} (h:ee_ b t l=0):dG_ b t l=(bR_ b t l,0):=by unfold dG_;rw [if_neg (fun x=>x h)]
theorem enc_cp {o:OP} (h:o.cp=true):eo_ o.v=[1]++(vr o.fr.toNat++vr o.n.toNat):=by
  unfold eo_
  rw [if_pos (show o.v.cp=true from h)]
  rfl
theorem enc_new {o:OP} (h:o.cp=false):eo_ o.v=[0]++(vr o.p.l.length++o.p.l):=by
  unfold eo_
  rw [if_neg (show ¬ o.v.cp=true from by rw [show o.v.cp=o.cp from Z,h];exact Bool.false_ne_true)]
  rfl
theorem enc_step {b t:Int} {l:List OP} {k:Nat} {o:OP} (ho:l[k]?=some o):bR_ b t ((l.take (k+1)).map OP.v)=bR_ b t ((l.take k).map OP.v)++eo_ o.v:=by
  unfold bR_
  rw [take1 ho,List.map_append,List.flatMap_append,List.append_assoc,List.append_assoc,List.append_assoc]
  simp
theorem fb_ (x:Nat) (h:x≤5000):(vr x).length≤2:=vr_len x 1 (by omega)
theorem wt_fresh {w w':World} {b:Nat} (h:w.heap.size≤b) (hw:(wt b none 0 0 []).holds w'):∀ i,(wt b none 0 0 []).dom i→w.heap.size≤i∧i < w'.heap.size:=fun i hi=>by
  refine ⟨?_,wt_lt hw i hi⟩
  rcases hi with hi | hi
  · have hi':i=b:=hi
    omega
  · cases hi
theorem i_u64 {x:Int} (h:0≤x) (h2:x≤5000):IntKind.u64.wrap x=((x.toNat:Nat):Int):=by
  rw [IntKind.wrap_u64]
  omega
theorem pput (A:Option Addr) (n c:Nat) (l:List OP) (b t:Int) (w0:World) (hl:Rs w0 4 A n c (l.flatMap opf)) (hok:OkO w0 l) (hn4:n≤4000) :
    Calls Tryz.prog 122 #[.agg (scA b t A n c)] w0 fun e w'=>∃ u,e=.returned u∧Like w0 w'∧∃ A' c',u=.tuple #[.slice A' (dG_ b t (l.map OP.v)).1.length c',.int .i64 (dG_ b t (l.map OP.v)).2]∧w'.ownsRow w0.heap.size 5 1 (.slice A' (dG_ b t (l.map OP.v)).1.length c') (dG_ b t (l.map OP.v)).1.length (bL (dG_ b t (l.map OP.v)).1):=by
 refine w_ (env:=[(0,.agg (scA b t A n c))]) [.agg (scA b t A n c)] Tryz.func122 Z Tryz.ntmps122 Z Z ?_;have hn:=ops_n hl;have hcap:=hl.cap;have hmax:=hl.max;have S0:=St.start w0 noM;refine a_ fun K1 hK1=>b_ (L_o (bB_ Z S0 Z fun b1 w1 hb1 S1=>La Z Z (Lan Z Z (hK1 _ _ (a_ fun K2 hK2=>a_ fun K3 hK3=>b_ (L_y (W_ Tryz.underlying179 Z cx_ Z (S1.blk 0 Z) (show _=(scA b t A n c).toList∧_ from ⟨rfl,rfl⟩)) Z (L_o (o_ Tryz.func134 Z Z (pcheck A n c l b t w1 (S1.rd hl) (hok.like S1.like0)) Z Z ?_))))))));rintro e2 w2 ⟨v2,rfl,l2,rfl⟩;refine ⟨_,rfl,(have S2:=S1.like l2;Lan Z Z (hK3 _ _ (a_ fun K4 hK4=>Rm Z Z (L_y (V_ Z Z) Z (f_ (hK4 _ _ ?_))))))⟩;refine m_ Z (fun h11=>?_) (fun h11=>?_)
 ·
  refine a_ fun K5 hK5=>Rm Z Z (La Z Z (Lan Z Z (hK5 _ _ (l_ (ur (aB_ Z Z Z ?_))))));first | exact ⟨_,rfl,S2.like0,none,0,by rw [iH_ h11];rfl,by rw [iH_ h11];exact World.ownsRow_nil _ _ _ _⟩ | (have hke:k=n:=by omega);subst hke;rw [List.take_of_length_le (by omega)] at hm;have hO:=S2.own 2 Z;have hL:=(S2.row 2 Z).lenb;subst hm;obtain rfl:=hL;exact ⟨_,rfl,S2.like0,_,_,by rw [jq_ h110],by rw [jq_ h110];exact hO⟩
 ·
  have h110:=Decidable.byContradiction h11;obtain ⟨hrg,hall⟩:=eV_ h110;refine j_ (hK2 _ _ (a_ fun K6 hK6=>b_ (L_o (o_ Tryz.func164 Z Z (wnew w2) Z Z ?_))));rintro e3 w3 ⟨v3,rfl,l3,g,rfl,hb3,hh3⟩;refine ⟨_,rfl,(have S3:=S2.new l3 _ hh3 (wt_fresh hb3 hh3);Lan Z Z (hK6 _ _ (a_ fun K7 hK7=>Rm Z Z (L_y (d_ 0 Tryz.underlying179 Z sz3 Z Z Z) Z (L_y (p_ Tryz.underlying3 Z Z (((S3.blk 0 Z).cell _).trans (by rfl))) Z ?_)))))⟩;refine L_y (O_ is3 Tryz.underlying102 Z (i_u64 (by omega) (by omega))) Z (L_o (o_ Tryz.func91 Z Z (wvar g _ _ _ _ b.toNat w3 (S3.get 1 Z) (by omega) (by simp)) Z Z ?_));rintro e4 w4 ⟨v4,rfl,⟨A4,n4,c4,T4⟩⟩;refine ⟨_,rfl,(have S4:=S3.turn 1 Z T4;f_ (hK7 _ _ (a_ fun K8 hK8=>Rm Z Z (L_y (d_ 1 Tryz.underlying179 Z sz3 Z Z Z) Z (L_y (p_ Tryz.underlying3 Z Z (((S4.blk 0 Z).cell _).trans (by rfl))) Z ?_)))))⟩;refine L_y (O_ is3 Tryz.underlying102 Z (i_u64 (by omega) (by omega))) Z (L_o (o_ Tryz.func91 Z Z (wvar g _ _ _ _ t.toNat w4 (S4.get 1 Z) (by omega) (by have:=fb_ b.toNat (by omega);simp;omega)) Z Z ?_));rintro e5 w5 ⟨v5,rfl,⟨A23,n23,c23,T5⟩⟩;refine ⟨_,rfl,(have S5:=S4.turn 1 Z T5;f_ (hK8 _ _ (a_ fun K9 hK9=>a_ fun K10 hK10=>b_ (L_y (d_ 2 Tryz.underlying179 Z fF_ Z Z Z) Z (L_y (p_ Tryz.underlying177 Z Z (((S5.blk 0 Z).cell _).trans (by rfl))) Z ?_)))))⟩;refine L_y (J_ Tryz.underlying177 Z) Z (Lm Z Z (f_ (hK10 _ _ (u_ ?_))));refine fw_ [(5,_),(25,_),(26,_)] (fun (k:Nat) (left:Int) (m:List UInt8) (A1:Option Addr) (n1:Nat) (c1:Nat)=>[(27,.int .i64 (k:Int))]) (fun (k:Nat) (left:Int) (m:List UInt8) (A1:Option Addr) (n1:Nat) (c1:Nat)=>n - k) (fun (k:Nat) (left:Int) (m:List UInt8) (A1:Option Addr) (n1:Nat) (c1:Nat) (w:World)=>(k≤n∧0≤left∧left≤4000∧bG_ b left ((l.map OP.v).drop k)=true∧m=bR_ b t ((l.take k).map OP.v)∧m.length+left.toNat≤4020+21*k)∧St w0 noM [blk b1 179 (scA b t A n c),wt g A1 n1 c1 m] w) 0 t ([]++vr b.toNat++vr t.toNat) A23 n23 c23 (Sc Z (Sub.nil _)) (Sub.cons Z Z (Sub.cons Z Z (Sub.cons Z Z (Sub.nil _)))) ?_ ?_
  ·
   exact ⟨⟨Nat.zero_le _,by omega,by omega,hall,by simp [bR_],by have:=fb_ b.toNat (by omega);have:=fb_ t.toNat (by omega);simp;omega⟩,S5⟩
  ·
   intro k left m A1 n1 c1 w6 hrel;obtain ⟨⟨hk,hl0,hl1,hch,hm,hml⟩,S6⟩:=hrel;refine a_ fun K11 hK11=>b_ (L_y (H_ Z Z) Z (f_ (hK11 _ _ (a_ fun K12 hK12=>?_))));refine m_ Z (fun h28=>?_) (fun h28=>?_)
   ·
    obtain ⟨o,ho⟩:∃ o,l[k]?=some o:=⟨_,List.getElem?_eq_getElem (by omega)⟩;have hop:=hok o (List.mem_of_getElem? ho);have hopn:=hop.lenb;have hopc:=hop.cap;have hopm:=hop.max;obtain ⟨hrt,hsz,hrest⟩:=ik_ ho hch;have hs1:=cS_ hrt;refine j_ (hK12 _ _ (a_ fun K13 hK13=>u_ (a_ fun K14 hK14=>b_ (L_y (ab_ Tryz.underlying177 br_ Z Z (S6.rd hl) (Nt.mk (by omega):Nt _ (k)) (by omega)) Z (L_y (cQ_ (f:=opf) go_ Tryz.underlying221 Z br_ Z (S6.rd hl) (by omega) ho) Z (L_o (E_ gR_ S6 Z fun b7 w7 hb7 S7=>L_o (B_ S7 2 Z Z Z br_ Z (bC_ o) fun w8 S8=>f_ (hK14 _ _ (a_ fun K15 hK15=>b_ ?_))))))))));refine L_y (d_ 0 Tryz.underlying221 Z sz4 Z Z Z) Z (L_y (p_ Tryz.underlying4 Z Z (((S8.blk 2 Z).cell _).trans (by rfl))) Z ?_);refine f_ (hK15 _ _ ?_);refine ay_ Z (fun h32=>?_) (fun h32=>?_)
    ·
     have hcp:o.cp=true:=h32;obtain ⟨g1,g2,g3,g4,g5⟩:=rt_cp hrt hcp;refine a_ fun K16 hK16=>Rm Z Z (L_o (o_ Tryz.func89 Z Z (wbyte g _ _ _ _ 1 w8 (S8.get 1 Z) (by omega)) Z Z ?_));rintro e9 w9 ⟨v9,rfl,⟨A9,n9,c9,T9⟩⟩;refine ⟨_,rfl,(have S9:=S8.turn 1 Z T9;f_ (hK16 _ _ (a_ fun K17 hK17=>Rm Z Z (L_y (d_ 1 Tryz.underlying221 Z sz3 Z Z Z) Z (L_y (p_ Tryz.underlying3 Z Z (((S9.blk 2 Z).cell _).trans (by rfl))) Z ?_)))))⟩;refine L_y (O_ is3 Tryz.underlying102 Z (i_u64 (by omega) (by omega))) Z (L_o (o_ Tryz.func91 Z Z (wvar g _ _ _ _ o.fr.toNat w9 (S9.get 1 Z) (by omega) (by simp;omega)) Z Z ?_));rintro e10 w10 ⟨v10,rfl,⟨A10,n10,c10,T10⟩⟩;refine ⟨_,rfl,(have S10:=S9.turn 1 Z T10;f_ (hK17 _ _ (Rm Z Z (L_y (d_ 2 Tryz.underlying221 Z sz3 Z Z Z) Z (L_y (p_ Tryz.underlying3 Z Z (((S10.blk 2 Z).cell _).trans (by rfl))) Z ?_)))))⟩;refine L_y (O_ is3 Tryz.underlying102 Z (i_u64 (by omega) (by omega))) Z (L_o (o_ Tryz.func91 Z Z (wvar g _ _ _ _ o.n.toNat w10 (S10.get 1 Z) (by omega) (by have:=fb_ o.fr.toNat (by omega);simp;omega)) Z Z ?_));rintro e11 w11 ⟨v11,rfl,⟨A11,n11,c11,T11⟩⟩;refine ⟨_,rfl,(have S11:=S10.turn 1 Z T11;f_ (hK13 _ _ (b_ (L_y (v_ Z Z (z_ (by omega))) Z (Lm Z Z (f_ (have S91:=S11.drop (rs':=[_,_]) (.cons_cons _ (.cons_cons _ (.cons _ (.refl _))));⟨k+1,left - szV o.v,_,_,_,_,by omega,⟨⟨by omega,by omega,by omega,hrest,by rw [hm,enc_step ho,enc_cp hcp];simp [List.append_assoc,ByteArray.size],by have:=fb_ o.fr.toNat (by omega);have:=fb_ o.n.toNat (by omega);simp;omega⟩,S91⟩,?_⟩)))))))⟩;exact (Sc Z (Sub.cons Z Z (Sub.cons Z Z (Sub.cons Z Z (Sub.nil _)))))
    ·
     have hcp:o.cp=false:=h32;obtain ⟨g1,g2⟩:=rt_new hrt hcp;refine a_ fun K18 hK18=>Rm Z Z (L_o (o_ Tryz.func89 Z Z (wbyte g _ _ _ _ 0 w8 (S8.get 1 Z) (by omega)) Z Z ?_));rintro e12 w12 ⟨v12,rfl,⟨A12,n12,c12,T12⟩⟩;refine ⟨_,rfl,(have S12:=S8.turn 1 Z T12;f_ (hK18 _ _ (Rm Z Z (L_y (d_ 3 Tryz.underlying221 Z bi_ Z Z Z) Z (L_y (p_ Tryz.underlying22 Z Z (((S12.blk 2 Z).cell _).trans (by rfl))) Z ?_)))))⟩;refine L_y (bX_ Tryz.underlying22 Tryz.underlying5 Tryz.underlying9 Z (S12.rd hop)) Z (L_o (o_ Tryz.func165 Z Z (wtext g _ _ _ _ ⟨o.p.l.toArray⟩ w12 (S12.get 1 Z) (by simp [ByteArray.size];omega)) Z Z ?_));rintro e13 w13 ⟨v13,rfl,⟨A13,n13,c13,T13⟩⟩;refine ⟨_,rfl,(have S13:=S12.turn 1 Z T13;f_ (hK13 _ _ (b_ (L_y (v_ Z Z (z_ (by omega))) Z (Lm Z Z (f_ (have S91:=S13.drop (rs':=[_,_]) (.cons_cons _ (.cons_cons _ (.cons _ (.refl _))));⟨k+1,left - szV o.v,_,_,_,_,by omega,⟨⟨by omega,by omega,by omega,hrest,by rw [hm,enc_step ho,enc_new hcp];simp [List.append_assoc,ByteArray.size],by have:=fb_ o.p.l.length (by omega);simp [ByteArray.size];omega⟩,S91⟩,?_⟩)))))))⟩;exact (Sc Z (Sub.cons Z Z (Sub.cons Z Z (Sub.cons Z Z (Sub.nil _)))))
   ·
    refine P_ (hK9 _ _ (a_ fun K19 hK19=>Rm Z Z (L_o (o_ Tryz.func59 Z Z (wbytes g _ _ _ _ w6 (S6.get 1 Z) (by omega)) Z Z ?_))));rintro e14 w14 ⟨v14,rfl,l14,A14,m14,c14,rfl,O14⟩;refine ⟨_,rfl,(have S14:=S6.adopt l14 O14;La Z Z (Lan Z Z (hK19 _ _ (l_ (ur (aB_ Z Z Z ?_))))))⟩;first | exact ⟨_,rfl,S14.like0,none,0,by rw [iH_ h11];rfl,by rw [iH_ h11];exact World.ownsRow_nil _ _ _ _⟩ | (have hke:k=n:=by omega);subst hke;rw [List.take_of_length_le (by omega)] at hm;have hO:=S14.own 2 Z;have hL:=(S14.row 2 Z).lenb;subst hm;obtain rfl:=hL;exact ⟨_,rfl,S14.like0,_,_,by rw [jq_ h110],by rw [jq_ h110];exact hO⟩
end Del
namespace Del
open Go.RowKit Zk Zx Oct
def okP (w:World) (B:Nat) (ps:List Part):Prop:=∀ p ∈ ps,p.ok w∧p.n≤B
theorem okP.nil (w:World) (B:Nat):okP w B []:=fun p hp=>by cases hp
theorem okP.cons {w:World} {B:Nat} {p:Part} {ps:List Part} (h1:p.ok w) (h2:p.n≤B) (h:okP w B ps):okP w B (p::ps):=fun q hq=>by
  rcases List.mem_cons.1 hq with rfl | hq
  · exact ⟨h1,h2⟩
  · exact h q hq
theorem okP.like {w w':World} {B:Nat} {ps:List Part} (h:okP w B ps) (lk:Like w w'):okP w' B ps:=fun p hp=>⟨Rs.like (h p hp).1 lk,(h p hp).2⟩
theorem getP {ps:List Part} {k:Nat} {p:Part} (hp:ps[k]?=some p):(ps.map pv)[k]?=some (.slice p.A p.n p.c):=by rw [List.getElem?_map,hp];rfl
end Del
namespace Del
open Go.RowKit Zk Zx Oct
end Del
namespace Del
open Go.RowKit Zk Zx Oct
end Del
namespace Del
open Go.RowKit Zk Zx Oct
structure RO where
  o:OV
  p:Nat
  q:Nat
  e:Int
def zO:OV:=⟨false,0,0,[]⟩
def zP:OP:=⟨false,0,0,p0⟩
def rdN (d:List UInt8) (p q:Nat) (base f:Int) (cp:Bool):RO :=
  if (vaN d p q 4000).2.2≠0 then ⟨zO,(vaN d p q 4000).2.1,(vaN d p q 4000).2.2,(vaN d p q 4000).2.2⟩
  else if (vaN d p q 4000).1=0 then ⟨zO,(vaN d p q 4000).2.1,0,12⟩
  else if cp then (if base - ((vaN d p q 4000).1:Int) < f then ⟨zO,(vaN d p q 4000).2.1,0,21⟩ else ⟨⟨true,f,((vaN d p q 4000).1:Int),[]⟩,(vaN d p q 4000).2.1,0,0⟩)
  else ⟨⟨false,0,0,rnL d (vaN d p q 4000).2.1 0 ((vaN d p q 4000).1:Int)⟩,rnP d (vaN d p q 4000).2.1 0 ((vaN d p q 4000).1:Int),rnE d (vaN d p q 4000).2.1 0 ((vaN d p q 4000).1:Int),(rnE d (vaN d p q 4000).2.1 0 ((vaN d p q 4000).1:Int):Int)⟩
def rdO (d:List UInt8) (p:Nat) (x:UInt8) (base:Int):RO :=
  if 1 < x.toNat then ⟨zO,p+1,0,19⟩
  else if x.toNat=1 then rdN d (vaN d (p+1) 0 4000).2.1 (vaN d (p+1) 0 4000).2.2 base ((vaN d (p+1) 0 4000).1:Int) true
  else rdN d (p+1) 0 base 0 false
section
variable {d : List UInt8} {p q : Nat} {base f : Int} {x : UInt8} {cp : Bool}
theorem kP_ (h:1 < x.toNat):rdO d p x base=⟨zO,p+1,0,19⟩:=by unfold rdO;rw [if_pos h]
theorem ey_ (h:x.toNat=1):rdO d p x base=rdN d (vaN d (p+1) 0 4000).2.1 (vaN d (p+1) 0 4000).2.2 base ((vaN d (p+1) 0 4000).1:Int) true:=by unfold rdO;rw [if_neg (by omega),if_pos h]
theorem dR_ (h:¬ 1 < x.toNat) (h2:¬ x.toNat=1):rdO d p x base=rdN d (p+1) 0 base 0 false:=by unfold rdO;rw [if_neg h,if_neg h2]
theorem hl_ (h:(vaN d p q 4000).2.2≠0):rdN d p q base f cp=⟨zO,(vaN d p q 4000).2.1,(vaN d p q 4000).2.2,(vaN d p q 4000).2.2⟩:=by unfold rdN;rw [if_pos h]
theorem fQ_ (h:(vaN d p q 4000).2.2=0) (h2:(vaN d p q 4000).1=0):rdN d p q base f cp=⟨zO,(vaN d p q 4000).2.1,0,12⟩:=by unfold rdN;rw [if_neg (by omega),if_pos h2]
theorem kQ_ (h:(vaN d p q 4000).2.2=0) (h2:¬ (vaN d p q 4000).1=0) (h3:base - ((vaN d p q 4000).1:Int) < f):rdN d p q base f true=⟨zO,(vaN d p q 4000).2.1,0,21⟩:=by unfold rdN;rw [if_neg (by omega),if_neg h2,if_pos Z,if_pos h3]
theorem rdN_cp (h:(vaN d p q 4000).2.2=0) (h2:¬ (vaN d p q 4000).1=0) (h3:¬ base - ((vaN d p q 4000).1:Int) < f):rdN d p q base f true=⟨⟨true,f,((vaN d p q 4000).1:Int),[]⟩,(vaN d p q 4000).2.1,0,0⟩:=by unfold rdN;rw [if_neg (by omega),if_neg h2,if_pos Z,if_neg h3]
theorem hk_ (h:(vaN d p q 4000).2.2=0) (h2:¬ (vaN d p q 4000).1=0):rdN d p q base f false=⟨⟨false,0,0,rnL d (vaN d p q 4000).2.1 0 ((vaN d p q 4000).1:Int)⟩,rnP d (vaN d p q 4000).2.1 0 ((vaN d p q 4000).1:Int),rnE d (vaN d p q 4000).2.1 0 ((vaN d p q 4000).1:Int),(rnE d (vaN d p q 4000).2.1 0 ((vaN d p q 4000).1:Int):Int)⟩:=by unfold rdN;rw [if_neg (by omega),if_neg h2,if_neg Bool.false_ne_true]
theorem dJ_ (d:List UInt8) (p q m:Nat):(vaN d p q m).1≤m:=by
  unfold vaN
  repeat' split
  all_goals simp only;omega
end
theorem jm_ (l:List UInt8) (p q:Nat) (m:Int) (hp:p≤l.length):rnP l p q m≤l.length:=by
  unfold rnP rwP
  split
  · exact hp
  · split
    · exact tkP_le l p _ hp
    · exact hp
def rowP (p:Part):Res:=row 5 1 p.A p.n p.c (bL p.l)
theorem dY_ (w:World):(rowP p0).holds w:=World.ownsRow_nil _ _ _ _
theorem gK_ {i:Nat} {Q:Prop} (h:(rowP p0).dom i):Q:=by simp [rowP,p0,row,Value.ownBlock] at h
theorem rbyte1 (g:Nat) (A:Option Addr) (n c:Nat) (l:List UInt8) (p:Nat) (x:UInt8) (w0:World) (hw:(rdr g A n c l p 0).holds w0) (hx:l[p]?=some x) (hn62:n≤4611686018427387904) :
    Calls Tryz.prog 127 #[.pointer (some ⟨g,0,none⟩)] w0 fun e w'=>∃ u,e=.returned u∧u=.int .u8 (x.toNat:Int)∧Turned w0 w' (rdr g A n c l p 0) (rdr g A n c l (p+1) 0):=by
  have hp:=(List.getElem?_eq_some_iff.1 hx).1
  refine (rbyte g A n c l p 0 w0 hw (by omega) hn62).mono fun e w' ⟨u,h1,h2,h3⟩=>⟨u,h1,?_,?_⟩
  · obtain ⟨y,hy,htk,_⟩:=hO_ (show 1≤l.length - p by omega)
    rw [hx] at hy
    obtain rfl:=Option.some.inj hy
    rw [h2,rwL,if_pos Z,htk]
    simp [be]
  · exact Rdd.turned h3 (by rw [rwP,if_pos Z,tkP,if_pos (by omega)]) (by rw [rwE,if_pos Z,fM_ (by omega)])
theorem rop (g:Nat) (A:Option Addr) (n c:Nat) (l:List UInt8) (p:Nat) (x:UInt8) (base:Int) (w0:World) (hw:(rdr g A n c l p 0).holds w0) (hx:l[p]?=some x) (hn5:n≤10000) (hb:0≤base∧base≤4000) :
    Calls Tryz.prog 132 #[.pointer (some ⟨g,0,none⟩),.int .i64 base] w0 fun e w'=>∃ u,e=.returned u∧Turned w0 w' (rdr g A n c l p 0) (rdr g A n c l (rdO l p x base).p (rdO l p x base).q)∧∃ o:OP,u=.tuple #[.agg (opf o).toArray,.int .i64 (rdO l p x base).e]∧o.v=(rdO l p x base).o∧(rowP o.p).holds w'∧∀ i,(rowP o.p).dom i→w0.heap.size≤i:=by
 refine w_ (env:=[(0,.pointer (some ⟨g,0,none⟩)),(1,.int .i64 base)]) [.pointer (some ⟨g,0,none⟩),.int .i64 base] Tryz.func132 Z Tryz.ntmps132 Z Z ?_;have hnl:=co_ hw;have hnc:=aM_ hw.2;have hpl:=(List.getElem?_eq_some_iff.1 hx).1;have hxl:=x.toNat_lt;have S0:=St.borrow1 (rdr g A n c l p 0) hw (dF_ hw);refine a_ fun K1 hK1=>b_ (L_o (E_ gR_ S0 Z fun b1 w1 hb1 S1=>Lan Z Z (hK1 _ _ (a_ fun K2 hK2=>Rm Z Z (L_o (o_ Tryz.func127 Z Z (rbyte1 g A n c l p x w1 (S1.get 0 Z) hx (by omega)) Z Z ?_))))));rintro e2 w2 ⟨v2,rfl,rfl,T2⟩;refine ⟨_,rfl,(have S2:=S1.turn 0 Z T2;Lan Z Z (hK2 _ _ (a_ fun K3 hK3=>a_ fun K4 hK4=>Rm Z Z (L_y (aa_ Z Z) Z (f_ (hK4 _ _ ?_))))))⟩;refine m_ Z (fun h13=>?_) (fun h13=>?_)
 ·
  refine a_ fun K5 hK5=>b_ (L_y (y_ Z (show _=some #[Value.bool false,Value.int .i64 0,Value.int .i64 0,Value.slice none 0 0] by kernel_rfl)) Z (L_o (B_ S2 1 Z Z Z br_ Z (by first | exact bC_ _ | (intro u hu;simp at hu;rcases hu with rfl | rfl | rfl | rfl <;> rfl)) fun w3 S3=>?_)));refine Lan Z Z (hK5 _ _ (l_ (ur (X_ Z Z Z (S3.blk 1 Z) Tryz.underlying221 Z (by exact br_) ?_))));rw [kP_ (by omega)];exact ⟨_,rfl,S3.turned1 0 Z,zP,rfl,rfl,dY_ _,fun i hi=>gK_ hi⟩
 ·
  refine j_ (hK3 _ _ (a_ fun K6 hK6=>Rm Z Z (L_y (ah_ Z Z) Z (L_y (y_ Z (show _=some #[Value.bool (decide ((x.toNat:Int)=1)),Value.int .i64 0,Value.int .i64 0,Value.slice none 0 0] by kernel_rfl)) Z ?_))));refine L_o (E_ gR_ S2 Z fun b4 w4 hb4 S4=>L_o (B_ S4 2 Z Z Z br_ Z (by intro u hu;simp at hu;rcases hu with rfl | rfl | rfl | rfl <;> rfl) fun w5 S5=>?_));refine f_ (hK6 _ _ (a_ fun K7 hK7=>a_ fun K8 hK8=>b_ (L_y (d_ 0 Tryz.underlying221 Z sz4 Z Z Z) Z (L_y (p_ Tryz.underlying4 Z Z (((S5.blk 2 Z).cell _).trans (by rfl))) Z ?_))));refine f_ (hK8 _ _ ?_);refine m_ Z (fun h19=>?_) (fun h19=>?_)
  ·
   have hx1:x.toNat=1:=by omega
   rw [decide_eq_true (show ((x.toNat:Nat):Int)=1 by omega)] at S5;refine Rm Z Z (L_o (o_ Tryz.func129 Z Z (rvar g A n c l (p+1) 0 4000 w5 (S5.get 0 Z) (by omega) (by omega)) Z Z ?_));rintro e6 w6 ⟨v6,rfl,rfl,T6⟩;refine ⟨_,rfl,(have S6:=S5.turn 0 Z T6;have hF:=bP_ l (p+1) 0 4000 (by omega);have hFm:=dJ_ l (p+1) 0 4000;L_y (O_ cl_ Tryz.underlying3 Z (z_ (by omega))) Z (L_y (d_ 1 Tryz.underlying221 Z sz3 Z Z Z) Z (L_o (Y_ S6 2 Z Z Z Z sz3 (by simp;done) fun w7 S7=>?_))))⟩;refine f_ (hK7 _ _ (a_ fun K9 hK9=>Rm Z Z (L_o (o_ Tryz.func129 Z Z (rvar g A n c l _ _ 4000 w7 (S7.get 0 Z) (by omega) (by omega)) Z Z ?_))));rintro e8 w8 ⟨v8,rfl,rfl,T8⟩;refine ⟨_,rfl,(have S8:=S7.turn 0 Z T8;have hG:=bP_ l (vaN l (p+1) 0 4000).2.1 (vaN l (p+1) 0 4000).2.2 4000 (by omega);have hGm:=dJ_ l (vaN l (p+1) 0 4000).2.1 (vaN l (p+1) 0 4000).2.2 4000;L_y (O_ cl_ Tryz.underlying3 Z (z_ (by omega))) Z (Lan Z Z (hK9 _ _ (a_ fun K10 hK10=>a_ fun K11 hK11=>Rm Z Z (L_o (o_ Tryz.func128 Z Z (rerr g A n c l _ _ w8 (S8.get 0 Z) (by omega)) Z Z ?_))))))⟩;rintro e9 w9 ⟨v9,rfl,l9,rfl⟩;refine ⟨_,rfl,(have S9:=S8.like l9;Lan Z Z (hK11 _ _ (a_ fun K12 hK12=>Rm Z Z (L_y (V_ Z Z) Z (f_ (hK12 _ _ ?_))))))⟩;refine m_ Z (fun h30=>?_) (fun h30=>?_)
   ·
    refine a_ fun K13 hK13=>b_ (L_y (y_ Z (show _=some #[Value.bool false,Value.int .i64 0,Value.int .i64 0,Value.slice none 0 0] by kernel_rfl)) Z (Lm Z Z (L_o (B_ S9 1 Z Z Z br_ Z (by first | exact bC_ _ | (intro u hu;simp at hu;rcases hu with rfl | rfl | rfl | rfl <;> rfl)) fun w10 S10=>?_))));refine Lan Z Z (hK13 _ _ (l_ (ur (X_ Z Z Z (S10.blk 1 Z) Tryz.underlying221 Z (by exact br_) ?_))));rw [ey_ hx1,hl_ (by omega)];exact ⟨_,rfl,S10.turned1 0 Z,zP,rfl,rfl,dY_ _,fun i hi=>gK_ hi⟩
   ·
    have hq0:(vaN l (vaN l (p+1) 0 4000).2.1 (vaN l (p+1) 0 4000).2.2 4000).2.2=0:=by omega
    rw [hq0] at S9;refine j_ (hK10 _ _ (a_ fun K14 hK14=>a_ fun K15 hK15=>Rm Z Z (L_y (ah_ Z Z) Z (f_ (hK15 _ _ ?_)))));refine m_ Z (fun h34=>?_) (fun h34=>?_)
    ·
     refine a_ fun K16 hK16=>b_ (L_y (y_ Z (show _=some #[Value.bool false,Value.int .i64 0,Value.int .i64 0,Value.slice none 0 0] by kernel_rfl)) Z (L_o (B_ S9 1 Z Z Z br_ Z (by first | exact bC_ _ | (intro u hu;simp at hu;rcases hu with rfl | rfl | rfl | rfl <;> rfl)) fun w11 S11=>?_)));refine Lan Z Z (hK16 _ _ (l_ (ur (X_ Z Z Z (S11.blk 1 Z) Tryz.underlying221 Z (by exact br_) ?_))));rw [ey_ hx1,fQ_ hq0 (by omega)];exact ⟨_,rfl,S11.turned1 0 Z,zP,rfl,rfl,dY_ _,fun i hi=>gK_ hi⟩
    ·
     refine j_ (hK14 _ _ (a_ fun K17 hK17=>a_ fun K18 hK18=>b_ (L_y (d_ 0 Tryz.underlying221 Z sz4 Z Z Z) Z (L_y (p_ Tryz.underlying4 Z Z (((S9.blk 2 Z).cell _).trans (by rfl))) Z ?_))));refine L_y ((by first | exact aC_ Z | exact aZ_ Z)) Z ?_;refine f_ (hK18 _ _ (aI_ Z (j_ (hK17 _ _ (a_ fun K19 hK19=>Rm Z Z (L_y (d_ 2 Tryz.underlying221 Z sz3 Z Z Z) Z (L_o (Y_ S9 2 Z Z Z Z sz3 (by simp;done) fun w12 S12=>?_))))))));refine f_ (hK19 _ _ (a_ fun K20 hK20=>a_ fun K21 hK21=>b_ (L_y (d_ 1 Tryz.underlying221 Z sz3 Z Z Z) Z (L_y (p_ Tryz.underlying3 Z Z (((S12.blk 2 Z).cell _).trans (by rfl))) Z ?_))));refine Lm Z Z (Lm Z Z (L_y (am_ Z Z (z_ (by omega))) Z (L_y (aa_ Z Z) Z (f_ (hK21 _ _ ?_)))));refine m_ Z (fun h53=>?_) (fun h53=>?_)
     ·
      refine a_ fun K22 hK22=>b_ (L_y (y_ Z (show _=some #[Value.bool false,Value.int .i64 0,Value.int .i64 0,Value.slice none 0 0] by kernel_rfl)) Z (L_o (B_ S12 1 Z Z Z br_ Z (by first | exact bC_ _ | (intro u hu;simp at hu;rcases hu with rfl | rfl | rfl | rfl <;> rfl)) fun w13 S13=>?_)));refine Lan Z Z (hK22 _ _ (l_ (ur (X_ Z Z Z (S13.blk 1 Z) Tryz.underlying221 Z (by exact br_) ?_))));rw [ey_ hx1,kQ_ hq0 (by omega) (by omega)];exact ⟨_,rfl,S13.turned1 0 Z,zP,rfl,rfl,dY_ _,fun i hi=>gK_ hi⟩
     ·
      refine j_ (hK20 _ _ (a_ fun K23 hK23=>b_ (L_y (W_ Tryz.underlying221 Z br_ Z (S12.blk 2 Z) (show _=(opf ⟨true,((vaN l (p+1) 0 4000).1:Int),((vaN l (vaN l (p+1) 0 4000).2.1 (vaN l (p+1) 0 4000).2.2 4000).1:Int),p0⟩)∧_ from ⟨rfl,rfl⟩)) Z (L_o (B_ S12 1 Z Z Z br_ Z (by first | exact bC_ _ | (intro u hu;simp at hu;rcases hu with rfl | rfl | rfl | rfl <;> rfl)) fun w14 S14=>?_)))));refine Lan Z Z (hK23 _ _ (l_ (ur (X_ Z Z Z (S14.blk 1 Z) Tryz.underlying221 Z (by exact br_) ?_))));rw [ey_ hx1,rdN_cp hq0 (by omega) (by omega)];exact ⟨_,rfl,S14.turned1 0 Z,⟨true,((vaN l (p+1) 0 4000).1:Int),_,p0⟩,rfl,rfl,dY_ _,fun i hi=>gK_ hi⟩
  ·
   have hx1:¬ x.toNat=1:=by omega
   rw [decide_eq_false (show ¬ ((x.toNat:Nat):Int)=1 by omega)] at S5;refine j_ (hK7 _ _ (a_ fun K24 hK24=>Rm Z Z (L_o (o_ Tryz.func129 Z Z (rvar g A n c l _ _ 4000 w5 (S5.get 0 Z) (by omega) (by omega)) Z Z ?_))));rintro e15 w15 ⟨v15,rfl,rfl,T15⟩;refine ⟨_,rfl,(have S15:=S5.turn 0 Z T15;have hG:=bP_ l (p+1) 0 4000 (by omega);have hGm:=dJ_ l (p+1) 0 4000;L_y (O_ cl_ Tryz.underlying3 Z (z_ (by omega))) Z (Lan Z Z (hK24 _ _ (a_ fun K25 hK25=>a_ fun K26 hK26=>Rm Z Z (L_o (o_ Tryz.func128 Z Z (rerr g A n c l _ _ w15 (S15.get 0 Z) (by omega)) Z Z ?_))))))⟩;rintro e16 w16 ⟨v16,rfl,l16,rfl⟩;refine ⟨_,rfl,(have S16:=S15.like l16;Lan Z Z (hK26 _ _ (a_ fun K27 hK27=>Rm Z Z (L_y (V_ Z Z) Z (f_ (hK27 _ _ ?_))))))⟩;refine m_ Z (fun h30=>?_) (fun h30=>?_)
   ·
    refine a_ fun K28 hK28=>b_ (L_y (y_ Z (show _=some #[Value.bool false,Value.int .i64 0,Value.int .i64 0,Value.slice none 0 0] by kernel_rfl)) Z (Lm Z Z (L_o (B_ S16 1 Z Z Z br_ Z (by first | exact bC_ _ | (intro u hu;simp at hu;rcases hu with rfl | rfl | rfl | rfl <;> rfl)) fun w17 S17=>?_))));refine Lan Z Z (hK28 _ _ (l_ (ur (X_ Z Z Z (S17.blk 1 Z) Tryz.underlying221 Z (by exact br_) ?_))));rw [dR_ (by omega) (by omega),hl_ (by omega)];exact ⟨_,rfl,S17.turned1 0 Z,zP,rfl,rfl,dY_ _,fun i hi=>gK_ hi⟩
   ·
    have hq0:(vaN l (p+1) 0 4000).2.2=0:=by omega
    rw [hq0] at S16;refine j_ (hK25 _ _ (a_ fun K29 hK29=>a_ fun K30 hK30=>Rm Z Z (L_y (ah_ Z Z) Z (f_ (hK30 _ _ ?_)))));refine m_ Z (fun h34=>?_) (fun h34=>?_)
    ·
     refine a_ fun K31 hK31=>b_ (L_y (y_ Z (show _=some #[Value.bool false,Value.int .i64 0,Value.int .i64 0,Value.slice none 0 0] by kernel_rfl)) Z (L_o (B_ S16 1 Z Z Z br_ Z (by first | exact bC_ _ | (intro u hu;simp at hu;rcases hu with rfl | rfl | rfl | rfl <;> rfl)) fun w18 S18=>?_)));refine Lan Z Z (hK31 _ _ (l_ (ur (X_ Z Z Z (S18.blk 1 Z) Tryz.underlying221 Z (by exact br_) ?_))));rw [dR_ (by omega) (by omega),fQ_ hq0 (by omega)];exact ⟨_,rfl,S18.turned1 0 Z,zP,rfl,rfl,dY_ _,fun i hi=>gK_ hi⟩
    ·
     refine j_ (hK29 _ _ (a_ fun K32 hK32=>a_ fun K33 hK33=>b_ (L_y (d_ 0 Tryz.underlying221 Z sz4 Z Z Z) Z (L_y (p_ Tryz.underlying4 Z Z (((S16.blk 2 Z).cell _).trans (by rfl))) Z ?_))));refine L_y ((by first | exact aC_ Z | exact aZ_ Z)) Z ?_;refine f_ (hK33 _ _ (U_ Z (a_ fun K34 hK34=>Rm Z Z (Lm Z Z (L_o (o_ Tryz.func104 Z Z (rraw g A n c l _ _ _ w16 (S16.get 0 Z) (by omega) (by omega) (by omega)) Z Z ?_))))));rintro e19 w19 ⟨v19,rfl,T19,B7,d7,rfl,hr19,hd19⟩;refine ⟨_,rfl,(have S19:=S16.turn 0 Z T19;have S20:=St.newT S16 0 Z T19 (fun i hi=>hi) hr19 (fun i hi=>⟨hd19 i hi,(World.ownsRow.lt hr19 i hi).2⟩);have hdR:=fun i hi=>Nat.le_trans S16.size (hd19 i hi);have hRP:=jm_ l (vaN l (p+1) 0 4000).2.1 0 ((vaN l (p+1) 0 4000).1:Int) (by omega);L_y (d_ 3 Tryz.underlying221 Z bi_ Z Z Z) Z (L_o (Y_ S20 2 Z Z Z Z bi_ (by simp;done) fun w21 S21=>?_)))⟩;refine f_ (hK34 _ _ (a_ fun K35 hK35=>dP_ [0,1,2] 3 [(0,1),(1,1),(2,2),(3,3),(4,3)] aJ_ (by kernel_rfl) fun w22 l22=>have S22:=S21.like l22;gx_ (Like w22) (Like.refl _) (S_ Z (W_ Tryz.underlying221 Z br_ Z (S22.blk 2 Z) (show _=(opf ⟨false,0,0,⟨B7,(rnL l (vaN l (p+1) 0 4000).2.1 0 ((vaN l (p+1) 0 4000).1:Int)).length,d7,rnL l (vaN l (p+1) 0 4000).2.1 0 ((vaN l (p+1) 0 4000).1:Int)⟩⟩)∧_ from ⟨rfl,rfl⟩)) Z (S_ Z (r_ Z) Z (ga_ Z (o_ Tryz.func128 Z Z (rerr g A n c l _ _ w22 (S22.get 0 Z) (by omega)) Z Z ?_))))));rintro e23 w23 ⟨v23,rfl,l23,rfl⟩;refine ⟨_,rfl,l23,(have S23:=S22.like l23;have q23:=l23;gw_ Z (B_ S23 1 Z Z Z br_ Z (by first | exact bC_ _ | (intro u hu;simp at hu;rcases hu with rfl | rfl | rfl | rfl <;> rfl)) fun w24 S24=>?_))⟩;refine dO_ Z (I_ Z) Z (cH_ (hK35 _ _ (l_ (ur (X_ Z Z Z (S24.blk 1 Z) Tryz.underlying221 Z (by exact br_) ?_)))));rw [dR_ (by omega) (by omega),hk_ hq0 (by omega)];exact ⟨_,rfl,S24.turned1 0 Z,⟨false,0,0,⟨B7,_,d7,rnL l (vaN l (p+1) 0 4000).2.1 0 ((vaN l (p+1) 0 4000).1:Int)⟩⟩,rfl,rfl,S24.get 3 Z,fun i hi=>hdR i hi⟩
end Del
namespace Del
open Go.RowKit Zk Zx Oct
theorem vaN_ge (d:List UInt8) (p q m:Nat):p≤(vaN d p q m).2.1:=by
  unfold vaN
  repeat' split
  all_goals simp only;omega
theorem rdN_ok {d:List UInt8} {p q:Nat} {base f:Int} {cp:Bool} (hp:p≤d.length) (h:(rdN d p q base f cp).e=0):(rdN d p q base f cp).q=0∧p≤(rdN d p q base f cp).p∧(rdN d p q base f cp).p≤d.length∧1≤szV (rdN d p q base f cp).o:=by
  have hg:=vaN_ge d p q 4000
  have hl:=bP_ d p q 4000 hp
  by_cases h1:(vaN d p q 4000).2.2=0
  · by_cases h2:(vaN d p q 4000).1=0
    · rw [fQ_ h1 h2] at h
      exact absurd h (by show ¬ (12:Int)=0;decide)
    · cases cp with
      | true =>
        by_cases h3:base - ((vaN d p q 4000).1:Int) < f
        · rw [kQ_ h1 h2 h3] at h
          exact absurd h (by show ¬ (21:Int)=0;decide)
        · rw [rdN_cp h1 h2 h3]
          exact ⟨rfl,hg,hl,by show (1:Int)≤((vaN d p q 4000).1:Int);omega⟩
      | false =>
        rw [hk_ h1 h2] at h ⊢
        have h':rnE d (vaN d p q 4000).2.1 0 ((vaN d p q 4000).1:Int)=0:=by
          have:(rnE d (vaN d p q 4000).2.1 0 ((vaN d p q 4000).1:Int):Int)=0:=h
          omega
        by_cases h4:(vaN d p q 4000).1≤d.length - (vaN d p q 4000).2.1
        · obtain ⟨e1,e2,e3⟩:=rn_ok h4
          rw [e1,e2,e3]
          refine ⟨rfl,(by show p≤_+_;omega),(by show _+_≤d.length;omega),?_⟩
          show (1:Int)≤((((d.drop (vaN d p q 4000).2.1).take (vaN d p q 4000).1).length:Nat):Int)
          rw [List.length_take,List.length_drop]
          omega
        · obtain ⟨e1,e2,e3⟩:=rn_no h4
          rw [e3] at h'
          exact absurd h' (by decide)
  · rw [hl_ h1] at h
    have:((vaN d p q 4000).2.2:Int)=0:=h
    omega
theorem rdO_ok {d:List UInt8} {p:Nat} {x:UInt8} {base:Int} (hx:d[p]?=some x) (h:(rdO d p x base).e=0):(rdO d p x base).q=0∧p < (rdO d p x base).p∧(rdO d p x base).p≤d.length∧1≤szV (rdO d p x base).o:=by
  have hp:=(List.getElem?_eq_some_iff.1 hx).1
  by_cases h1:1 < x.toNat
  · rw [kP_ h1] at h
    exact absurd h (by show ¬ (19:Int)=0;decide)
  · by_cases h2:x.toNat=1
    · rw [ey_ h2] at h ⊢
      have hg:=vaN_ge d (p+1) 0 4000
      obtain ⟨e1,e2,e3,e4⟩:=rdN_ok (bP_ d (p+1) 0 4000 (by omega)) h
      exact ⟨e1,by omega,e3,e4⟩
    · rw [dR_ h1 h2] at h ⊢
      obtain ⟨e1,e2,e3,e4⟩:=rdN_ok (by omega) h
      exact ⟨e1,by omega,e3,e4⟩
def rdL (d:List UInt8) (base:Int):Nat→Nat→Int→List OV × Int
  | 0,_,left=>([],if 0 < left then 10 else 0)
  | f + 1,p,left=>match d[p]? with
    | none=>([],if 0 < left then 10 else 0)
    | some x=>if (rdO d p x base).e≠0 then ([],(rdO d p x base).e) else if left < szV (rdO d p x base).o then ([],3)
      else ((rdO d p x base).o::(rdL d base f (rdO d p x base).p (left - szV (rdO d p x base).o)).1,(rdL d base f (rdO d p x base).p (left - szV (rdO d p x base).o)).2)
theorem rdL_end {d:List UInt8} {base:Int} {f p:Nat} {left:Int} (h:d.length≤p):rdL d base f p left=([],if 0 < left then 10 else 0):=by
  cases f with
  | zero=>rfl
  | succ f=>unfold rdL;rw [List.getElem?_eq_none h]
theorem rdL_err {d:List UInt8} {base:Int} {f p:Nat} {left:Int} {x:UInt8} (hx:d[p]?=some x) (h:(rdO d p x base).e≠0):rdL d base (f+1) p left=([],(rdO d p x base).e):=by
  conv=>lhs;unfold rdL
  rw [hx]
  exact if_pos h
theorem rdL_long {d:List UInt8} {base:Int} {f p:Nat} {left:Int} {x:UInt8} (hx:d[p]?=some x) (h:(rdO d p x base).e=0) (h2:left < szV (rdO d p x base).o):rdL d base (f+1) p left=([],3):=by
  conv=>lhs;unfold rdL
  rw [hx]
  show (if _ then _ else _)=_
  rw [if_neg (fun h3=>h3 h),if_pos h2]
theorem rdL_next {d:List UInt8} {base:Int} {f p:Nat} {left:Int} {x:UInt8} (hx:d[p]?=some x) (h:(rdO d p x base).e=0) (h2:¬ left < szV (rdO d p x base).o):rdL d base (f+1) p left=((rdO d p x base).o::(rdL d base f (rdO d p x base).p (left - szV (rdO d p x base).o)).1,(rdL d base f (rdO d p x base).p (left - szV (rdO d p x base).o)).2):=by
  conv=>lhs;unfold rdL
  rw [hx]
  show (if _ then _ else _)=_
  rw [if_neg (fun h3=>h3 h),if_neg h2]
def RDI (d:List UInt8) (base:Int) (p:Nat) (left:Int) (ops:List OV) (r:List OV × Int):Prop:=∃ f,d.length - p≤f∧(ops++(rdL d base f p left).1,(rdL d base f p left).2)=r
section
variable {d : List UInt8} {base : Int} {p : Nat} {left : Int} {ops : List OV} {r : List OV × Int} {x : UInt8}
theorem RDI.start (d:List UInt8) (base:Int) (p:Nat) (left:Int):RDI d base p left [] (rdL d base d.length p left):=⟨d.length,by omega,rfl⟩
theorem RDI.stop (h:RDI d base p left ops r) (hp:d.length≤p):r=(ops,if 0 < left then 10 else 0):=by
  obtain ⟨f,h1,h2⟩:=h
  rw [rdL_end hp,List.append_nil] at h2
  exact h2.symm
theorem RDI.err (h:RDI d base p left ops r) (hx:d[p]?=some x) (he:(rdO d p x base).e≠0):r=(ops,(rdO d p x base).e):=by
  have hp:=(List.getElem?_eq_some_iff.1 hx).1
  obtain ⟨f,h1,h2⟩:=h
  obtain ⟨g,rfl⟩:∃ g,f=g+1:=⟨f - 1,by omega⟩
  rw [rdL_err hx he,List.append_nil] at h2
  exact h2.symm
theorem RDI.long (h:RDI d base p left ops r) (hx:d[p]?=some x) (he:(rdO d p x base).e=0) (hs:left < szV (rdO d p x base).o):r=(ops,3):=by
  have hp:=(List.getElem?_eq_some_iff.1 hx).1
  obtain ⟨f,h1,h2⟩:=h
  obtain ⟨g,rfl⟩:∃ g,f=g+1:=⟨f - 1,by omega⟩
  rw [rdL_long hx he hs,List.append_nil] at h2
  exact h2.symm
theorem RDI.next (h:RDI d base p left ops r) (hx:d[p]?=some x) (he:(rdO d p x base).e=0) (hs:¬ left < szV (rdO d p x base).o):RDI d base (rdO d p x base).p (left - szV (rdO d p x base).o) (ops++[(rdO d p x base).o]) r:=by
  have hp:=(List.getElem?_eq_some_iff.1 hx).1
  have ho:=rdO_ok hx he
  obtain ⟨f,h1,h2⟩:=h
  obtain ⟨g,rfl⟩:∃ g,f=g+1:=⟨f - 1,by omega⟩
  rw [rdL_next hx he hs] at h2
  exact ⟨g,by omega,by rw [← h2,List.append_assoc];rfl⟩
end
def rdR (d:List UInt8):List OV × Int:=rdL d ((vaN d 0 0 4000).1:Int) d.length (vaN d (vaN d 0 0 4000).2.1 (vaN d 0 0 4000).2.2 4000).2.1 ((vaN d (vaN d 0 0 4000).2.1 (vaN d 0 0 4000).2.2 4000).1:Int)
def aj_ (d:List UInt8):Int × Int × List OV × Int :=
  if (vaN d (vaN d 0 0 4000).2.1 (vaN d 0 0 4000).2.2 4000).2.2≠0 then (0,0,[],(vaN d (vaN d 0 0 4000).2.1 (vaN d 0 0 4000).2.2 4000).2.2)
  else if (rdR d).2≠0 then (0,0,[],(rdR d).2) else ((vaN d 0 0 4000).1,(vaN d (vaN d 0 0 4000).2.1 (vaN d 0 0 4000).2.2 4000).1,(rdR d).1,0)
theorem iF_ {d:List UInt8} (h:(vaN d (vaN d 0 0 4000).2.1 (vaN d 0 0 4000).2.2 4000).2.2≠0):aj_ d=(0,0,[],((vaN d (vaN d 0 0 4000).2.1 (vaN d 0 0 4000).2.2 4000).2.2:Int)):=by unfold aj_;rw [if_pos h]
theorem aS_ {d:List UInt8} (h:(vaN d (vaN d 0 0 4000).2.1 (vaN d 0 0 4000).2.2 4000).2.2=0) {ops:List OV} {e:Int} (h2:rdR d=(ops,e)) (he:e≠0):aj_ d=(0,0,[],e):=by unfold aj_;rw [if_neg (by omega),h2,if_pos he]
theorem hj_ {d:List UInt8} (h:(vaN d (vaN d 0 0 4000).2.1 (vaN d 0 0 4000).2.2 4000).2.2=0) {ops:List OV} (h2:rdR d=(ops,0)):aj_ d=(((vaN d 0 0 4000).1:Int),((vaN d (vaN d 0 0 4000).2.1 (vaN d 0 0 4000).2.2 4000).1:Int),ops,0):=by unfold aj_;rw [if_neg (by omega),h2,if_neg (fun h3=>h3 Z)]
end Del
namespace Del
open Go.RowKit Zk Zx Oct
theorem xbig1 (g:Nat) (A:Option Addr) (n c:Nat) (l:List UInt8) (p:Nat) (x:UInt8) (w0:World) (hw:(xr g A n c p 0).holds w0) (hb:Rs w0 1 A n c (bL l)) (hx:l[p]?=some x) (hn62:n≤70368744177664) (hbg:∀ ad,0 < n→A=some ad→ad.block≠g) :
    Calls Tryz.prog 100 #[.pointer (some ⟨g,0,none⟩),.int .i64 1] w0 fun e w'=>∃ u,e=.returned u∧u=.int .u64 (x.toNat:Int)∧Turned w0 w' (xr g A n c p 0) (xr g A n c (p+1) 0):=by
  have hp:=(List.getElem?_eq_some_iff.1 hx).1
  refine (xbig g A n c l p 0 1 w0 hw hb (by omega) hn62 hbg (by omega)).mono fun e w' ⟨u,h1,h2,h3⟩=>⟨u,h1,?_,?_⟩
  · obtain ⟨y,hy,htk,_⟩:=hO_ (show 1≤l.length - p by omega)
    rw [hx] at hy
    obtain rfl:=Option.some.inj hy
    rw [h2,rwL,if_pos Z,htk]
    simp [be]
  · rw [show rwP l p 0 1=p+1 by rw [rwP,if_pos Z,tkP,if_pos (by omega)],show rwE l p 0 1=0 by rw [rwE,if_pos Z,fM_ (by omega)]] at h3
    exact h3
end Del
namespace Del
open Go.RowKit Zk Zx Oct
theorem fK_ {d rest:List UInt8} {p v M:Nat} (h:d.drop p=vr v++rest) (hv:v≤M) (h64:v≤18446744073709551615):vaN d p 0 M=(v,p+(vr v).length,0):=by
  unfold vaN
  rw [if_neg (by omega),h,jy_ rest v h64,if_neg (by show ¬ (0:Nat)≠0;omega),if_neg (by show ¬ M < v;omega)]
theorem drop_hd {d:List UInt8} {p:Nat} {x:UInt8} (hx:d[p]?=some x):d.drop p=x::d.drop (p+1):=by
  obtain ⟨h1,h2⟩:=List.getElem?_eq_some_iff.1 hx
  rw [← h2,List.getElem_cons_drop]
theorem rdO_back {d rest:List UInt8} {p:Nat} {o:OV} {base:Int} (hr:rtV base o=true) (hs:szV o≤4000) (hb:base≤4000) (h:d.drop p=eo_ o++rest):∃ x,d[p]?=some x∧rdO d p x base=⟨o,p+(eo_ o).length,0,0⟩:=by
  cases hc:o.cp with
  | true =>
    obtain ⟨h1,h2,h3,h4,h5⟩:=rtV_cp hr hc
    obtain ⟨cp,fr,n,l⟩:=o
    have hc':cp=true:=hc
    have h5':l=[]:=h5
    subst hc' h5'
    have h1':1≤n:=h1
    have h3':0≤fr:=h3
    have h4':fr≤base - n:=h4
    have he:eo_ ⟨true,fr,n,[]⟩=1::(vr fr.toNat++vr n.toNat):=by unfold eo_;rw [if_pos Z]
    rw [he] at h ⊢
    have hx:d[p]?=some 1:=by
      have:=congrArg (fun z=>z[0]?) h
      simpa using this
    refine ⟨1,hx,?_⟩
    have hd:d.drop (p+1)=vr fr.toNat++(vr n.toNat++rest):=by
      have h9:=drop_hd hx
      rw [h] at h9
      have h8:=(List.cons.inj h9).2
      rw [← h8,List.append_eq,List.append_assoc]
    have v1:=fK_ (M:=4000) hd (by omega) (by omega)
    have hd2:d.drop (p+1+(vr fr.toNat).length)=vr n.toNat++rest:=by
      rw [← List.drop_drop,hd,List.drop_left]
    have v2:=fK_ (M:=4000) hd2 (by omega) (by omega)
    rw [ey_ Z,v1]
    show rdN d (p+1+(vr fr.toNat).length) 0 base ((fr.toNat:Nat):Int) true=_
    rw [rdN_cp (by rw [v2]) (by rw [v2];show ¬ n.toNat=0;omega) (by rw [v2];show ¬ base - (n.toNat:Int) < (fr.toNat:Int);omega),v2]
    have e1:((fr.toNat:Nat):Int)=fr:=by omega
    have e2:((n.toNat:Nat):Int)=n:=by omega
    show RO.mk ⟨true,((fr.toNat:Nat):Int),((n.toNat:Nat):Int),[]⟩ (p+1+(vr fr.toNat).length+(vr n.toNat).length) 0 0=_
    rw [e1,e2]
    congr 1
    simp
    omega
  | false =>
    obtain ⟨h1,h2,h3⟩:=rtV_new hr hc
    obtain ⟨cp,fr,n,l⟩:=o
    have hc':cp=false:=hc
    have h2':fr=0:=h2
    have h3':n=0:=h3
    subst hc' h2' h3'
    have h1':1≤l.length:=h1
    have hs':(l.length:Int)≤4000:=hs
    have he:eo_ ⟨false,0,0,l⟩=0::(vr l.length++l):=by unfold eo_;rw [if_neg Bool.false_ne_true]
    rw [he] at h ⊢
    have hx:d[p]?=some 0:=by
      have:=congrArg (fun z=>z[0]?) h
      simpa using this
    refine ⟨0,hx,?_⟩
    have hd:d.drop (p+1)=vr l.length++(l++rest):=by
      have h9:=drop_hd hx
      rw [h] at h9
      have h8:=(List.cons.inj h9).2
      rw [← h8,List.append_eq,List.append_assoc]
    have v1:=fK_ (M:=4000) hd (by omega) (by omega)
    have hd2:d.drop (p+1+(vr l.length).length)=l++rest:=by
      rw [← List.drop_drop,hd,List.drop_left]
    have hlen:l.length≤d.length - (p+1+(vr l.length).length):=by
      have:=congrArg List.length hd2
      rw [List.length_drop,List.length_append] at this
      omega
    obtain ⟨e1,e2,e3⟩:=rn_ok hlen
    rw [dR_ (by decide) (by decide),hk_ (by rw [v1]) (by rw [v1];show ¬ l.length=0;omega),v1]
    show RO.mk ⟨false,0,0,rnL d (p+1+(vr l.length).length) 0 (l.length:Int)⟩ (rnP d (p+1+(vr l.length).length) 0 (l.length:Int)) (rnE d (p+1+(vr l.length).length) 0 (l.length:Int)) (rnE d (p+1+(vr l.length).length) 0 (l.length:Int):Int)=_
    rw [e1,e2,e3,hd2,List.take_left]
    congr 1
    simp
    omega
theorem enc_pos (o:OV):1≤(eo_ o).length:=by
  unfold eo_
  split <;> simp
theorem rdL_back {d:List UInt8} {base:Int} (hb:base≤4000):∀ (l:List OV) (f p:Nat) (left:Int),bG_ base left l=true→left≤4000→d.drop p=l.flatMap eo_→d.length - p≤f→rdL d base f p left=(l,0)
  | [],f,p,left,hc,hl,hd,hf=>by
    unfold bG_ at hc
    have h0:=of_decide_eq_true hc
    rw [rdL_end (List.drop_eq_nil_iff.1 hd),if_neg (by omega)]
  | o::r,f,p,left,hc,hl,hd,hf=>by
    unfold bG_ at hc
    rw [Bool.and_eq_true,Bool.and_eq_true] at hc
    have hs:=of_decide_eq_true hc.1.2
    have hz:=cS_ hc.1.1
    rw [List.flatMap_cons] at hd
    obtain ⟨x,hx,he⟩:=rdO_back hc.1.1 (by omega) hb hd
    have hp:=(List.getElem?_eq_some_iff.1 hx).1
    obtain ⟨g,rfl⟩:∃ g,f=g+1:=⟨f - 1,by omega⟩
    have hpos:=enc_pos o
    rw [rdL_next hx (by rw [he]) (by rw [he];show ¬ left < szV o;omega),he]
    have ih:=rdL_back hb r g (p+(eo_ o).length) (left - szV o) hc.2 (by omega) (by rw [← List.drop_drop,hd,List.drop_left]) (by omega)
    show (o::(rdL d base g (p+(eo_ o).length) (left - szV o)).1,(rdL d base g (p+(eo_ o).length) (left - szV o)).2)=_
    rw [ih]
theorem put_read {b t:Int} {l:List OV} (h:ee_ b t l=0):aj_ (bR_ b t l)=(b,t,l,0):=by
  obtain ⟨hrg,hch⟩:=eV_ h
  have e0:(bR_ b t l).drop 0=vr b.toNat++(vr t.toNat++l.flatMap eo_):=by rw [List.drop_zero];unfold bR_;rw [List.append_assoc]
  have v1:=fK_ (M:=4000) e0 (by omega) (by omega)
  rw [Nat.zero_add] at v1
  have e1:(bR_ b t l).drop (vr b.toNat).length=vr t.toNat++l.flatMap eo_:=by
    have:(bR_ b t l).drop (0+(vr b.toNat).length)=vr t.toNat++l.flatMap eo_:=by rw [← List.drop_drop,e0,List.drop_left]
    rwa [Nat.zero_add] at this
  have v2:=fK_ (M:=4000) e1 (by omega) (by omega)
  have e2:(bR_ b t l).drop ((vr b.toNat).length+(vr t.toNat).length)=l.flatMap eo_:=by rw [← List.drop_drop,e1,List.drop_left]
  have hb:((b.toNat:Nat):Int)=b:=by omega
  have ht:((t.toNat:Nat):Int)=t:=by omega
  have hr:rdR (bR_ b t l)=(l,0):=by
    unfold rdR
    rw [v1]
    show rdL (bR_ b t l) ((b.toNat:Nat):Int) _ (vaN (bR_ b t l) (vr b.toNat).length 0 4000).2.1 ((vaN (bR_ b t l) (vr b.toNat).length 0 4000).1:Int)=_
    rw [v2]
    show rdL (bR_ b t l) ((b.toNat:Nat):Int) _ ((vr b.toNat).length+(vr t.toNat).length) ((t.toNat:Nat):Int)=_
    rw [hb,ht]
    exact rdL_back (by omega) l _ _ t hch (by omega) e2 (by omega)
  have hq:(vaN (bR_ b t l) (vaN (bR_ b t l) 0 0 4000).2.1 (vaN (bR_ b t l) 0 0 4000).2.2 4000).2.2=0:=by
    rw [v1]
    show (vaN (bR_ b t l) (vr b.toNat).length 0 4000).2.2=0
    rw [v2]
  rw [hj_ hq hr,v1]
  show (((b.toNat:Nat):Int),((vaN (bR_ b t l) (vr b.toNat).length 0 4000).1:Int),l,0)=_
  rw [v2]
  show (((b.toNat:Nat):Int),((t.toNat:Nat):Int),l,0)=_
  rw [hb,ht]
end Del
namespace Del
open Go.RowKit Zk Zx Oct
end Del
namespace Del
open Go.RowKit Zk Zx Oct
end Del
namespace Del
open Go.RowKit Zk Zx Oct
theorem make_apl {a t:List UInt8} (ha:a.length≤4000) (ht:t.length≤4000):bW_ a a.length t.length (mkV a t)=(t,0):=by
  rw [cy_ (lc_ ha ht) Z,(hu_ a t).2]
theorem pputM {x y:List UInt8} (hx:x.length≤400) (hy:y.length≤400) (A:Option Addr) (c:Nat) (l:List OP) (n m:Nat) (w0:World) (hl:Rs w0 4 A l.length c (l.flatMap opf)) (hok:OkO w0 l) (h1:l.map OP.v=mkV x y) (hn:n=x.length) (hm:m=y.length) :
    Calls Tryz.prog 122 #[.agg (scA (n:Int) (m:Int) A l.length c)] w0 fun e w'=>∃ u,e=.returned u∧Like w0 w'∧∃ A' c',u=.tuple #[.slice A' (bR_ x.length y.length (mkV x y)).length c',.int .i64 0]∧w'.ownsRow w0.heap.size 5 1 (.slice A' (bR_ x.length y.length (mkV x y)).length c') (bR_ x.length y.length (mkV x y)).length (bL (bR_ x.length y.length (mkV x y))):=by
  subst hn hm
  have e1:l.length≤4000:=by have:=mkV_cnt (a:=x) (t:=y);rw [← h1,List.length_map] at this;omega
  have h:=pput A l.length c l (x.length:Int) (y.length:Int) w0 hl hok e1
  rw [h1,jq_ (lc_ (by omega) (by omega))] at h
  exact h
end Del
namespace Zx
open Go.RowKit Zk
def upB (a:List UInt8) (v:Value) (D:List (List UInt8 × Value)):List (List UInt8 × Value):=match ez_ a D 0 with
  | some (i,_)=>D.set i (a,v)
  | none=>D++[(a,v)]
section
variable {P : Program} {N : Nat} {Q : Post} {env : Env} {w w0 : World} {M : Nat → Prop} {rs : List Res} {K : Env → World → Prop} {d : Tmp} {ty : TypeId} {pos : String} {after : Array Edge} {g : Option (Nat × Bool)} {dst : Option Tmp}
theorem o_mapUpB {t k e u:TypeId} {n b:Nat} {D:List (List UInt8 × Value)} {m x v:Operand} {a:List UInt8} {new:Value} (S:St w0 M rs w) (j:Nat) (hj:rs[j]?=some (eP_ n b D)) (ht:P.underlying t=some (.map k e)) (hk:P.underlying k=some (.array n u)) (hu:P.underlying u=some (.int .u8)) (hs:(P.info? u).map (·.size)=some 1)
    (hm:ev env m=some (.map (some b))) (hx:ev env x=some (.agg (bA a))) (hv:ev env v=some new) (ha:a.length=n)
    (h:∀ w',St w0 M (rs.set j (eP_ n b (upB a new D))) w'→K env w') :
    O P N Q ⟨none,.mapUpdate t m x v,ty,pos,after,g⟩ env w K:=fun c hc=>by
  have hw:=S.get j hj
  have hf:=hR_ (P:=P) hk hu hs a ha w D hw.2
  have hbl:b < w.heap.size:=(Array.getElem?_eq_some_iff.1 hw.1).1
  unfold Oper.wp execOp
  simp only [hc.eval hm,hc.eval hx,hc.eval hv,Instr.mapUpdate,Sem.run_bind,run_underlying ht,Result.andThen_ok,getM hw.1,Sem.run_pure,gH_ hk hu hs a ha w,hf]
  have fin:∀ D',upB a new D=D'→(∀ p ∈ D',p.1.length=n)→St w0 M (rs.set j (eP_ n b (upB a new D))) { w with heap:=w.heap.setIfInBounds b (.map (aP_ D').toArray D'.length)}:=fun D' e hD'=>by
    rw [e]
    exact S.upd j hj Z Z Z (by simp) (fun i hi hn=>ex_ w b _ i hn) ⟨by
      show (w.heap.setIfInBounds b _)[b]?=_
      rw [Array.getElem?_setIfInBounds_self_of_lt hbl],hD'⟩ fun i hi=>.inl hi
  cases hp:ez_ a D 0 with
  | some p =>
    obtain ⟨i,v0⟩:=p
    obtain ⟨_,hi⟩:=dT_ hp
    rw [Nat.sub_zero] at hi
    have hil:=(List.getElem?_eq_some_iff.1 hi).1
    have hg:(aP_ D).toArray[i]?=some ⟨.agg (bA a),v0,i⟩:=by rw [List.getElem?_toArray,ef_,hi];rfl
    have hnew:((aP_ D).toArray.modify i fun e=>{ e with key:=Value.agg (bA a),val:=new })=(aP_ (D.set i (a,new))).toArray:=by
      apply Array.ext_getElem?
      intro q
      rw [Array.getElem?_modify,List.getElem?_toArray,List.getElem?_toArray,ef_,ef_]
      by_cases e:i=q
      · subst e
        rw [if_pos Z,List.getElem?_set_self hil,hi]
        rfl
      · rw [if_neg e,List.getElem?_set_ne e]
    simp only [hg,Option.map_some,Option.getD_some,Instr.keyThatStays,kj_,if_true,Sem.run_pure,Sem.run_bind,Result.andThen_ok,hnew,setM _ hw.1]
    have h9:=fin (D.set i (a,new)) (by unfold upB;rw [hp]) (fun p hp=>by
      rcases List.mem_or_eq_of_mem_set hp with q | q
      · exact hw.2 p q
      · subst q;exact ha)
    rw [List.length_set] at h9
    exact ⟨_,hc,h _ h9⟩
  | none =>
    have hnew:(aP_ D).toArray.push { key:=Value.agg (bA a),val:=new,born:=D.length }=(aP_ (D++[(a,new)])).toArray:=by
      unfold aP_
      rw [List.zipIdx_append,List.map_append]
      simp
    simp only [Sem.run_pure,Sem.run_bind,Result.andThen_ok,hnew,setM _ hw.1]
    have h9:=fin (D++[(a,new)]) (by unfold upB;rw [hp]) (fun p hp=>by
      rcases List.mem_append.1 hp with q | q
      · exact hw.2 p q
      · obtain rfl:=List.mem_singleton.1 q
        exact ha)
    rw [List.length_append] at h9
    exact ⟨_,hc,h _ h9⟩
theorem y_lenB {x:Operand} {t k e:TypeId} {n b:Nat} {D:List (List UInt8 × Value)} (hw:(eP_ n b D).holds w) (ht:P.underlying t=some (.map k e)) (hx:ev env x=some (.map (some b))) :
    Y P (Like w) env ⟨dst,.call { callee:=.builtin .len,args := #[x],argTypes := #[t]},ty,pos,after,g⟩ (.int .i64 (D.length:Int)):=fun N a w' ha hl=>by
  have hh:w'.heap[b]?=some (.map (aP_ D).toArray D.length):=by
    have hb:b < w.heap.size:=(Array.getElem?_eq_some_iff.1 hw.1).1
    rw [hl.block b hb];exact hw.1
  have h1:(Builtin.len_ #[t] ty #[.map (some b)]).run P w'=.ok (.int .i64 (D.length:Int)) w':=by
    simp [Builtin.len_,run_underlying ht,getM hh,goInt,entB_len]
  simp only [execOp,resolve,invoke,builtin,Sem.run_bind,Sem.run_pure,Result.andThen_ok,List.map_toArray,List.map_cons,List.map_nil,ha.eval hx,h1]
theorem upB_new {a:List UInt8} {v:Value} {D:List (List UInt8 × Value)} (h:∀ p ∈ D,p.1≠a):upB a v D=D++[(a,v)]:=by
  unfold upB
  cases hp:ez_ a D 0 with
  | none=>rfl
  | some p =>
    obtain ⟨i,v0⟩:=p
    obtain ⟨_,hi⟩:=dT_ hp
    exact absurd Z (h _ (List.mem_of_getElem? hi))
theorem upB_old {a:List UInt8} {v:Value} {D:List (List UInt8 × Value)} (h:∃ p ∈ D,p.1=a):(upB a v D).length=D.length:=by
  unfold upB
  cases hp:ez_ a D 0 with
  | none =>
    obtain ⟨p,h1,h2⟩:=h
    exact absurd h2 (hU_ hp p h1)
  | some p=>simp
theorem upB_mem {a:List UInt8} {v:Value} {D:List (List UInt8 × Value)} (x:List UInt8):x ∈ (upB a v D).map (·.1)↔x=a∨x ∈ D.map (·.1):=by
  unfold upB
  cases hp:ez_ a D 0 with
  | none=>simp [or_comm]
  | some p =>
    obtain ⟨i,v0⟩:=p
    obtain ⟨_,hi⟩:=dT_ hp
    rw [Nat.sub_zero] at hi
    obtain ⟨hil,he⟩:=List.getElem?_eq_some_iff.1 hi
    have e:(D.set i (a,v)).map (·.1)=D.map (·.1):=by
      rw [List.map_set]
      apply List.ext_getElem?
      intro q
      rw [List.getElem?_set]
      split
      · rename_i hq
        subst hq
        rw [if_pos (by simpa using hil),List.getElem?_map,hi]
        rfl
      · rfl
    show x ∈ (D.set i (a,v)).map (·.1)↔_
    rw [e]
    refine ⟨.inr,fun h=>h.elim (fun q=>?_) id⟩
    subst q
    exact List.mem_map.2 ⟨_,List.mem_of_getElem? hi,rfl⟩
def setB (l:List (List UInt8)):List (List UInt8 × Value):=l.foldl (fun D a=>upB a (.bool true) D) []
theorem kh_ (l:List (List UInt8)) (a:List UInt8):setB (l++[a])=upB a (.bool true) (setB l):=by simp [setB,List.foldl_append]
theorem setB_all (l:List (List UInt8)):(∀ x,x ∈ (setB l).map (·.1)↔x ∈ l)∧(setB l).length≤l.length∧((setB l).length=l.length↔l.Nodup):=by
  induction hn:l.length generalizing l with
  | zero =>
    have:l=[]:=List.length_eq_zero_iff.1 hn
    subst this
    exact ⟨fun x=>by simp [setB],by simp [setB],by simp [setB]⟩
  | succ n ih =>
    obtain ⟨l,a,rfl⟩:∃ l' a,l=l'++[a]:=⟨l.dropLast,l.getLast (fun e=>by simp [e] at hn),(List.dropLast_concat_getLast _).symm⟩
    have hl:l.length=n:=by simpa using hn
    obtain ⟨h1,h2,h3⟩:=ih l hl
    rw [kh_]
    refine ⟨fun x=>by rw [upB_mem,h1];simp [or_comm],?_,?_⟩
    · by_cases hm:a ∈ l
      · obtain ⟨p,hp,e⟩:=List.mem_map.1 ((h1 a).2 hm)
        rw [upB_old ⟨p,hp,e⟩];omega
      · rw [upB_new (fun p hp e=>hm ((h1 a).1 (List.mem_map.2 ⟨p,hp,e⟩)))];simp;omega
    · by_cases hm:a ∈ l
      · obtain ⟨p,hp,e⟩:=List.mem_map.1 ((h1 a).2 hm)
        rw [upB_old ⟨p,hp,e⟩]
        refine ⟨fun q=>by omega,fun q=>?_⟩
        rw [List.nodup_append] at q
        exact absurd Z (q.2.2 a hm a (by simp))
      · rw [upB_new (fun p hp e=>hm ((h1 a).1 (List.mem_map.2 ⟨p,hp,e⟩))),List.nodup_append]
        simp only [List.length_append,List.length_singleton,Nat.add_right_cancel_iff]
        rw [h3]
        refine ⟨fun q=>⟨q,by simp,fun x hx y hy e=>?_⟩,fun q=>q.1⟩
        obtain rfl:=List.mem_singleton.1 hy
        exact hm (e ▸ hx)
end
end Zx
namespace Pak
open Go.RowKit Zk Zx
open Sha (N)
open Go.Proofs.YtgaklngnfecdaaaGreat.Obj (ai_ bV_ aT_ Z_ aN_ be_ zB)
open Del (mkV bR_)
structure It where
  kind:Int
  p:Part
abbrev IV:=Int × List UInt8
def It.v (x:It):IV:=(x.kind,x.p.l)
def itf (x:It):List Value:=[.int .i64 x.kind,pv x.p]
theorem hx_ (x:It):(itf x).length=2:=rfl
theorem iM_ (x:It):∀ u ∈ itf x,u.oneCell'=true:=fun u hu=>by
  simp [itf,pv] at hu
  rcases hu with rfl | rfl <;> rfl
def OkI (w:World) (l:List It):Prop:=∀ x ∈ l,x.p.ok w
theorem OkI.like {w w':World} {l:List It} (h:OkI w l) (lk:Like w w'):OkI w' l:=fun x hx=>Rs.like (h x hx) lk
theorem OkI.at {w:World} {l:List It} (h:OkI w l) {k:Nat} {x:It} (hx:l[k]?=some x):x.p.ok w:=h x (List.mem_of_getElem? hx)
theorem hw_ {w:World} {A:Option Addr} {n c:Nat} {l:List It} (h:Rs w 2 A n c (l.flatMap itf)):n=l.length:=by
  have h2:(l.flatMap itf).length=n*2:=h.len
  rw [hB_ itf 2 hx_] at h2
  omega
def nmE:List IV→Int
  | []=>0
  | x::r=>if ai_ x.1 x.2≠0 then ai_ x.1 x.2 else nmE r
def idB (x:IV):List Value:=bL (aT_ x.1 x.2)
theorem iO_ (x:IV):(idB x).length=32:=by unfold idB;rw [length_bL,Z_]
def gQ_ (l:List IV):List (List UInt8):=l.map fun x=>aT_ x.1 x.2
def cB_ (l:List IV):Int:=if nmE l≠0 then nmE l else if (gQ_ l).Nodup then 0 else 17
theorem nmE_at:∀ {l:List IV} {k:Nat} {x:IV},(∀ y ∈ l.take k,ai_ y.1 y.2=0)→l[k]?=some x→ai_ x.1 x.2≠0→nmE l=ai_ x.1 x.2
  | y::r,0,x,_,hx,he=>by
    simp at hx
    subst hx
    unfold nmE
    rw [if_pos he]
  | y::r,k+1,x,h,hx,he=>by
    unfold nmE
    rw [if_neg (fun q=>q (h y (by simp)))]
    exact nmE_at (k:=k) (fun z hz=>h z (by simp [hz])) (by simpa using hx) he
theorem jA_:∀ {l:List IV},(∀ x ∈ l,ai_ x.1 x.2=0)→nmE l=0
  | [],_=>rfl
  | y::r,h=>by
    unfold nmE
    rw [if_neg (fun q=>q (h y (by simp)))]
    exact jA_ fun z hz=>h z (by simp [hz])
theorem nmE_all:∀ {l:List IV},nmE l=0→∀ x ∈ l,ai_ x.1 x.2=0
  | y :: r,h,x,hx=>by
    unfold nmE at h
    by_cases he:ai_ y.1 y.2=0
    · rw [if_neg (fun q=>q he)] at h
      rcases List.mem_cons.1 hx with rfl | hx
      · exact he
      · exact nmE_all h x hx
    · rw [if_pos he] at h
      exact absurd h he
theorem nameE_e {l:List IV} (h:nmE l≠0):cB_ l=nmE l:=by unfold cB_;rw [if_pos h]
theorem nameE_17 {l:List IV} (h:nmE l=0) (h2:¬ (gQ_ l).Nodup):cB_ l=17:=by unfold cB_;rw [if_neg (fun q=>q h),if_neg h2]
theorem nameE_0 {l:List IV} (h:nmE l=0) (h2:(gQ_ l).Nodup):cB_ l=0:=by unfold cB_;rw [if_neg (fun q=>q h),if_pos h2]
theorem nameE_ok {l:List IV} (h:cB_ l=0):(∀ x ∈ l,ai_ x.1 x.2=0)∧(gQ_ l).Nodup:=by
  unfold cB_ at h
  by_cases h1:nmE l=0
  · rw [if_neg (fun q=>q h1)] at h
    by_cases h2:(gQ_ l).Nodup
    · exact ⟨nmE_all h1,h2⟩
    · rw [if_neg h2] at h;cases h
  · rw [if_pos h1] at h;exact absurd h h1
structure Ob where
  kind:Int
  l:List UInt8
  dep:Nat
  at_:Nat
  sum:UInt32
def Ob.id (o:Ob):List UInt8:=aT_ o.kind o.l
theorem Ob.id_len (o:Ob):o.id.length=32:=Z_ _ _
def plO (o:Ob):List Value:=bL o.id++[.int .i64 (o.at_:Int),.int .u32 (N o.sum)]
theorem fj_ (o:Ob):(plO o).length=34:=by simp [plO,length_bL,Ob.id_len]
theorem iI_ (o:Ob):∀ u ∈ plO o,u.oneCell'=true:=fun u hu=>by
  rcases List.mem_append.1 hu with h | h
  · exact T_ _ u h
  · simp at h
    rcases h with rfl | rfl <;> rfl
theorem plO_id (o:Ob):((plO o).toArray.toList.drop 0).take 32=bL o.id∧(bL o.id).length=32:=⟨by rw [List.drop_zero];simp [plO,List.take_append,length_bL,Ob.id_len],by rw [length_bL,Ob.id_len]⟩
def bk_ (os:List Ob) (kind chain:Int):Nat→Nat→List Nat
  | 0,_=>[]
  | j+1,seen=>if 4≤seen then [] else match os[j]? with
    | none=>[]
    | some o=>if o.kind≠kind then bk_ os kind chain j seen else (if (o.dep:Int) < chain then [j] else [])++bk_ os kind chain j (seen+1)
section
variable {os : List Ob} {kind chain : Int} {j seen : Nat} {o : Ob}
theorem kG_ (h:4≤seen):bk_ os kind chain j seen=[]:=by
  cases j with
  | zero=>rfl
  | succ j=>unfold bk_;rw [if_pos h]
theorem cand_skip (h:seen < 4) (ho:os[j]?=some o) (hk:o.kind≠kind):bk_ os kind chain (j+1) seen=bk_ os kind chain j seen:=by
  conv=>lhs;unfold bk_
  rw [if_neg (by omega),ho]
  exact if_pos hk
theorem cand_yes (h:seen < 4) (ho:os[j]?=some o) (hk:o.kind=kind) (hd:(o.dep:Int) < chain):bk_ os kind chain (j+1) seen=j::bk_ os kind chain j (seen+1):=by
  conv=>lhs;unfold bk_
  rw [if_neg (by omega),ho]
  show (if o.kind≠kind then _ else _)=_
  rw [if_neg (fun q=>q hk),if_pos hd]
  rfl
theorem cand_no (h:seen < 4) (ho:os[j]?=some o) (hk:o.kind=kind) (hd:¬ (o.dep:Int) < chain):bk_ os kind chain (j+1) seen=bk_ os kind chain j (seen+1):=by
  conv=>lhs;unfold bk_
  rw [if_neg (by omega),ho]
  show (if o.kind≠kind then _ else _)=_
  rw [if_neg (fun q=>q hk),if_neg hd]
  rfl
theorem iR_:∀ (j seen:Nat),∀ k ∈ bk_ os kind chain j seen,k < j∧∃ o,os[k]?=some o∧o.kind=kind∧(o.dep:Int) < chain
  | 0,_,k,hk=>by cases hk
  | j + 1,seen,k,hk=>by
    unfold bk_ at hk
    split at hk
    · cases hk
    · cases ho:os[j]? with
      | none=>rw [ho] at hk;cases hk
      | some o =>
        rw [ho] at hk
        dsimp only at hk
        by_cases hq:o.kind≠kind
        · rw [if_pos hq] at hk
          have:=iR_ j seen k hk
          exact ⟨by omega,this.2⟩
        · rw [if_neg hq] at hk
          rcases List.mem_append.1 hk with hk | hk
          · by_cases hd:(o.dep:Int) < chain
            · rw [if_pos hd] at hk
              obtain rfl:=List.mem_singleton.1 hk
              exact ⟨by omega,o,ho,Classical.not_not.1 hq,hd⟩
            · rw [if_neg hd] at hk;cases hk
          · have:=iR_ j (seen+1) k hk
            exact ⟨by omega,this.2⟩
end
def scB (a x:List UInt8):List UInt8:=bR_ (a.length:Int) (x.length:Int) (mkV a x)
def stepS (os:List Ob) (x:List UInt8) (r:Int × List UInt8) (k:Nat):Int × List UInt8:=match os[k]? with
  | none=>r
  | some o=>if (scB o.l x).length < r.2.length then ((k:Int),scB o.l x) else r
def shF (os:List Ob) (x:List UInt8) (ks:List Nat) (r:Int × List UInt8):Int × List UInt8:=ks.foldl (stepS os x) r
def fL_ (os:List Ob) (chain kind:Int) (x:List UInt8):Int × List UInt8:=shF os x (bk_ os kind chain os.length 0) (-1,x)
theorem jg_ {os:List Ob} {x:List UInt8} {r:Int × List UInt8} {k:Nat} {o:Ob} (ho:os[k]?=some o) (h:(scB o.l x).length < r.2.length):stepS os x r k=((k:Int),scB o.l x):=by
  unfold stepS;rw [ho];exact if_pos h
theorem kM_ {os:List Ob} {x:List UInt8} {r:Int × List UInt8} {k:Nat} {o:Ob} (ho:os[k]?=some o) (h:¬ (scB o.l x).length < r.2.length):stepS os x r k=r:=by
  unfold stepS;rw [ho];exact if_neg h
def ToldOk (os:List Ob) (chain kind:Int) (x:List UInt8) (r:Int × List UInt8):Prop :=
  (r.1 = -1∧r.2=x)∨∃ k o,r.1=((k:Nat):Int)∧os[k]?=some o∧o.kind=kind∧(o.dep:Int) < chain∧r.2=scB o.l x∧r.2.length < x.length
theorem shF_ok {os:List Ob} {chain kind:Int} {x:List UInt8}:∀ (ks:List Nat) (r:Int × List UInt8),(∀ k ∈ ks,∃ o,os[k]?=some o∧o.kind=kind∧(o.dep:Int) < chain)→r.2.length≤x.length→ToldOk os chain kind x r→ToldOk os chain kind x (shF os x ks r)∧(shF os x ks r).2.length≤x.length
  | [],r,_,hl,h=>⟨h,hl⟩
  | k :: ks,r,hk,hl,h=>by
    obtain ⟨o,ho,h1,h2⟩:=hk k (by simp)
    show ToldOk os chain kind x (shF os x ks (stepS os x r k))∧(shF os x ks (stepS os x r k)).2.length≤x.length
    by_cases hs:(scB o.l x).length < r.2.length
    · rw [jg_ ho hs]
      exact shF_ok ks _ (fun q hq=>hk q (by simp [hq])) (by show (scB o.l x).length≤_;omega) (.inr ⟨k,o,rfl,ho,h1,h2,rfl,by show (scB o.l x).length < _;omega⟩)
    · rw [kM_ ho hs]
      exact shF_ok ks r (fun q hq=>hk q (by simp [hq])) hl h
theorem ha_ (os:List Ob) (chain kind:Int) (x:List UInt8):ToldOk os chain kind x (fL_ os chain kind x)∧(fL_ os chain kind x).2.length≤x.length :=
  shF_ok _ _ (fun k hk=>(iR_ _ _ k hk).2) (Nat.le_refl _) (.inl ⟨rfl,rfl⟩)
structure Pk where
  bs:List UInt8
  os:List Ob
def aP_ (k:UInt8) (bk:List UInt8) (load:List UInt8):List UInt8:=[k]++Oct.vr load.length++bk++Oct.tl (bn_ load).toNat 4++load
def ofAt (os:List Ob) (k:Int):Nat:=(os[k.toNat]?.elim 0 Ob.at_)
def ofDep (os:List Ob) (k:Int):Nat:=(os[k.toNat]?.elim 0 Ob.dep)
def layO (s:Pk) (v:IV) (r:Int × List UInt8):Pk :=
  if r.1 < 0 then ⟨s.bs++aP_ (UInt8.ofNat v.1.toNat) [] r.2,s.os++[⟨v.1,v.2,0,s.bs.length,bn_ r.2⟩]⟩
  else ⟨s.bs++aP_ 5 (Oct.vr (s.bs.length - ofAt s.os r.1)) r.2,s.os++[⟨v.1,v.2,ofDep s.os r.1+1,s.bs.length,bn_ r.2⟩]⟩
def dj_ (chain:Int) (s:Pk) (v:IV):Pk:=layO s v (fL_ s.os chain v.1 v.2)
def jM_ (n:Nat):List UInt8:=[80,65,67,75]++Oct.tl 1 4++Oct.tl n 4
theorem jL_ (n:Nat):(jM_ n).length=12:=by simp [jM_,Oct.N_]
def cf_ (chain:Int) (n:Nat) (l:List IV):Pk:=l.foldl (dj_ chain) ⟨jM_ n,[]⟩
def ct_ (chain:Int) (l:List IV):Pk:=cf_ chain l.length l
def dM_ (chain:Int) (l:List IV):List UInt8:=(ct_ chain l).bs++Sha.ofL (ct_ chain l).bs
theorem dX_ {chain:Int} {n:Nat} {l:List IV} {k:Nat} {x:IV} (h:l[k]?=some x):cf_ chain n (l.take (k+1))=dj_ chain (cf_ chain n (l.take k)) x:=by
  unfold cf_
  rw [List.take_add_one,h,List.foldl_append]
  rfl
def wrE (chain:Int) (l:List IV):Int:=if chain < 0∨8 < chain then 2 else cB_ l
theorem layO_len (s:Pk) (v:IV) (r:Int × List UInt8):(layO s v r).os.length=s.os.length+1:=by
  unfold layO;split <;> simp
theorem layO_bs (s:Pk) (v:IV) (r:Int × List UInt8) (h:r.2.length≤300) (hb:s.bs.length≤20000):(layO s v r).bs.length≤s.bs.length+320:=by
  have h1:=Oct.vr_len r.2.length 1 (by omega)
  unfold layO aP_
  split
  · simp [Oct.N_];omega
  · have h2:=Oct.vr_len (s.bs.length - ofAt s.os r.1) 2 (by omega)
    simp [Oct.N_];omega
theorem ho_ {chain:Int} {n:Nat} {l:List IV} (hs:∀ x ∈ l,x.2.length≤300):∀ k,k≤l.length→k≤24→(cf_ chain n (l.take k)).os.length=k∧12≤(cf_ chain n (l.take k)).bs.length∧(cf_ chain n (l.take k)).bs.length≤12+k*320
  | 0,_,_=>by simp [cf_,jL_]
  | k+1,hk,h24=>by
    obtain ⟨x,hx⟩:∃ x,l[k]?=some x:=⟨_,List.getElem?_eq_getElem (by omega)⟩
    obtain ⟨h1,h2,h3⟩:=ho_ (chain:=chain) (n:=n) hs k (by omega) (by omega)
    rw [dX_ hx]
    have h4:=(ha_ (cf_ chain n (l.take k)).os chain x.1 x.2).2
    have h5:=hs x (List.mem_of_getElem? hx)
    have h6:=layO_bs (cf_ chain n (l.take k)) x (fL_ (cf_ chain n (l.take k)).os chain x.1 x.2) (by omega) (by omega)
    refine ⟨by unfold dj_;rw [layO_len,h1],?_,by unfold dj_;omega⟩
    unfold dj_ layO
    split <;> (simp;omega)
theorem kV_ {chain:Int} {n:Nat} {l:List IV}:∀ k,k≤l.length→(cf_ chain n (l.take k)).os.map (fun o=>(o.kind,o.l))=l.take k
  | 0,_=>by simp [cf_]
  | k+1,hk=>by
    obtain ⟨x,hx⟩:∃ x,l[k]?=some x:=⟨_,List.getElem?_eq_getElem (by omega)⟩
    have h1:=kV_ (chain:=chain) (n:=n) (l:=l) k (by omega)
    rw [dX_ hx,List.take_add_one,hx]
    unfold dj_ layO
    split <;> simp [h1]
end Pak
namespace Pak
open Go.RowKit Zk Zx
open Sha (N bO_ cO_ dS_ fz_ fy_)
open Go.Proofs.YtgaklngnfecdaaaGreat.Obj (ai_ bV_ aT_ Z_ aN_ be_ zB C_ aR_)
open Oct (vaN rwL rwP rwE rnL rnP rnE be vr tl N_)
open Del (scA opf OP OkO mkV bR_ dG_ aj_ bW_)
theorem name_ (k:Int) (B:Option Addr) (m d:Nat) (b:List UInt8) (w0:World) (hb:Rs w0 1 B m d (bL b)) (hm9:m≤90000) :
    Calls Tryz.prog 23 #[.int .i64 k,.slice B m d] w0 fun e w'=>∃ u,e=.returned u∧Like w0 w'∧u=.tuple #[.agg (bA (aT_ k b)),.int .i64 (ai_ k b)]:=by
  by_cases he:ai_ k b=0
  · exact Obj.name1 k B m d b w0 hb hm9 he
  · exact Obj.name0 k B m d b w0 hb hm9 he
theorem rname_ (k:Int) (B:Option Addr) (m d:Nat) (b:List UInt8) (w0:World) (hb:Rs w0 1 B m d (bL b)) (hm9:m≤90000) :
    Calls Tryz.prog 24 #[.int .i64 k,.slice B m d] w0 fun e w'=>∃ u,e=.returned u∧Like w0 w'∧u=.tuple #[.agg (bA (aT_ k b)),.int .i64 (ai_ k b)]:=by
  by_cases he:ai_ k b=0
  · exact Obj.rname1 k B m d b w0 hb hm9 he
  · exact Obj.rname0 k B m d b w0 hb hm9 he
def NamesV (w0 w':World) (l:List IV) (u:Value):Prop:=(cB_ l≠0∧u=.tuple #[.slice none 0 0,.int .i64 (cB_ l)])∨(cB_ l=0∧∃ A c,u=.tuple #[.slice A l.length c,.int .i64 0]∧w'.ownsRow w0.heap.size 41 32 (.slice A l.length c) l.length (l.flatMap idB))
theorem gZ_ {its:List It} {k:Nat} {x:It} (hx:its[k]?=some x):(its.map It.v)[k]?=some (x.kind,x.p.l):=by rw [List.getElem?_map,hx];rfl
theorem hp_ {l:List IV} {k:Nat} {x:IV} (hx:l[k]?=some x) (h:∀ y ∈ l.take k,ai_ y.1 y.2=0) (he:ai_ x.1 x.2=0):∀ y ∈ l.take (k+1),ai_ y.1 y.2=0:=fun y hy=>by
  rw [List.take_add_one,hx] at hy
  rcases List.mem_append.1 hy with q | q
  · exact h y q
  · obtain rfl:=List.mem_singleton.1 q
    exact he
theorem ids_next {l:List IV} {k:Nat} {x:IV} (hx:l[k]?=some x):gQ_ (l.take (k+1))=gQ_ (l.take k)++[aT_ x.1 x.2]:=by
  rw [List.take_add_one,hx]
  unfold gQ_
  rw [List.map_append]
  rfl
theorem fm_next {l:List IV} {k:Nat} {x:IV} (hx:l[k]?=some x):(l.take (k+1)).flatMap idB=(l.take k).flatMap idB++idB x:=by
  rw [List.take_add_one,hx,List.flatMap_append]
  simp
theorem lf_ (l:List IV):(gQ_ l).length=l.length:=by simp [gQ_]
theorem gr_ (x:IV):((bA (aT_ x.1 x.2)).toList.drop 0).take 32=idB x∧(idB x).length=32:=by
  refine ⟨?_,iO_ x⟩
  rw [List.drop_zero]
  exact List.take_of_length_le (Nat.le_of_eq (iO_ x))
theorem idB_one (x:IV):∀ u ∈ idB x,u.oneCell'=true:=T_ _
theorem names (A:Option Addr) (n c:Nat) (its:List It) (w0:World) (hits:Rs w0 2 A n c (its.flatMap itf)) (hok:OkI w0 its) (hsm:∀ x ∈ its,x.p.n≤90000) (hn9:n≤100000) :
    Calls Tryz.prog 54 #[.slice A n c] w0 fun e w'=>∃ u,e=.returned u∧Like w0 w'∧NamesV w0 w' (its.map It.v) u:=by
 refine w_ (env:=[(0,.slice A n c)]) [.slice A n c] Tryz.func54 Z Tryz.ntmps54 Z Z ?_;have hn:=hw_ hits;have hcap:=hits.cap;have hmax:=hits.max;have S0:=St.start w0 noM;refine a_ fun K1 hK1=>b_ (La Z Z (Lan Z Z (hK1 _ _ (a_ fun K2 hK2=>Rm Z Z (L_y (J_ Tryz.underlying48 Z) Z (L_o (o_makeN te81 [] (by simp) (fun i hi=>by omega) (by omega) S0 Z Z inferInstance inferInstance Z (by omega) (by omega) (by omega) fun b1 w1 S1=>?_)))))));refine Lan Z Z (hK2 _ _ (a_ fun K3 hK3=>b_ (L_o (jv_ (n:=32) S1 Z fun bm w2 hbm S2=>Lan Z Z (hK3 _ _ (a_ fun K4 hK4=>a_ fun K5 hK5=>Rm Z Z (L_y (J_ Tryz.underlying48 Z) Z ?_)))))));refine Lm Z Z (f_ (hK5 _ _ (u_ ?_)));refine et_ [(0,_),(5,_),(14,_),(15,_)] (fun (k:Nat) (A1:Option Addr) (c1:Nat)=>[(16,.int .i64 (k:Int)),(4,.slice A1 k c1)]) (fun (k:Nat) (A1:Option Addr) (c1:Nat)=>n - k) (fun (k:Nat) (A1:Option Addr) (c1:Nat) (w:World)=>(k≤n∧∀ y ∈ (its.map It.v).take k,ai_ y.1 y.2=0)∧Zx.St w0 noM [Zx.row 41 32 A1 k c1 (((its.map It.v).take k).flatMap idB),eP_ 32 bm (setB (gQ_ ((its.map It.v).take k)))] w) 0 _ _ (Sc Z (Sc Z (Sub.nil _))) (Sub.cons Z Z (Sub.cons Z Z (Sub.cons Z Z (Sub.cons Z Z (Sub.nil _))))) ?_ ?_
 ·
  exact ⟨⟨by omega,fun y hy=>by cases hy⟩,S2⟩
 ·
  intro k A1 c1 w3 hrel;obtain ⟨⟨hk,hok2⟩,S3⟩:=hrel;refine a_ fun K6 hK6=>b_ (L_y (H_ Z Z) Z (f_ (hK6 _ _ (a_ fun K7 hK7=>?_))));refine m_ Z (fun h17=>?_) (fun h17=>?_)
  ·
   obtain ⟨x,hx⟩:∃ x,its[k]?=some x:=⟨_,List.getElem?_eq_getElem (by omega)⟩;have hxo:=hok.at hx;have hxm:=hsm x (List.mem_of_getElem? hx);refine j_ (hK7 _ _ (a_ fun K8 hK8=>u_ (a_ fun K9 hK9=>b_ (L_y (ab_ Tryz.underlying48 sz65 Z Z (S3.rd hits) inferInstance (by omega)) Z (L_y (cQ_ (f:=itf) hx_ Tryz.underlying65 Z sz65 Z (S3.rd hits) (by omega) hx) Z (L_o (E_ zz65 S3 Z fun b4 w4 hb4 S4=>L_o (B_ S4 2 Z Z Z sz65 (by rfl) (fun u hu=>iM_ x u (by rw [List.toList_toArray] at hu;exact hu)) fun w5 S5=>?_))))))));refine f_ (hK9 _ _ (a_ fun K10 hK10=>b_ (L_y (d_ 0 Tryz.underlying65 Z sz3 Z Z Z) Z (L_y (p_ Tryz.underlying3 Z Z (((S5.blk 2 Z).cell _).trans (by rfl))) Z ?_))));refine L_y (d_ 1 Tryz.underlying65 Z bi_ Z Z Z) Z (L_y (p_ Tryz.underlying22 Z Z (((S5.blk 2 Z).cell _).trans (by rfl))) Z ?_);refine L_o (o_ Tryz.func23 Z Z (name_ x.kind x.p.A x.p.n x.p.c x.p.l w5 (S5.rd hxo) hxm) Z Z ?_);rintro e6 w6 ⟨v6,rfl,l6,rfl⟩;refine ⟨_,rfl,(have S6:=S5.like l6;Lm Z Z (L_y (n_ Z Z) Z (L_y (n_ Z Z) Z (L_o (E_ dm_ S6 Z fun b7 w7 hb7 S7=>have S8:Zx.St w0 noM [Zx.row 41 32 A1 k c1 (((its.map It.v).take k).flatMap idB),eP_ 32 bm (setB (gQ_ ((its.map It.v).take k))),blk b4 65 (itf x).toArray,blk b7 41 (bA zB)] w7:=S7.cast (by kernel_rfl);L_o (B_ S8 3 Z Z Z (by first | exact af_ | (rw [size_bA,Z_];exact af_)) (by first | rfl | (rw [size_bA,size_bA,Z_];rfl)) (Sha.cw_ _) fun w9 S9=>?_))))))⟩;refine Lan Z Z (hK10 _ _ (a_ fun K11 hK11=>a_ fun K12 hK12=>Rm Z Z (L_y (V_ Z Z) Z (f_ (hK12 _ _ ?_)))));refine m_ Z (fun h29=>?_) (fun h29=>?_)
   ·
    refine a_ fun K13 hK13=>Rm Z Z (La Z Z (Lan Z Z (hK13 _ _ (l_ (ur (aB_ Z Z Z ?_))))));have he:cB_ (its.map It.v)=ai_ x.kind x.p.l:=by rw [nameE_e (by rw [nmE_at hok2 (gZ_ hx) h29];exact h29),nmE_at hok2 (gZ_ hx) h29]
    exact ⟨_,rfl,S9.like0,.inl ⟨by rw [he];exact h29,by rw [he];rfl⟩⟩
   ·
    refine j_ (hK11 _ _ (a_ fun K14 hK14=>Rm Z Z (L_y (W_ Tryz.underlying41 Z af_ Z (S9.blk 3 Z) (gr_ (x.kind,x.p.l))) Z (L_o (aY_ (idB (x.kind,x.p.l)) te81 dm_ S9 Z Z Z (by simp [Value.cells,iO_]) (by simp [Value.cells]) Z Z Z fun b10 w10 S10=>?_)))));refine L_o (aL_ te81 S10 0 Z Z Z (by first | exact S10.row 0 Z | exact S10.row 4 Z) (idB_one _) Z (by omega) (by omega) fun A11 c11 w11 S11=>?_);have S11d:=S11.drop (rs':=[_,_,_,_]) (.cons_cons _ (.cons_cons _ (.cons_cons _ (.cons_cons _ (.cons _ (.refl _))))));refine Lan Z Z (hK14 _ _ (Rm Z Z (L_y (W_ Tryz.underlying41 Z af_ Z (S11d.blk 3 Z) (gr_ (x.kind,x.p.l))) Z (L_o (o_mapUpB S11d 1 Z Tryz.underlying162 Tryz.underlying41 Tryz.underlying5 sz5 Z Z Z (Z_ _ _) fun w12 S12=>f_ (hK8 _ _ (b_ (L_y (v_ Z Z (z_ (by omega))) Z (Lm Z Z (f_ ?_))))))))));have S91:=S12.sel [0,1] (by decide);have S92:=S91.rowc 0 Z (n':=k+1) (xs':=((its.map It.v).take (k+1)).flatMap idB) Z (fm_next (gZ_ hx)).symm;rw [← kh_, ← ids_next (gZ_ hx)] at S92;refine ⟨k+1,_,_,by omega,⟨⟨by omega,hp_ (gZ_ hx) hok2 (Classical.not_not.1 h29)⟩,S92⟩,?_⟩;exact (Sc Z (Sc Z (Sub.cons Z Z (Sub.cons Z Z (Sub.cons Z Z (Sub.cons Z Z (Sub.nil _)))))))
  ·
   have hke:k=n:=by omega
   subst hke;have hvl:(its.map It.v).length=k:=by rw [List.length_map];exact hn.symm
   rw [List.take_of_length_le (by omega)] at hok2;rw [List.take_of_length_le (by omega)] at S3;have hset:=(setB_all (gQ_ (its.map It.v))).2.2;have hset2:=(setB_all (gQ_ (its.map It.v))).2.1;rw [lf_,hvl] at hset hset2;have hall:=hok2;refine P_ (hK4 _ _ (a_ fun K15 hK15=>a_ fun K16 hK16=>Rm Z Z (L_y (y_lenB (S3.get 1 Z) Tryz.underlying162 Z) Z (Lm Z Z (L_y (J_ Tryz.underlying48 Z) Z (L_y (H_ Z Z) Z (f_ (hK16 _ _ ?_))))))));refine m_ Z (fun h42=>?_) (fun h42=>?_)
   ·
    refine a_ fun K17 hK17=>b_ (La Z Z (Lan Z Z (hK17 _ _ (l_ (ur (aB_ Z Z Z ?_))))));have he:cB_ (its.map It.v)=17:=nameE_17 (jA_ hall) (fun q=>by have:=hset.2 q;omega);exact ⟨_,rfl,S3.like0,.inl ⟨by rw [he];decide,by rw [he]⟩⟩
   ·
    refine j_ (hK15 _ _ (a_ fun K18 hK18=>Rm Z Z (La Z Z (Lan Z Z (hK18 _ _ (l_ (ur (aB_ Z Z Z ?_))))))));have he:cB_ (its.map It.v)=0:=nameE_0 (jA_ hall) (hset.1 (by omega));have hO:=S3.own 0 Z;rw [← hvl] at hO;refine ⟨_,rfl,S3.like0,.inr ⟨he,A1,c1,by rw [hvl],hO⟩⟩
end Pak
namespace Pak
open Go.RowKit Zk Zx
open Sha (N bO_ cO_ dS_ fz_ fy_)
open Go.Proofs.YtgaklngnfecdaaaGreat.Obj (ai_ bV_ aT_ Z_ aN_ be_ zB C_ aR_)
open Oct (vaN rwL rwP rwE rnL rnP rnE be vr tl N_)
open Del (scA opf OP OkO mkV bR_ dG_ aj_ bW_)
theorem er_ {α:Type} (f : α→List Value) (size:Nat) (hlen:∀ y,(f y).length=size) (l:List α) (k:Nat) (y : α) (h:l[k]?=some y) (i:Nat) (hi:i < size):(l.flatMap f)[k*size+i]?=(f y)[i]?:=by
  rw [← hD_ f size hlen l k y h,List.getElem?_take,if_pos hi,List.getElem?_drop]
def depV (o:Ob):Value:=.int .i64 (o.dep:Int)
def Ob.v (o:Ob):IV:=(o.kind,o.l)
def Same (its:List It) (os:List Ob):Prop:=its.map It.v=os.map Ob.v
theorem Same.len {its:List It} {os:List Ob} (h:Same its os):its.length=os.length:=by have:=congrArg List.length h;simpa using this
theorem Same.at {its:List It} {os:List Ob} (h:Same its os) {k:Nat} {o:Ob} (ho:os[k]?=some o):∃ x,its[k]?=some x∧x.kind=o.kind∧x.p.l=o.l:=by
  have h1:(its.map It.v)[k]?=some o.v:=by rw [h,List.getElem?_map,ho];rfl
  rw [List.getElem?_map] at h1
  cases hx:its[k]? with
  | none=>rw [hx] at h1;cases h1
  | some x =>
    rw [hx] at h1
    have h2:x.v=o.v:=Option.some.inj h1
    exact ⟨x,rfl,congrArg Prod.fst h2,congrArg Prod.snd h2⟩
theorem dep_get {os:List Ob} {k:Nat} {o:Ob} (ho:os[k]?=some o):(os.map depV)[k]?=some (.int .i64 (o.dep:Int)):=by rw [List.getElem?_map,ho];rfl
open Del (nL nL_app)
theorem nL_snoc (l:List Nat) (k:Nat) (v:Int) (h:v=(k:Int)):nL l++[Value.int .i64 v]=nL (l++[k]):=by subst h;simp [nL]
theorem nL_get {l:List Nat} {i k:Nat} (h:l[i]?=some k):(nL l)[i]?=some (Value.int .i64 (k:Int)):=by unfold nL;rw [List.getElem?_map,h];rfl
theorem candidates (g:Nat) (x0 x2:Value) (A1:Option Addr) (n1 c1:Nat) (A3:Option Addr) (n3 c3:Nat) (its:List It) (os:List Ob) (kind chain:Int) (w0:World) (hg:Blk w0 g 113 #[x0,.slice A1 n1 c1,x2,.slice A3 n3 c3]) (hits:Rs w0 2 A1 n1 c1 (its.flatMap itf)) (hds:Rs w0 1 A3 n3 c3 (os.map depV)) (hio:Same its os) (hn9:n1≤100000) :
    Calls Tryz.prog 120 #[.pointer (some ⟨g,0,none⟩),.int .i64 kind,.int .i64 chain] w0 fun e w'=>∃ u,e=.returned u∧Like w0 w'∧∃ A5 c5,u=.slice A5 (bk_ os kind chain os.length 0).length c5∧w'.ownsRow w0.heap.size 3 1 (.slice A5 (bk_ os kind chain os.length 0).length c5) (bk_ os kind chain os.length 0).length (nL (bk_ os kind chain os.length 0)):=by
 refine w_ (env:=[(0,.pointer (some ⟨g,0,none⟩)),(1,.int .i64 kind),(2,.int .i64 chain)]) [.pointer (some ⟨g,0,none⟩),.int .i64 kind,.int .i64 chain] Tryz.func120 Z Tryz.ntmps120 Z Z ?_;have hn1:=hw_ hits;have hsl:=hio.len;have hn3:=hds.len;rw [List.length_map] at hn3;have hcap1:=hits.cap;have hcap3:=hds.cap;have hmax1:=hits.max;have hmax3:=hds.max;have S0:=St.start w0 noM;refine a_ fun K1 hK1=>b_ (Lan Z Z (hK1 _ _ (a_ fun K2 hK2=>b_ (have S1:=S0.nilrow 3 1;Lan Z Z (hK2 _ _ (a_ fun K3 hK3=>b_ (La Z Z ?_)))))));refine f_ (hK3 _ _ (a_ fun K4 hK4=>a_ fun K5 hK5=>Rm Z Z (L_y (x_ Z) Z (L_y (d_ 1 Tryz.underlying113 Z sz48 Z Z Z) Z (L_y (p_ Tryz.underlying48 Z Z (((S1.rdB hg).cell _).trans (by rfl))) Z ?_)))));refine L_y (J_ Tryz.underlying48 Z) Z (L_y (am_ Z Z (z_ (by omega))) Z (Lan Z Z (hK5 _ _ (u_ ?_))));refine hJ_ [(0,_),(1,_),(2,_)] (fun (j:Nat) (seen:Nat) (out:List Nat) (A5:Option Addr) (c5:Nat)=>[(9,.int .i64 ((j:Int) - 1)),(8,.int .i64 (seen:Int)),(7,.slice A5 out.length c5)]) (fun (j:Nat) (seen:Nat) (out:List Nat) (A5:Option Addr) (c5:Nat)=>j) (fun (j:Nat) (seen:Nat) (out:List Nat) (A5:Option Addr) (c5:Nat) (w:World)=>(j≤os.length∧out.length+j≤os.length∧seen≤4∧out++bk_ os kind chain j seen=bk_ os kind chain os.length 0)∧Zx.St w0 noM [Zx.row 3 1 A5 out.length c5 (nL out)] w) os.length 0 [] none 0 (Sc Z (Sc Z (Sc Z (Sub.nil _)))) (Sub.cons Z Z (Sub.cons Z Z (Sub.cons Z Z (Sub.nil _)))) ?_ ?_
 ·
  exact ⟨⟨Nat.le_refl _,by simp,by omega,rfl⟩,S1⟩
 ·
  intro j seen out A5 c5 w2 hrel;obtain ⟨⟨hj,hol,hsn,hcs⟩,S2⟩:=hrel;refine a_ fun K6 hK6=>a_ fun K7 hK7=>Rm Z Z (L_y (cF_ Z Z) Z (Lm Z Z ?_));refine A_ 18 Z (fun h18=>?_) (fun h18=>?_)
  ·
   refine g_ Z Z (Lm Z Z (g_ Z Z (L_y (H_ Z Z) Z (Lp Z Z Z (f_ (hK7 _ _ ?_))))));refine m_ Z (fun h21=>?_) (fun h21=>?_)
   ·
    obtain ⟨o,ho⟩:∃ o,os[j - 1]?=some o:=⟨_,List.getElem?_eq_getElem (by omega)⟩;obtain ⟨x,hx,hxk,hxl⟩:=hio.at ho;refine j_ (hK6 _ _ (a_ fun K8 hK8=>u_ (a_ fun K9 hK9=>a_ fun K10 hK10=>Rm Z Z (L_y (x_ Z) Z (L_y (d_ 1 Tryz.underlying113 Z sz48 Z Z Z) Z (L_y (p_ Tryz.underlying48 Z Z (((S2.rdB hg).cell _).trans (by rfl))) Z ?_))))));refine Lm Z Z (L_y (ab_ Tryz.underlying48 sz65 Z Z (S2.rd hits) (Nt.mk (by omega):Nt _ (j - 1)) (by omega)) Z (L_y (bI_ 0 Tryz.underlying65 Z sz3 Z Z (S2.rd hits) (by omega) Z) Z (L_y (eJ_ Tryz.underlying3 Z Z (S2.rd hits) (by omega) ((er_ itf 2 hx_ its (j - 1) x hx 0 (by omega)).trans (by rfl))) Z ?_)));refine Lm Z Z (L_y (V_ Z Z) Z (f_ (hK10 _ _ ?_)));refine m_ Z (fun h33=>?_) (fun h33=>?_)
    ·
     refine P_ (hK8 _ _ (Rm Z Z (L_y (am_ Z Z (z_ (by omega))) Z (Lan Z Z (⟨j - 1,seen,out,A5,c5,by omega,⟨⟨by omega,by (first | omega | (rw [List.length_append];simp only [List.length_singleton];omega)),by omega,by rw [← hcs,show j=j - 1+1 by omega,cand_skip (by omega) (by simpa using ho) (by rw [← hxk];exact h33)];simp⟩,S2⟩,?_⟩)))));exact (Sc Z (Sc Z (Sub.cons Z (by first | rfl | (rw [List.length_append];rfl)) (Sub.cons Z Z (Sub.cons Z Z (Sub.cons Z Z (Sub.nil _)))))))
    ·
     refine j_ (hK9 _ _ (a_ fun K11 hK11=>Rm Z Z (L_y (v_ Z Z (z_ (by omega))) Z (Lan Z Z (hK11 _ _ (a_ fun K12 hK12=>Rm Z Z (L_y (x_ Z) Z (L_y (d_ 3 Tryz.underlying113 Z iq_ Z Z Z) Z ?_))))))));refine L_y (p_ Tryz.underlying111 Z Z (((S2.rdB hg).cell _).trans (by rfl))) Z ?_;refine Lm Z Z (L_y (ab_ Tryz.underlying111 sz3 Z Z (S2.rd hds) (Nt.mk (by omega):Nt _ (j - 1)) (by omega)) Z (L_y (ck_ Tryz.underlying3 Z Z (S2.rd hds) (dep_get ho)) Z (Lm Z Z (L_y (H_ Z Z) Z (f_ (hK12 _ _ ?_))))));refine m_ Z (fun h44=>?_) (fun h44=>?_)
     ·
      refine Rm Z Z (Lm Z Z (L_o (aY_ [_] hb_ zz3 S2 Z Z Z Z Z Z Z Z fun b4 w4 S4=>L_o (aL_ hb_ S4 0 Z Z Z (by first | exact S4.row 0 Z | exact S4.row 1 Z) (by first | exact T_ _ | exact cp_ _ | (intro u hu;simp at hu;subst hu;rfl) | (simp;done) | (simp [Value.oneCell'];done)) Z (by omega) (by omega) fun A5 c5 w5 S5=>?_))));have S5d:=S5.drop (rs':=[_]) (.cons_cons _ (.cons _ (.refl _)));refine Lan Z Z (hK8 _ _ (Rm Z Z (L_y (am_ Z Z (z_ (by omega))) Z (Lan Z Z ?_))));have S91:=S5d.rowc 0 Z (n':=(out++[j - 1]).length) (xs':=nL (out++[j - 1])) (by rw [List.length_append];rfl) (nL_snoc _ _ _ (by omega));refine ⟨j - 1,seen+1,out++[j - 1],_,_,by omega,⟨⟨by omega,by (first | omega | (rw [List.length_append];simp only [List.length_singleton];omega)),by omega,by rw [← hcs,show j=j - 1+1 by omega,cand_yes (by omega) (by simpa using ho) (by rw [← hxk];exact Classical.not_not.1 h33) (by simpa using h44)];simp⟩,S91⟩,?_⟩;exact (Sc Z (Sc Z (Sub.cons Z (by first | rfl | (rw [List.length_append];rfl)) (Sub.cons Z Z (Sub.cons Z Z (Sub.cons Z Z (Sub.nil _)))))))
     ·
      refine j_ (hK8 _ _ (Rm Z Z (L_y (am_ Z Z (z_ (by omega))) Z (Lan Z Z (⟨j - 1,seen+1,out,A5,c5,by omega,⟨⟨by omega,by (first | omega | (rw [List.length_append];simp only [List.length_singleton];omega)),by omega,by rw [← hcs,show j=j - 1+1 by omega,cand_no (by omega) (by simpa using ho) (by rw [← hxk];exact Classical.not_not.1 h33) (by simpa using h44)];simp⟩,S2⟩,?_⟩)))));exact (Sc Z (Sc Z (Sub.cons Z (by first | rfl | (rw [List.length_append];rfl)) (Sub.cons Z Z (Sub.cons Z Z (Sub.cons Z Z (Sub.nil _)))))))
   ·
    refine P_ (hK4 _ _ (a_ fun K13 hK13=>Rm Z Z (Lan Z Z (hK13 _ _ (l_ (ur (G_ Z Z ?_)))))));have hce:bk_ os kind chain j seen=[]:=by first | exact kG_ (by omega) | (obtain rfl:j=0:=(by omega);rfl)
    rw [hce,List.append_nil] at hcs;subst hcs;exact ⟨_,rfl,S2.like0,_,_,rfl,S2.own 0 Z⟩
  ·
   refine h_ Z Z Z (h_ Z Z Z (Lp Z Z Z (f_ (hK7 _ _ (aI_ Z (P_ (hK4 _ _ (a_ fun K14 hK14=>Rm Z Z (Lan Z Z (hK14 _ _ ?_))))))))));refine l_ (ur (G_ Z Z ?_));have hce:bk_ os kind chain j seen=[]:=by first | exact kG_ (by omega) | (obtain rfl:j=0:=(by omega);rfl)
   rw [hce,List.append_nil] at hcs;subst hcs;exact ⟨_,rfl,S2.like0,_,_,rfl,S2.own 0 Z⟩
end Pak
namespace Zx
open Go.RowKit Zk
def apartL (rs:List Res):Prop:=rs.Pairwise fun r s=>∀ i,r.dom i→¬ s.dom i
def sepL (rs:List Res):Res where
  dom i:=∃ r ∈ rs,r.dom i
  holds w:=(∀ r ∈ rs,r.holds w∧∀ i,r.dom i→i < w.heap.size)∧apartL rs
  stable w w' h hh:=⟨fun r hr=>⟨r.stable w w' (fun i hi=>h i ⟨r,hr,hi⟩) (hh.1 r hr).1,fun i hi=>by
    have h1:=(hh.1 r hr).2 i hi
    have h2:=h i ⟨r,hr,hi⟩
    rw [Array.getElem?_eq_getElem h1] at h2
    exact (Array.getElem?_eq_some_iff.1 h2).1⟩,hh.2⟩
section
variable {w0 w w' : World} {M : Nat → Prop} {rs ps rs' : List Res}
theorem St.borrowL (h:(sepL rs).holds w):St w (sepL rs).dom rs w :=
  ⟨rfl,rfl,rfl,Nat.le_refl _,fun _ _ _=>rfl,fun q hq=>⟨(h.1 q hq).1,fun i hi=>⟨(h.1 q hq).2 i hi,.inr ⟨q,hq,hi⟩⟩⟩,h.2⟩
theorem St.getL (S:St w0 M (ps++rs) w):(sepL rs).holds w :=
  ⟨fun r hr=>⟨(S.res r (List.mem_append_right _ hr)).1,fun i hi=>((S.res r (List.mem_append_right _ hr)).2 i hi).1⟩,(List.pairwise_append.1 S.apart).2.1⟩
theorem St.turnedL {r0:List Res} (S:St w0 (sepL r0).dom rs w):Turned w0 w (sepL r0) (sepL rs) :=
  ⟨S.os,S.tape,S.output,S.size,S.old,St.getL (ps:=[]) S,fun i ⟨r,hr,hi⟩=>by
    have h:=(S.res r hr).2 i hi
    rcases h.2 with h2 | h2
    · exact .inr ⟨h2,h.1⟩
    · exact .inl h2⟩
theorem St.turnL (S:St w0 M (ps++rs) w) (T:Turned w w' (sepL rs) (sepL rs')):St w0 M (ps++rs') w':=by
  have hap:=List.pairwise_append.1 S.apart
  refine ⟨T.os.trans S.os,T.tape.trans S.tape,T.output.trans S.output,Nat.le_trans S.size T.size,fun i hi hm=>?_,fun q hq=>?_,?_⟩
  · rw [T.old i (Nat.lt_of_lt_of_le hi S.size) fun ⟨r,hr,hd⟩=>by
      rcases ((S.res r (List.mem_append_right _ hr)).2 i hd).2 with h | h
      · omega
      · exact hm h]
    exact S.old i hi hm
  · rcases List.mem_append.1 hq with hq | hq
    · have h:=S.res q (List.mem_append_left _ hq)
      refine ⟨q.stable w w' (fun i hi=>T.old i (h.2 i hi).1 fun ⟨r,hr,hd⟩=>hap.2.2 q hq r hr i hi hd) h.1,fun i hi=>⟨Nat.lt_of_lt_of_le (h.2 i hi).1 T.size,(h.2 i hi).2⟩⟩
    · have h:=T.holds.1 q hq
      refine ⟨h.1,fun i hi=>⟨h.2 i hi,?_⟩⟩
      rcases T.dom i ⟨q,hq,hi⟩ with ⟨r,hr,hd⟩ | h2
      · exact ((S.res r (List.mem_append_right _ hr)).2 i hd).2
      · exact .inl (Nat.le_trans S.size h2.1)
  · rw [List.pairwise_append]
    refine ⟨hap.1,T.holds.2,fun a ha b hb i hi hbi=>?_⟩
    rcases T.dom i ⟨b,hb,hbi⟩ with ⟨r,hr,hd⟩ | h2
    · exact hap.2.2 a ha r hr i hi hd
    · have:=((S.res a (List.mem_append_left _ ha)).2 i hi).1
      omega
theorem St.getAll (S:St w0 M rs w):(sepL rs).holds w:=St.getL (ps:=[]) S
end
end Zx
namespace Del
open Go.RowKit Zk Zx
theorem pmakeH (A B:Option Addr) (n c m d:Nat) (a t:List UInt8) (w0:World) (ha:Rs w0 1 A n c (bL a)) (ht:Rs w0 1 B m d (bL t)) (hmx:n≤4000) (hmt:m≤4000) :
    Calls Tryz.prog 121 #[.slice A n c,.slice B m d] w0 fun e w'=>∃ u,e=.returned u∧Like w0 w'∧∃ A' c' ops,∃ R:Res,u=.tuple #[.agg (scA (n:Int) (m:Int) A' ops.length c'),.int .i64 0]∧R.holds w'∧(∀ i,R.dom i→w0.heap.size≤i∧i < w'.heap.size)∧(∀ W,R.holds W→Rs W 4 A' ops.length c' (ops.flatMap opf)∧OkO W ops)∧ops.map OP.v=mkV a t:=by
 refine w_ (env:=[(0,.slice A n c),(1,.slice B m d)]) [.slice A n c,.slice B m d] Tryz.func121 Z Tryz.ntmps121 Z Z ?_;have hn:=ha.lenb;have hcap:=ha.cap;have hmax:=ha.max;have hmn:=ht.lenb;have hcap2:=ht.cap;have hmax2:=ht.max;have S0:=St.start w0 noM;refine a_ fun K1 hK1=>b_ (L_o (o_box1 Z Z S0 Z fun b1 w1 hb1 S1=>L_o (E_ iT_ S1 Z fun b2 w2 hb2 S2=>Lan Z Z (hK1 _ _ (a_ fun K2 hK2=>a_ fun K3 hK3=>Rm Z Z (L_y (J_ Tryz.underlying22 Z) Z (L_y (aa_ Z Z) Z (Lm Z Z ?_))))))));refine A_ 16 Z (fun h16=>?_) (fun h16=>?_)
 ·
  omega
 ·
  refine g_ Z Z (L_y (p_ Tryz.underlying22 Z Z (((S2.blk 0 Z).cell _).trans (by rfl))) Z ?_);refine g_ Z Z (L_y (J_ Tryz.underlying22 Z) Z (g_ Z Z (L_y (aa_ Z Z) Z (Lp Z Z Z (f_ (hK3 _ _ ?_))))));refine m_ Z (fun h20=>?_) (fun h20=>?_)
  ·
   omega
  ·
   refine j_ (hK2 _ _ (a_ fun K4 hK4=>Rm Z Z (L_y (J_ Tryz.underlying22 Z) Z (L_y (p_ Tryz.underlying22 Z Z (((S2.blk 0 Z).cell _).trans (by rfl))) Z ?_))));refine L_y (J_ Tryz.underlying22 Z) Z (L_y (y_ Z (show _=some (scA (n:Int) (m:Int) none 0 0) by kernel_rfl)) Z ?_);refine L_o (E_ iT_ S2 Z fun b4 w4 hb4 S4=>L_o (B_ S4 2 Z Z Z cx_ Z (bq_ _ _ _ _ _) fun w5 S5=>f_ (hK4 _ _ (a_ fun K5 hK5=>Rm Z Z (L_o (o_ Tryz.func161 Z Z (places A n c a w5 (S5.rd ha) hmx) Z Z ?_))))));rintro e6 w6 ⟨v6,rfl,l6,bm,pes,rfl,hpi,T6⟩;refine ⟨_,rfl,(have S6:=S5.adoptS T6;Lan Z Z (hK5 _ _ (a_ fun K6 hK6=>b_ (L_o (E_ zz3 S6 Z fun b7 w7 hb7 S7=>L_o (Y_ S7 5 Z Z Z Z sz3 (by first | (simp;done) | (show 0 < 1;decide)) fun w8 S8=>?_))))))⟩;refine f_ (hK6 _ _ (a_ fun K7 hK7=>b_ (L_y (dp_ Z Z) Z (Lan Z Z (hK7 _ _ (a_ fun K8 hK8=>a_ fun K9 hK9=>b_ (Lan Z Z (hK9 _ _ ?_))))))));refine u_ ?_;refine fw_ [(0,_),(3,_),(4,_),(6,_),(7,_),(8,_),(9,_)] (fun (k:Nat) (s0:Nat) (A1:Option Addr) (c1:Nat) (ops:List OP) (ps:List Part)=>[(10,.int .i64 (k:Int))]) (fun (k:Nat) (s0:Nat) (A1:Option Addr) (c1:Nat) (ops:List OP) (ps:List Part)=>m - k) (fun (k:Nat) (s0:Nat) (A1:Option Addr) (c1:Nat) (ops:List OP) (ps:List Part) (w:World)=>(k≤m∧s0≤k∧ops.length≤2*k∧InP ops ps∧MKI a t k s0 ops)∧St w0 noM ([blk b1 22 #[.slice B m d],blk b2 179 #[.int .i64 0,.int .i64 0,.slice none 0 0],eP_ 6 bm (pes.map PE.ent),fam (pes.map PE.row),blk b7 3 #[.int .i64 (s0:Int)]]++[blk b4 179 (scA (n:Int) (m:Int) A1 ops.length c1),row 221 4 A1 ops.length c1 (ops.flatMap opf),fam (ps.map bK_)]) w) 0 0 none 0 [] [] (Sc Z (Sub.nil _)) (Sub.cons Z Z (Sub.cons Z Z (Sub.cons Z Z (Sub.cons Z Z (Sub.cons Z Z (Sub.cons Z Z (Sub.cons Z Z (Sub.nil _)))))))) ?_ ?_
   ·
    have S9:=((S8.nilrow 221 4).fam0).sel [0,1,3,4,5,2,6,7] (by decide);exact ⟨⟨Nat.zero_le _,Nat.le_refl _,Nat.le_refl _,(fun o ho=>(List.not_mem_nil ho).elim),MKI.start a t⟩,S9⟩
   ·
    intro k s0 A1 c1 ops ps w9 hrel;obtain ⟨⟨hk,hsk,hol,hin,hmk⟩,S9⟩:=hrel;refine a_ fun K10 hK10=>a_ fun K11 hK11=>Rm Z Z (L_y (p_ Tryz.underlying22 Z Z (((S9.blk 0 Z).cell _).trans (by rfl))) Z ?_);refine L_y (J_ Tryz.underlying22 Z) Z (L_y (H_ Z Z) Z (f_ (hK11 _ _ ?_)));refine m_ Z (fun h33=>?_) (fun h33=>?_)
    ·
     have hbd:=bst_bd a (t.drop k);rw [List.length_drop] at hbd;refine j_ (hK10 _ _ (u_ (a_ fun K12 hK12=>Rm Z Z (Lm Z Z (L_y (p_ Tryz.underlying22 Z Z (((S9.blk 0 Z).cell _).trans (by rfl))) Z ?_)))));refine Lm Z Z (L_y (cr_ Tryz.underlying22 sz5 Z Z (Nt.mk (by omega):Nt _ (k)) (by omega)) Z (L_o (o_ Tryz.func163 Z Z (longest A (bS_ B d k 1) n c (m - k) (d - k) bm a (t.drop k) pes w9 (S9.rd ha) (cut_tail (S9.rd ht) (by omega)) hmx (by omega) (S9.get 2 Z) (S9.lt 2 Z) (S9.get 3 Z) hpi) Z Z ?_)));rintro e10 w10 ⟨v10,rfl,l10,rfl⟩;refine ⟨_,rfl,(have S10:=S9.like l10;Lm Z Z (L_y (n_ Z Z) Z (L_y (n_ Z Z) Z (La Z Z (Lan Z Z (hK12 _ _ (a_ fun K13 hK13=>a_ fun K14 hK14=>Rm Z Z (L_y (ah_ Z Z) Z ?_))))))))⟩;refine f_ (hK14 _ _ ?_);refine m_ Z (fun h44=>?_) (fun h44=>?_)
     ·
      refine a_ fun K15 hK15=>Rm Z Z (L_y (v_ Z Z (z_ (by omega))) Z (Lan Z Z (hK15 _ _ (P_ (⟨k+1,s0,A1,c1,ops,ps,by omega,⟨⟨by omega,by omega,by omega,hin,hmk.zero (by omega) (by omega)⟩,S10⟩,?_⟩)))));exact (Sc Z (Sub.cons Z Z (Sub.cons Z Z (Sub.cons Z Z (Sub.cons Z Z (Sub.cons Z Z (Sub.cons Z Z (Sub.cons Z Z (Sub.nil _)))))))))
     ·
      refine j_ (hK13 _ _ (a_ fun K16 hK16=>Rm Z Z (Lm Z Z (L_o (fl_ Z Tryz.func162 Z Z (flush k s0 b7 b4 b1 (n:Int) (m:Int) A1 B c1 m d ops ps t w10 (dx_ S10).1 (dx_ S10).2.1 (S10.blk 4 Z) ((dx_ S10).2.2.1 (blk b7 3 #[.int .i64 (s0:Int)]) (by simp) b7 Z) (S10.blk 0 Z) ((dx_ S10).2.2.1 (blk b1 22 #[.slice B m d]) (by simp) b1 Z) (S10.rd ht) (fun ad h1 h2=>(dx_ S10).2.2.2 ad.block (bT_ ht h1 h2) (fun h=>h)) hmt (by omega) hin (by omega)) Z Z (fun d' hd=>by cases hd <;> rfl) ?_)))));rintro e11 w11 ⟨v11,rfl,A2,c2,ops2,ps2,hov,hol2,hin2,T11⟩;refine ⟨_,rfl,(have S11:=flushScr S10 T11;have hrc2:=(S11.row 6 Z).cap;have hrm2:=(S11.row 6 Z).max;f_ (hK16 _ _ (a_ fun K17 hK17=>b_ (L_y (d_ 2 Tryz.underlying179 Z fF_ Z Z Z) Z (L_y (p_ Tryz.underlying177 Z Z (((S11.blk 5 Z).cell _).trans (by rfl))) Z ?_)))))⟩;refine Lm Z Z (Lm Z Z (L_y (y_ Z (show _=some #[Value.bool true,Value.int .i64 ((bst a (t.drop k)).1:Int),Value.int .i64 ((bst a (t.drop k)).2:Int),Value.slice none 0 0] by kernel_rfl)) Z ?_));refine L_o (aY_ [_,_,_,_] te177 gR_ S11 Z Z Z Z Z Z Z Z fun b12 w12 S12=>L_o (aL_ te177 S12 6 Z Z Z (by first | exact S12.row 6 Z | exact S12.fix 7 Z | exact S12.row 8 Z) (fun u hu=>bC_ ⟨true,_,_,p0⟩ u hu) Z (by omega) (by omega) fun A13 c13 w13 S13=>?_));have S13d:=S13.drop (rs':=[_,_,_,_,_,_,_,_]) (.cons_cons _ (.cons_cons _ (.cons_cons _ (.cons_cons _ (.cons_cons _ (.cons_cons _ (.cons_cons _ (.cons_cons _ (.cons _ (.refl _))))))))));refine L_y (d_ 2 Tryz.underlying179 Z fF_ Z Z Z) Z (L_o (Y_ S13d 5 Z Z Z Z fF_ (by show 2 < 3;decide) fun w14 S14=>?_));refine f_ (hK17 _ _ (a_ fun K18 hK18=>Rm Z Z (Lm Z Z (L_y (v_ Z Z (z_ (by omega))) Z (Lan Z Z (hK18 _ _ (Rm Z Z (L_o (Y_ S14 4 Z Z Z Z sz3 (by first | (simp;done) | (show 0 < 1;decide)) fun w15 S15=>?_)))))))));refine f_ ?_;have S91:=S15.blkc 5 Z ((hg_ (n:Int) (m:Int) A2 ops2.length c2 A13 (ops2.length+1) c13).trans (show _=scA (n:Int) (m:Int) A13 (ops2++[(⟨true,((bst a (t.drop k)).1:Int),((bst a (t.drop k)).2:Int),p0⟩:OP)]).length c13 from by rw [List.length_append];rfl));have S92:=S91.blkc 4 Z (show _ = #[Value.int .i64 ((k+(bst a (t.drop k)).2:Nat):Int)] from by simp);have S93:=S92.rowc 6 Z (n':=(ops2++[(⟨true,((bst a (t.drop k)).1:Int),((bst a (t.drop k)).2:Int),p0⟩:OP)]).length) (xs':=(ops2++[(⟨true,((bst a (t.drop k)).1:Int),((bst a (t.drop k)).2:Int),p0⟩:OP)]).flatMap opf) (by rw [List.length_append];rfl) (by rw [List.flatMap_append];rfl);refine ⟨k+(bst a (t.drop k)).2,k+(bst a (t.drop k)).2,A13,c13,ops2++[(⟨true,((bst a (t.drop k)).1:Int),((bst a (t.drop k)).2:Int),p0⟩:OP)],ps2,by omega,⟨⟨by omega,Nat.le_refl _,by rw [List.length_append,List.length_singleton];omega,hin2.add0 Z,hmk.copy (by omega) (by omega) (by rw [List.map_append,hov];rfl)⟩,S93⟩,?_⟩
      exact (Sc Z (Sub.cons Z Z (Sub.cons Z Z (Sub.cons Z Z (Sub.cons Z Z (Sub.cons Z Z (Sub.cons Z Z (Sub.cons Z Z (Sub.nil _)))))))))
    ·
     refine P_ (hK8 _ _ (a_ fun K19 hK19=>Rm Z Z (L_y (p_ Tryz.underlying22 Z Z (((S9.blk 0 Z).cell _).trans (by rfl))) Z ?_)));refine L_y (J_ Tryz.underlying22 Z) Z (L_o (fl_ Z Tryz.func162 Z Z (flush m s0 b7 b4 b1 (n:Int) (m:Int) A1 B c1 m d ops ps t w9 (dx_ S9).1 (dx_ S9).2.1 (S9.blk 4 Z) ((dx_ S9).2.2.1 (blk b7 3 #[.int .i64 (s0:Int)]) (by simp) b7 Z) (S9.blk 0 Z) ((dx_ S9).2.2.1 (blk b1 22 #[.slice B m d]) (by simp) b1 Z) (S9.rd ht) (fun ad h1 h2=>(dx_ S9).2.2.2 ad.block (bT_ ht h1 h2) (fun h=>h)) hmt (by omega) hin (by omega)) Z Z (fun d' hd=>by cases hd <;> rfl) ?_));rintro e16 w16 ⟨v16,rfl,A2,c2,ops2,ps2,hov,hol2,hin2,T16⟩;refine ⟨_,rfl,(have S16:=flushScr S9 T16;f_ (hK19 _ _ (a_ fun K20 hK20=>b_ (L_y (W_ Tryz.underlying179 Z cx_ Z (S16.blk 5 Z) (show _=(scA (n:Int) (m:Int) A2 ops2.length c2).toList∧_ from ⟨rfl,rfl⟩)) Z (L_o (B_ S16 1 Z Z Z cx_ Z (bq_ _ _ _ _ _) fun w17 S17=>Lan Z Z (hK20 _ _ (l_ (ur (X_ Z Z Z (S17.blk 1 Z) Tryz.underlying179 Z (by exact cx_) ?_))))))))))⟩;have S18:Zx.St w0 noM [row 221 4 A2 ops2.length c2 (ops2.flatMap opf),fam (ps2.map bK_)] w17:=S17.sel [6,7] (by decide);exact ⟨_,rfl,S17.like0,A2,c2,ops2,sepL [row 221 4 A2 ops2.length c2 (ops2.flatMap opf),fam (ps2.map bK_)],rfl,S18.getAll,(fun i hi=>by obtain ⟨r,hr,hd⟩:=hi;have h:=(S18.res r hr).2 i hd;exact ⟨h.2.resolve_right (fun q=>q),h.1⟩),(fun W h=>⟨bF_ (h.1 (row 221 4 A2 ops2.length c2 (ops2.flatMap opf)) (List.mem_cons_self ..)).1,okO_of hin2 (h.1 (fam (ps2.map bK_)) (List.mem_cons_of_mem _ (List.mem_cons_self ..))).1⟩),hmk.done (by omega) (by rw [hmn];exact hov)⟩
end Del
namespace Pak
open Go.RowKit Zk Zx
open Sha (N bO_ cO_ dS_ fz_ fy_)
open Go.Proofs.YtgaklngnfecdaaaGreat.Obj (ai_ bV_ aT_ Z_ aN_ be_ zB C_ aR_)
open Oct (vaN rwL rwP rwE rnL rnP rnE be vr tl N_)
open Del (scA opf OP OkO mkV bR_ dG_ aj_ bW_)
open Del (nL nL_app)
structure QOk (w0 w:World) (p:Part) (r:Int × List UInt8) (q:Part):Prop where
  ok:q.ok w
  val:q.l=r.2
  src:(r.1 = -1∧q=p)∨(0≤r.1∧∀ ad,0 < q.n→q.A=some ad→w0.heap.size≤ad.block)
theorem QOk.like {w0 w w':World} {p:Part} {r:Int × List UInt8} {q:Part} (h:QOk w0 w p r q) (l:Like w w'):QOk w0 w' p r q:=⟨Rs.like h.ok l,h.val,h.src⟩
theorem iC_ {os:List Ob} {x:List UInt8} {ks:List Nat} {i k:Nat} {r:Int × List UInt8} (hk:ks[i]?=some k):shF os x (ks.take (i+1)) r=stepS os x (shF os x (ks.take i) r) k:=by
  unfold shF
  rw [List.take_add_one,hk,List.foldl_append]
  rfl
def ShortV (w0 w':World) (p:Part) (r:Int × List UInt8) (u:Value):Prop:=∃ q:Part,u=.tuple #[.int .i64 r.1,pv q]∧QOk w0 w' p r q
theorem shortest (g:Nat) (x0 x2:Value) (A1:Option Addr) (n1 c1:Nat) (A3:Option Addr) (n3 c3:Nat) (its:List It) (os:List Ob) (kind chain:Int) (p:Part) (w0:World) (hg:Blk w0 g 113 #[x0,.slice A1 n1 c1,x2,.slice A3 n3 c3]) (hits:Rs w0 2 A1 n1 c1 (its.flatMap itf)) (hds:Rs w0 1 A3 n3 c3 (os.map depV)) (hio:Same its os) (hn9:n1≤100000) (hok:OkI w0 its) (hsm:∀ x ∈ its,x.p.n≤300) (hp:p.ok w0) (hp3:p.n≤300) :
    Calls Tryz.prog 90 #[.pointer (some ⟨g,0,none⟩),.agg #[.int .i64 kind,pv p],.int .i64 chain] w0 fun e w'=>∃ u,e=.returned u∧Like w0 w'∧ShortV w0 w' p (fL_ os chain kind p.l) u:=by
 refine w_ (env:=[(0,.pointer (some ⟨g,0,none⟩)),(1,.agg #[.int .i64 kind,pv p]),(2,.int .i64 chain)]) [.pointer (some ⟨g,0,none⟩),.agg #[.int .i64 kind,pv p],.int .i64 chain] Tryz.func90 Z Tryz.ntmps90 Z Z ?_;have hn1:=hw_ hits;have hsl:=hio.len;have hn3:=hds.len;rw [List.length_map] at hn3;have hcap1:=hits.cap;have hcap3:=hds.cap;have hmax1:=hits.max;have hmax3:=hds.max;have S0:=St.start w0 noM;refine a_ fun K1 hK1=>b_ (L_o (bB_ Z S0 Z fun b1 w1 hb1 S1=>La Z Z (Lan Z Z (hK1 _ _ (a_ fun K2 hK2=>ad_ [(0,true),(1,true),(2,true),(3,true)] aJ_ (by kernel_rfl) fun w2 l2=>have S2:=S1.like l2;t_ Z (d_ 1 Tryz.underlying65 Z bi_ Z Z Z) Z (t_ Z (p_ Tryz.underlying22 Z Z (((S2.blk 0 Z).cell _).trans (by rfl))) Z ?_))))));refine t_ Z (I_ Z) Z (t_ Z (I_ Z) Z (av_ (hK2 _ _ (a_ fun K3 hK3=>a_ fun K4 hK4=>Rm Z Z (L_y (d_ 0 Tryz.underlying65 Z sz3 Z Z Z) Z (L_y (p_ Tryz.underlying3 Z Z (((S2.blk 0 Z).cell _).trans (by rfl))) Z ?_))))));refine Lm Z Z (L_o (o_ Tryz.func120 Z Z (candidates g x0 x2 A1 n1 c1 A3 n3 c3 its os kind chain w2 (S2.rdB hg) (S2.rd hits) (S2.rd hds) hio (by omega)) Z Z ?_));rintro e3 w3 ⟨v3,rfl,l3,A3,c3,rfl,O3⟩;refine ⟨_,rfl,(have S3:=S2.adopt l3 O3;have hc0:=S3.row 1 Z;have hlk0:Like w0 w3:=S3.like0;L_y (J_ Tryz.underlying111 Z) Z (Lm Z Z (f_ (hK4 _ _ (u_ ?_)))))⟩;refine et_ [(0,_),(4,_),(22,_),(23,_)] (fun (i:Nat) (r:Int × List UInt8) (q:Part)=>[(24,.int .i64 (i:Int)),(8,.int .i64 r.1),(9,pv q)]) (fun (i:Nat) (r:Int × List UInt8) (q:Part)=>(bk_ os kind chain os.length 0).length - i) (fun (i:Nat) (r:Int × List UInt8) (q:Part) (w:World)=>(i≤(bk_ os kind chain os.length 0).length∧r=(shF os p.l ((bk_ os kind chain os.length 0).take i) (-1,p.l)))∧Like w0 w∧Rs w 1 A3 (bk_ os kind chain os.length 0).length c3 (nL (bk_ os kind chain os.length 0))∧QOk w0 w p r q∧Blk w b1 65 #[.int .i64 kind,pv p]) 0 (-1,p.l) p (Sc Z (Sc Z (Sc Z (Sub.nil _)))) (Sub.cons Z Z (Sub.cons Z Z (Sub.cons Z Z (Sub.cons Z Z (Sub.nil _))))) ?_ ?_
 ·
  exact ⟨⟨by omega,rfl⟩,hlk0,hc0,⟨S3.rd hp,rfl,.inl ⟨rfl,rfl⟩⟩,S3.blk 0 Z⟩
 ·
  intro i r q w4 hrel;obtain ⟨⟨hi,hr⟩,hlk,hc,hq,hb1⟩:=hrel;subst hr;have S4:=St.start w4 noM;have hsz1:=hlk.size;refine a_ fun K5 hK5=>b_ (L_y (H_ Z Z) Z (f_ (hK5 _ _ (a_ fun K6 hK6=>?_))));refine m_ Z (fun h25=>?_) (fun h25=>?_)
  ·
   obtain ⟨k,hk⟩:∃ k,(bk_ os kind chain os.length 0)[i]?=some k:=⟨_,List.getElem?_eq_getElem (by omega)⟩;obtain ⟨hko,o,ho,_,_⟩:=iR_ _ _ k (List.mem_of_getElem? hk);obtain ⟨x,hx,hxk,hxl⟩:=hio.at ho;have hxo:x.p.ok w0:=hok.at hx;have hxs:=hsm x (List.mem_of_getElem? hx);have hcc:=hc.cap;have hcm:=hc.max;have hxb:=hxo.lenb;have hpb:=hp.lenb;have hql:=hq.ok.lenb;refine j_ (hK6 _ _ (a_ fun K7 hK7=>u_ (a_ fun K8 hK8=>b_ (L_y (ab_ Tryz.underlying111 sz3 Z Z (S4.rd hc) inferInstance (by omega)) Z (L_y (ck_ Tryz.underlying3 Z Z (S4.rd hc) (nL_get hk)) Z (Lan Z Z (hK8 _ _ (a_ fun K9 hK9=>dk_ (fun w=>Like w4 w) aJ_ (by kernel_rfl) (fun w l=>(S4.like l).like0) fun w5 l5=>?_))))))));have S5:=S4.like l5;refine aX_ 0 (by kernel_rfl) Z (r_ Z) Z (aX_ 1 (by kernel_rfl) Z (x_ Z) Z (aX_ 2 (by kernel_rfl) Z (d_ 1 Tryz.underlying113 Z sz48 Z Z Z) Z (aX_ 3 (by kernel_rfl) Z (y_of fun w hw=>p_ Tryz.underlying48 Z Z (((hg.below (hlk.trans hw) hg.lt).cell _).trans (by rfl))) Z ?_)));refine aX_ 4 (by kernel_rfl) Z (r_ Z) Z (aX_ 5 (by kernel_rfl) Z (ab_ Tryz.underlying48 sz65 Z Z (hits.like (hlk.trans S5.like0)) inferInstance (by omega)) Z (aX_ 6 (by kernel_rfl) Z (bI_ 1 Tryz.underlying65 Z bi_ Z Z (hits.like (hlk.trans S5.like0)) (by omega) Z) Z (aX_ 7 (by kernel_rfl) Z (y_of fun w hw=>eJ_ Tryz.underlying22 Z Z (hits.like (hlk.trans hw)) (by omega) ((er_ itf 2 hx_ its k x hx 1 (by omega)).trans (by rfl))) Z ?_)));refine aX_ 8 (by kernel_rfl) Z (d_ 1 Tryz.underlying65 Z bi_ Z Z Z) Z (aX_ 9 (by kernel_rfl) Z (y_of fun w hw=>p_ Tryz.underlying22 Z Z (((hb1.below hw hb1.lt).cell _).trans (by rfl))) Z ?_);refine DX_o2 10 14 (by kernel_rfl) Z Z ?_ ?_
   ·
    refine o_ Tryz.func121 Z Z (Del.pmakeH _ _ _ _ _ _ x.p.l p.l w5 (Rs.like hxo (hlk.trans S5.like0)) (Rs.like hp (hlk.trans S5.like0)) (by omega) (by omega)) Z Z ?_;rintro e6 w6 ⟨v6,rfl,l6,A6,c6,ops6,R6,rfl,hh6,dd6,hr6,hv6⟩;refine ⟨_,rfl,(have S6:=S5.new l6 _ hh6 dd6;⟨S6.like0,(aX_ 11 (by kernel_rfl) Z (r_ Z) Z (aX_ 12 (by kernel_rfl) Z (n_ Z Z) Z (aX_ 13 (by kernel_rfl) Z (n_ Z Z) Z (dl_ 14 (by kernel_rfl) Z (E_ iT_ S6 Z fun b7 w7 hb7 S7=>⟨S7.like0,(dl_ 15 (by kernel_rfl) Z (B_ S7 1 Z Z Z cx_ (by rfl) (by intro u hu;simp [scA] at hu;rcases hu with rfl | rfl | rfl <;> rfl) fun w8 S8=>?_))⟩)))))⟩)⟩;refine ⟨S8.like0,(aX_ 16 (by kernel_rfl) Z (I_ Z) Z (em_ (by kernel_rfl) (hK9 _ _ (a_ fun K10 hK10=>a_ fun K11 hK11=>Rm Z Z (L_y (V_ Z Z) Z (f_ (hK11 _ _ ?_)))))))⟩;refine m_ Z (fun h43=>?_) (fun h43=>?_)
    ·
     exact absurd Z h43
    ·
     refine j_ (hK10 _ _ (a_ fun K12 hK12=>b_ (L_y (W_ Tryz.underlying179 Z cx_ Z (S8.blk 1 Z) (show _=(scA (x.p.n:Int) (p.n:Int) _ _ _).toList∧_ from ⟨rfl,rfl⟩)) Z (L_o (o_ Tryz.func122 Z Z (Del.pputM (x:=x.p.l) (y:=p.l) (by omega) (by omega) A6 c6 ops6 _ _ w8 (hr6 _ (S8.get 0 Z)).1 (hr6 _ (S8.get 0 Z)).2 hv6 (by omega) (by omega)) Z Z ?_)))));rintro e9 w9 ⟨v9,rfl,l9,A9,c9,rfl,O9⟩;refine ⟨_,rfl,(have S9:=S8.adopt l9 O9;have hlk3:Like w4 w9:=S9.like0;have hd9:Rs w9 1 A9 (scB x.p.l p.l).length c9 (bL (scB x.p.l p.l)):=S9.row 2 Z;have hf9:=(Fr.of_own (S9.own 2 Z)).2;have hb4:=hb1.below hlk3 hb1.lt;have hlk4:=hlk.trans hlk3;have hc4:=hc.like hlk3;have hq4:=hq.like hlk3;have hsz9:=hlk.size;Lm Z Z (L_y (n_ Z Z) Z (L_y (n_ Z Z) Z (La Z Z ?_))))⟩;refine Lan Z Z (hK12 _ _ (a_ fun K13 hK13=>Rm Z Z (L_y (ah_ Z Z) Z (Lm Z Z ?_))));refine A_ 51 Z (fun h51=>?_) (fun h51=>?_)
     ·
      refine g_ Z Z (Lm Z Z (g_ Z Z (L_y (J_ Tryz.underlying22 Z) Z (g_ Z Z (Lm Z Z (g_ Z Z (L_y (J_ Tryz.underlying22 Z) Z (g_ Z Z (L_y (H_ Z Z) Z (Lp Z Z Z (f_ (hK13 _ _ ?_))))))))))));refine m_ Z (fun h57=>?_) (fun h57=>?_)
      ·
       have hlen:=h57;refine Rm Z Z (Lm Z Z (La Z Z (Lan Z Z (hK7 _ _ (b_ (L_y (v_ Z Z (z_ (by omega))) Z (Lm Z Z (f_ ?_))))))));have hst:shF os p.l ((bk_ os kind chain os.length 0).take (i+1)) (-1,p.l)=((k:Int),scB x.p.l p.l):=by rw [iC_ hk,hxl];exact jg_ ho (by rw [← hq.val,hq.ok.lenb];rw [hxl] at hlen;first | exact Int.ofNat_lt.1 hlen | exact fun h=>hlen (Int.ofNat_lt.2 h))
       have hqn2:QOk w0 w9 p ((k:Int),scB x.p.l p.l) ⟨A9,(scB x.p.l p.l).length,c9,scB x.p.l p.l⟩:=⟨hd9,rfl,.inr ⟨by show (0:Int)≤(k:Int);omega,fun ad h1 h2=>Nat.le_trans hsz9 (hf9 ad h1 h2)⟩⟩;refine ⟨i+1,_,⟨A9,(scB x.p.l p.l).length,c9,scB x.p.l p.l⟩,by omega,⟨⟨by omega,hst.symm⟩,hlk4,hc4,hqn2,hb4⟩,?_⟩;exact (Sc Z (Sc Z (Sc Z (Sub.cons Z Z (Sub.cons Z Z (Sub.cons Z Z (Sub.cons Z Z (Sub.nil _))))))))
      ·
       have hlen:=h57;refine j_ (hK7 _ _ (b_ (L_y (v_ Z Z (z_ (by omega))) Z (Lm Z Z (f_ ?_)))));have hst:shF os p.l ((bk_ os kind chain os.length 0).take (i+1)) (-1,p.l)=(shF os p.l ((bk_ os kind chain os.length 0).take i) (-1,p.l)):=by rw [iC_ hk];exact kM_ ho (by rw [← hq.val,hq.ok.lenb];rw [hxl] at hlen;first | exact Int.ofNat_lt.1 hlen | exact fun h=>hlen (Int.ofNat_lt.2 h))
       have hqn2:=hq4;refine ⟨i+1,_,q,by omega,⟨⟨by omega,hst.symm⟩,hlk4,hc4,hqn2,hb4⟩,?_⟩;exact (Sc Z (Sc Z (Sc Z (Sub.cons Z Z (Sub.cons Z Z (Sub.cons Z Z (Sub.cons Z Z (Sub.nil _))))))))
     ·
      exact absurd Z h51
   ·
    refine E_ iT_ S5 Z fun b11 w11 hb11 S11=>⟨S11.like0,(dl_ 10 (by kernel_rfl) Z (o_ Tryz.func121 Z Z (Del.pmakeH _ _ _ _ _ _ x.p.l p.l w11 (Rs.like hxo (hlk.trans S11.like0)) (Rs.like hp (hlk.trans S11.like0)) (by omega) (by omega)) Z Z ?_))⟩;rintro e12 w12 ⟨v12,rfl,l12,A12,c12,ops12,R12,rfl,hh12,dd12,hr12,hv12⟩;refine ⟨_,rfl,(have S12:=S11.new l12 _ hh12 dd12;⟨S12.like0,(aX_ 11 (by kernel_rfl) Z (r_ Z) Z (aX_ 12 (by kernel_rfl) Z (n_ Z Z) Z (aX_ 13 (by kernel_rfl) Z (n_ Z Z) Z (dl_ 15 (by kernel_rfl) Z (B_ S12 0 Z Z Z cx_ (by rfl) (by intro u hu;simp [scA] at hu;rcases hu with rfl | rfl | rfl <;> rfl) fun w13 S13=>?_)))))⟩)⟩;refine ⟨S13.like0,(aX_ 16 (by kernel_rfl) Z (I_ Z) Z (em_ (by kernel_rfl) (hK9 _ _ (a_ fun K14 hK14=>a_ fun K15 hK15=>Rm Z Z (L_y (V_ Z Z) Z (f_ (hK15 _ _ ?_)))))))⟩;refine m_ Z (fun h43=>?_) (fun h43=>?_)
    ·
     exact absurd Z h43
    ·
     refine j_ (hK14 _ _ (a_ fun K16 hK16=>b_ (L_y (W_ Tryz.underlying179 Z cx_ Z (S13.blk 0 Z) (show _=(scA (x.p.n:Int) (p.n:Int) _ _ _).toList∧_ from ⟨rfl,rfl⟩)) Z (L_o (o_ Tryz.func122 Z Z (Del.pputM (x:=x.p.l) (y:=p.l) (by omega) (by omega) A12 c12 ops12 _ _ w13 (hr12 _ (S13.get 1 Z)).1 (hr12 _ (S13.get 1 Z)).2 hv12 (by omega) (by omega)) Z Z ?_)))));rintro e14 w14 ⟨v14,rfl,l14,A14,c14,rfl,O14⟩;refine ⟨_,rfl,(have S14:=S13.adopt l14 O14;have hlk3:Like w4 w14:=S14.like0;have hd9:Rs w14 1 A14 (scB x.p.l p.l).length c14 (bL (scB x.p.l p.l)):=S14.row 2 Z;have hf9:=(Fr.of_own (S14.own 2 Z)).2;have hb4:=hb1.below hlk3 hb1.lt;have hlk4:=hlk.trans hlk3;have hc4:=hc.like hlk3;have hq4:=hq.like hlk3;have hsz9:=hlk.size;Lm Z Z (L_y (n_ Z Z) Z (L_y (n_ Z Z) Z (La Z Z ?_))))⟩;refine Lan Z Z (hK16 _ _ (a_ fun K17 hK17=>Rm Z Z (L_y (ah_ Z Z) Z (Lm Z Z ?_))));refine A_ 51 Z (fun h51=>?_) (fun h51=>?_)
     ·
      refine g_ Z Z (Lm Z Z (g_ Z Z (L_y (J_ Tryz.underlying22 Z) Z (g_ Z Z (Lm Z Z (g_ Z Z (L_y (J_ Tryz.underlying22 Z) Z (g_ Z Z (L_y (H_ Z Z) Z (Lp Z Z Z (f_ (hK17 _ _ ?_))))))))))));refine m_ Z (fun h57=>?_) (fun h57=>?_)
      ·
       have hlen:=h57;refine Rm Z Z (Lm Z Z (La Z Z (Lan Z Z (hK7 _ _ (b_ (L_y (v_ Z Z (z_ (by omega))) Z (Lm Z Z (f_ ?_))))))));have hst:shF os p.l ((bk_ os kind chain os.length 0).take (i+1)) (-1,p.l)=((k:Int),scB x.p.l p.l):=by rw [iC_ hk,hxl];exact jg_ ho (by rw [← hq.val,hq.ok.lenb];rw [hxl] at hlen;first | exact Int.ofNat_lt.1 hlen | exact fun h=>hlen (Int.ofNat_lt.2 h))
       have hqn2:QOk w0 w14 p ((k:Int),scB x.p.l p.l) ⟨A14,(scB x.p.l p.l).length,c14,scB x.p.l p.l⟩:=⟨hd9,rfl,.inr ⟨by show (0:Int)≤(k:Int);omega,fun ad h1 h2=>Nat.le_trans hsz9 (hf9 ad h1 h2)⟩⟩;refine ⟨i+1,_,⟨A14,(scB x.p.l p.l).length,c14,scB x.p.l p.l⟩,by omega,⟨⟨by omega,hst.symm⟩,hlk4,hc4,hqn2,hb4⟩,?_⟩;exact (Sc Z (Sc Z (Sc Z (Sub.cons Z Z (Sub.cons Z Z (Sub.cons Z Z (Sub.cons Z Z (Sub.nil _))))))))
      ·
       have hlen:=h57;refine j_ (hK7 _ _ (b_ (L_y (v_ Z Z (z_ (by omega))) Z (Lm Z Z (f_ ?_)))));have hst:shF os p.l ((bk_ os kind chain os.length 0).take (i+1)) (-1,p.l)=(shF os p.l ((bk_ os kind chain os.length 0).take i) (-1,p.l)):=by rw [iC_ hk];exact kM_ ho (by rw [← hq.val,hq.ok.lenb];rw [hxl] at hlen;first | exact Int.ofNat_lt.1 hlen | exact fun h=>hlen (Int.ofNat_lt.2 h))
       have hqn2:=hq4;refine ⟨i+1,_,q,by omega,⟨⟨by omega,hst.symm⟩,hlk4,hc4,hqn2,hb4⟩,?_⟩;exact (Sc Z (Sc Z (Sc Z (Sub.cons Z Z (Sub.cons Z Z (Sub.cons Z Z (Sub.cons Z Z (Sub.nil _))))))))
     ·
      exact absurd Z h51
  ·
   refine P_ (hK3 _ _ (a_ fun K18 hK18=>Rm Z Z (Lm Z Z (La Z Z (Lan Z Z (hK18 _ _ (l_ (ur (aB_ Z Z Z ?_)))))))));obtain rfl:i=(bk_ os kind chain os.length 0).length:=by omega
   rw [List.take_length] at hq;exact ⟨_,rfl,hlk,q,by rw [List.take_length];rfl,hq⟩
end Pak
end Go.Proofs.YtgaklngnfecdaaaGreat
