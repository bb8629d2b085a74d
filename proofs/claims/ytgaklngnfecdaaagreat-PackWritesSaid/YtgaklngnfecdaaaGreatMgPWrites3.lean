import Derived.Test.YtgaklngnfecdaaaGreatMgPWrites2
import Derived.Test.YtgaklngnfecdaaaGreatMgPWrites1
import Derived.Deep.RegionWith
import Derived.Deep.RegionLaw
import Derived.Test.YtgaklngnfecdaaaGreatRows
import Derived.Deep.CondSized
import Derived.JoinedCond
import Derived.Shelf.SlSortCmp.InsertionK
import Derived.Shelf.SlSortCmp.NoneTotal
import Derived.Lib.Builder
import Derived.Laws.Externs
import Derived.Lib.AppendStr
import Derived.Shelf.Strings.Builder1
set_option linter.unusedSectionVars false
set_option linter.unusedSimpArgs false
set_option linter.unusedVariables false
set_option maxRecDepth 100000
set_option maxHeartbeats 400000
namespace Go.Proofs.YtgaklngnfecdaaaGreat
namespace Oid
open Go.RowKit Zk
theorem zero30 (W:World):(zeroValue 268).run Tryz.prog W=.ok (.agg (pfA z32 0)) W:=by kernel_rfl
theorem eX_ (W:World):(zeroValue 41).run Tryz.prog W=.ok (.agg (bA z32)) W:=by kernel_rfl
theorem hl_ (z:List UInt8) (n:Int):∀ u ∈ (pfA z n).toList,u.oneCell'=true:=by
  intro u hu
  simp only [pfA,List.toList_toArray,List.mem_append,List.mem_singleton] at hu
  rcases hu with hu | rfl
  · exact R_ z u hu
  · rfl
theorem pfA_set (z:List UInt8) (n:Int) (j:Nat) (c:UInt8) (hj:j < z.length):(pfA z n).setIfInBounds j (.int .u8 (c.toNat:Int))=pfA (z.set j c) n:=by
  simp only [pfA,bL,List.setIfInBounds_toArray,List.map_set]
  rw [List.set_append_left _ _ (by simpa using hj)]
  rfl
theorem pfA_get (z:List UInt8) (n:Int) (j:Nat) (c:UInt8) (h:z[j]?=some c):(pfA z n)[j]?=some (.int .u8 (c.toNat:Int)):=by
  have hl:j < z.length:=(List.getElem?_eq_some_iff.1 h).1
  simp only [pfA,List.getElem?_toArray]
  rw [List.getElem?_append_left (by simpa using hl)]
  exact cP_ z j c h
theorem or_even (d:Nat) (h:d < 16):bits .or .u8 0 ((d:Int)*16)=((UInt8.ofNat (16*d)).toNat:Int):=by
  have:=u8_or_nat 0 (d*16) (by omega) (by omega)
  simp only [Nat.zero_or] at this
  rw [toNat_ofNat _ (by omega)]
  have e:((0:Nat):Int)=0:=rfl
  rw [e] at this
  rw [show ((d:Int)*16)=((d*16:Nat):Int) by omega,this]
  omega
theorem or_nib (p d:Nat) (hd:d < 16):(16*p) ||| d=16*p+d:=by
  have:=Nat.two_pow_add_eq_or_of_lt (i:=4) hd p
  simpa using this.symm
theorem or_odd (p d:Nat) (hp:p < 16) (hd:d < 16):bits .or .u8 ((UInt8.ofNat (16*p)).toNat:Int) (d:Int)=((UInt8.ofNat (16*p+d)).toNat:Int):=by
  rw [toNat_ofNat _ (by omega),toNat_ofNat _ (by omega),u8_or_nat _ _ (by omega) (by omega),or_nib p d hd]
theorem begin_long (s:ByteArray) (w:World) (h:64 < s.size) :
    Calls Tryz.prog 192 #[.string s] w fun e w'=>e=.returned (.tuple #[.agg (pfA z32 0),.int .i64 3])∧Below w.heap.size w w':=by
  go_enter Tryz.func192,Tryz.ntmps192
  go_wp2_with (first
    | (refine be_ Z 268 Z _ zero30 ?_;intro w1 hb1 hg1)
    | (refine bc_ Z 268 _ _ Z w.heap.size Z (pfA z32 0) Z 268 (pfA z32 0) hb1 fd_ (by rfl) (hl_ _ _) ?_;intro w2 hb2 hg2))
  refine bodyPost_ret (fM_ Z _ Z hb2 _ Tryz.underlying268 Z fd_) Z ⟨rfl,?_⟩
  exact ((Below.refl _ _).grown hg1 (Nat.le_refl _) (by simp)).grown hg2 hg1.size (by simp)
theorem ly_ (s:ByteArray) (w:World) (h:s.size≤64) :
    Calls Tryz.prog 192 #[.string s] w fun e w'=>((okS s.data.toList=true∧e=.returned (.tuple #[.agg (pfA (el_ s.data.toList) s.size),.int .i64 0]))∨(okS s.data.toList=false∧e=.returned (.tuple #[.agg (pfA z32 0),.int .i64 14])))∧Below w.heap.size w w':=by
  go_enter Tryz.func192,Tryz.ntmps192
  go_wp2_with (first
    | (refine be_ (o:=⟨some 2,_,_,_,_,_⟩) Z 268 Z _ zero30 ?_;intro w1 hb1 hg1)
    | (refine be_ (o:=⟨some 4,_,_,_,_,_⟩) Z 268 Z _ zero30 ?_;intro w2 hb2 hg2)
    | (refine bc_ Z 268 _ _ Z w1.heap.size Z (pfA z32 s.size) Z 268 (pfA z32 0) hb2 fd_ (by rfl) (hl_ _ _) ?_;intro w3 hb3 hg3))
  have hB3:Below w.heap.size w w3:=(((Below.refl _ _).grown hg1 (Nat.le_refl _) (by simp)).grown hg2 hg1.size (by simp)).grown hg3 (Nat.le_trans hg1.size hg2.size) (by have:=hg1.size;simp;omega)
  have hlt1:w.heap.size < w1.heap.size:=hb1.lt
  have hr3:Blk w3 w.heap.size 268 (pfA z32 0):=(hb1.grown hg2 (by simp)).grown hg3 (by simp;omega)
  go_loopw [16] (fun v16 wr=>∃ k:Nat,k≤s.size∧v16=.int .i64 k∧okS (s.data.toList.take k)=true∧Blk wr w.heap.size 268 (pfA z32 0)∧Blk wr w1.heap.size 268 (pfA (el_ (s.data.toList.take k)) s.size)∧Below w.heap.size w wr) (fun v16 _=>s.size - (intOf v16).toNat)
  case atStart=>exact ⟨0,by omega,rfl,rfl,hr3,hb3,hB3⟩
  case round =>
    obtain ⟨k,hk,rfl,hok,hr,hbk,hB⟩:=hrel
    have HK:=Lib.hid hok
    clear hok
    by_cases hlt:k < s.size
    · obtain ⟨c,hc⟩:∃ c,s.data.toList[k]?=some c:=⟨s.data.toList[k]'(by rw [aB_];exact hlt),List.getElem?_eq_getElem _⟩
      have hix:=ds_ Tryz.underlying9 s k c hc .i64
      have hcl:=iV_ c
      by_cases hd:isD c=true
      · have hw:=iT_ c hd
        have hdl:=dN_lt c
        have hok2:okS (s.data.toList.take (k+1))=true:=by rw [okS_snoc _ k c hc,HK.out,hd];rfl
        have HO2:=Lib.hid hok2
        have HW:=Lib.hid hw
        have HD:=Lib.hid hd
        clear hok2 hw hd
        by_cases hp:k % 2=0
        · obtain ⟨_,h1,h2⟩:=kn_ _ k c hc hp
          have hget:=pfA_get (el_ (s.data.toList.take k)) s.size (k / 2) 0 (h2 (by omega))
          have hcell:=(hbk.cell (k / 2)).trans hget
          have hfr:=hbk.frozen (k / 2)
          have hp':(k:Int) % 2=0:=by omega
          have H1:=Lib.hid h1
          have HC:=Lib.hid hc
          clear h1 h2 hget hc hp
          go_wp2_with (go_at_call 200;refine (hH_ _ _ (by omega) (by omega)).mono ?_;rw [HW.out];rintro e w' ⟨rfl,rfl⟩)
          go_roundw
          case rel=>exact ⟨k+1,by omega,by go_num,HO2.out,hr.far (by simp;omega) _,by rw [or_even _ hdl,H1.out, ← pfA_set _ _ _ _ (by simp;omega)];exact hbk.set_ _ _,hB.setCell (by simp;omega) _⟩
          case measure=>simp [intOf];omega
        · have hp1:k % 2=1:=by omega
          obtain ⟨h1,h2⟩:=idOf_odd _ k c hc hp1
          have hget:=pfA_get (el_ (s.data.toList.take k)) s.size (k / 2) _ (h2 (by omega))
          have hdl2:=dg_lt s.data.toList (k - 1)
          have hcell:=(hbk.cell (k / 2)).trans hget
          have hfr:=hbk.frozen (k / 2)
          have hp':(k:Int) % 2=1:=by omega
          have H1:=Lib.hid h1
          have HC:=Lib.hid hc
          clear h1 h2 hget hc hp hp1
          generalize hold:UInt8.ofNat (16*dg s.data.toList (k - 1))=old at hcell
          have HOL:=Lib.hid hold
          clear hold
          go_wp2_with (go_at_call 200;refine (hH_ _ _ (by omega) (by omega)).mono ?_;rw [HW.out];rintro e w' ⟨rfl,rfl⟩)
          go_roundw
          case rel=>exact ⟨k+1,by omega,by go_num,HO2.out,hr.far (by simp;omega) _,by rw [← HOL.out,or_odd _ _ hdl2 hdl,H1.out, ← pfA_set _ _ _ _ (by simp;omega)];exact hbk.set_ _ _,hB.setCell (by simp;omega) _⟩
          case measure=>simp [intOf];omega
      · have hd':isD c=false:=by simpa using hd
        have hno:=okS_not _ k c hc hd'
        have hw:=iS_ c hd'
        have HNO:=Lib.hid hno
        have HW:=Lib.hid hw
        have HC:=Lib.hid hc
        clear hno hw hd hd' hc
        go_wp2_with (first
          | (go_at_call 200;refine (hH_ _ _ (by omega) (by omega)).mono ?_;rw [HW.out];rintro e w' ⟨rfl,rfl⟩)
          | (refine bc_ Z 268 _ _ Z w.heap.size Z (pfA z32 0) Z 268 (pfA z32 0) hr fd_ (by rfl) (hl_ _ _) ?_;intro w4 hb4 hg4))
        refine bodyPost_ret (fM_ Z _ Z hb4 _ Tryz.underlying268 Z fd_) Z ⟨.inr ⟨HNO.out,rfl⟩,hB.grown hg4 hB.size (by simp)⟩
    · obtain rfl:k=s.size:=by omega
      have ht:s.data.toList.take s.size=s.data.toList:=List.take_of_length_le (by rw [aB_];omega)
      have HT:=Lib.hid ht
      have hsz:=hg_ (el_ (s.data.toList.take s.size)) s.size (by simp)
      have HS:=Lib.hid hsz
      clear ht hsz
      go_wp2_with (first
        | (refine wpList_load_row Z 268 _ Z w1.heap.size Z 268 _ (0,0) _ hbk Tryz.underlying268 Z (by rw [HS.out];exact fd_) ?_)
        | (refine bc_ Z 268 _ _ Z w.heap.size Z _ Z 268 (pfA z32 0) hr (by rw [HS.out];exact fd_) (by rw [HS.out];rfl) (hl_ _ _) ?_;intro w4 hb4 hg4))
      refine bodyPost_ret (fM_ Z _ Z hb4 _ Tryz.underlying268 Z (by rw [HS.out];exact fd_)) Z ⟨.inl ⟨by rw [← HK.out,HT.out],?_⟩,hB.grown hg4 hB.size (by simp)⟩
      simp [HT.out]
end Oid
namespace Oid
open Go.RowKit Zk
theorem jR_ (n:Nat) (h:n < 16):([48,49,50,51,52,53,54,55,56,57,97,98,99,100,101,102]:List UInt8)[n]?=some (hexD n):=by
  match n,h with
  | 0,_=>rfl
  | 1,_=>rfl
  | 2,_=>rfl
  | 3,_=>rfl
  | 4,_=>rfl
  | 5,_=>rfl
  | 6,_=>rfl
  | 7,_=>rfl
  | 8,_=>rfl
  | 9,_=>rfl
  | 10,_=>rfl
  | 11,_=>rfl
  | 12,_=>rfl
  | 13,_=>rfl
  | 14,_=>rfl
  | 15,_=>rfl
  | n+16,h=>exact absurd h (by omega)
theorem gI_ (n:Nat) (h:n < 16):cb_ ((hexD n).toNat:Int)=n:=by
  match n,h with
  | 0,_=>rfl
  | 1,_=>rfl
  | 2,_=>rfl
  | 3,_=>rfl
  | 4,_=>rfl
  | 5,_=>rfl
  | 6,_=>rfl
  | 7,_=>rfl
  | 8,_=>rfl
  | 9,_=>rfl
  | 10,_=>rfl
  | 11,_=>rfl
  | 12,_=>rfl
  | 13,_=>rfl
  | 14,_=>rfl
  | 15,_=>rfl
  | n+16,h=>exact absurd h (by omega)
theorem worth_of (c:UInt8) (n:Nat) (h:cb_ (c.toNat:Int)=n):c=hexD n∧n < 16:=by
  unfold cb_ at h
  have hc:=c.toNat_lt
  split at h
  · have hn:n=c.toNat - 48:=by omega
    refine ⟨?_,by omega⟩
    apply UInt8.toNat_inj.1
    unfold hexD
    rw [if_pos (by omega),toNat_ofNat _ (by omega)]
    omega
  · split at h
    · have hn:n=c.toNat - 87:=by omega
      refine ⟨?_,by omega⟩
      apply UInt8.toNat_inj.1
      unfold hexD
      rw [if_neg (by omega),toNat_ofNat _ (by omega)]
      omega
    · omega
theorem gJ_ (c:UInt8) (w:World) :
    Calls Tryz.prog 153 #[.int .u8 (c.toNat:Int)] w fun e w'=>e=.returned (.int .i64 (cb_ (c.toNat:Int)))∧w=w':=by
  go_enter Tryz.func153,Tryz.ntmps153
  go_wp2
  go_loop [3] (fun v3=>∃ k:Nat,k≤16∧v3=.int .i64 k∧∀ j,j < k→c≠hexD j) (fun v3=>16 - (intOf v3).toNat)
  case atStart=>exact ⟨0,by omega,rfl,fun j hj=>absurd hj (by omega)⟩
  case round =>
    obtain ⟨k,hk,rfl,hn⟩:=hrel
    have HN:=Lib.hid hn
    clear hn
    by_cases hlt:k < 16
    · have hix:=fun W=>ds_ (P:=Tryz.prog) Tryz.underlying9 { data := #[48,49,50,51,52,53,54,55,56,57,97,98,99,100,101,102]} k (hexD k) (by simpa using jR_ k hlt) .i64 W
      have hcl:=iV_ c
      by_cases he:c=hexD k
      · have heq:(((hexD k).toNat:Int) == (c.toNat:Int))=true:=by rw [he];simp
        have hwd:=gI_ k hlt
        have HE:=Lib.hid he
        have HW:=Lib.hid hwd
        clear he hwd
        go_wp2
        go_ret
        exact ⟨aF_ (by rw [HE.out,HW.out]),rfl⟩
      · have heq:(((hexD k).toNat:Int) == (c.toNat:Int))=false:=by
          rw [beq_eq_false_iff_ne]
          intro h
          exact he (UInt8.toNat_inj.1 (by omega))
        have HE:=Lib.hid he
        clear he
        go_wp2
        go_round
        case rel=>exact ⟨k+1,by omega,by go_num,fun j hj=>by
          rcases Nat.lt_or_ge j k with h | h
          · exact HN.out j h
          · obtain rfl:j=k:=by omega
            exact HE.out⟩
        case measure=>simp [intOf];omega
    · obtain rfl:k=16:=by omega
      have hw:cb_ (c.toNat:Int) = -1:=by
        by_cases h:isD c=true
        · exact absurd (worth_of c (dN c) (iT_ c h)).1 (HN.out _ (dN_lt c))
        · exact iS_ c (by simpa using h)
      have HW:=Lib.hid hw
      clear hw
      go_wp2
      go_ret
      exact ⟨aF_ HW.out.symm,rfl⟩
theorem lt_ (s:ByteArray) (w:World) (h:64 < s.size) :
    Calls Tryz.prog 115 #[.string s] w fun e w'=>e=.returned (.tuple #[.agg (bA z32),.int .i64 0,.int .i64 3])∧Below w.heap.size w w':=by
  go_enter Tryz.func115,Tryz.ntmps115
  go_wp2_with (first
    | (refine be_ (o:=⟨some 2,_,_,_,_,_⟩) Z 41 Z _ eX_ ?_;intro w1 hb1 hg1)
    | (refine be_ (o:=⟨some 5,_,_,_,_,_⟩) Z 41 Z _ eX_ ?_;intro w2 hb2 hg2)
    | (refine bc_ Z 41 _ _ Z w.heap.size Z (bA z32) Z 41 (bA z32) (hb1.grown hg2 (by simp)) dn_ (by rfl) (R_ _) ?_;intro w3 hb3 hg3))
  refine bodyPost_ret (iy_ Z _ Z hb3 _ Tryz.underlying41 Z dn_) Z ⟨rfl,?_⟩
  exact (((Below.refl _ _).grown hg1 (Nat.le_refl _) (by simp)).grown hg2 hg1.size (by simp)).grown hg3 (Nat.le_trans hg1.size hg2.size) (by simp)
theorem ef_ (z:List UInt8) (j:Nat) (c:UInt8):(bA z).setIfInBounds j (.int .u8 (c.toNat:Int))=bA (z.set j c):=by
  simp only [bA,bL,List.setIfInBounds_toArray,List.map_set]
  rfl
theorem kH_ (s:ByteArray) (w:World) (h:s.size≤64) :
    Calls Tryz.prog 115 #[.string s] w fun e w'=>((okS s.data.toList=true∧e=.returned (.tuple #[.agg (bA (el_ s.data.toList)),.int .i64 s.size,.int .i64 0]))∨(okS s.data.toList=false∧e=.returned (.tuple #[.agg (bA z32),.int .i64 0,.int .i64 14])))∧Below w.heap.size w w':=by
  go_enter Tryz.func115,Tryz.ntmps115
  go_wp2_with (first
    | (refine be_ (o:=⟨some 2,_,_,_,_,_⟩) Z 41 Z _ eX_ ?_;intro w1 hb1 hg1)
    | (refine be_ (o:=⟨some 5,_,_,_,_,_⟩) Z 41 Z _ eX_ ?_;intro w2 hb2 hg2))
  have hB2:Below w.heap.size w w2:=((Below.refl _ _).grown hg1 (Nat.le_refl _) (by simp)).grown hg2 hg1.size (by simp)
  have hlt1:w.heap.size < w1.heap.size:=hb1.lt
  have hr2:Blk w2 w.heap.size 41 (bA z32):=hb1.grown hg2 (by simp)
  go_loopw [6] (fun v6 wr=>∃ k:Nat,k≤s.size∧v6=.int .i64 k∧okS (s.data.toList.take k)=true∧Blk wr w.heap.size 41 (bA z32)∧Blk wr w1.heap.size 41 (bA (el_ (s.data.toList.take k)))∧Below w.heap.size w wr) (fun v6 _=>s.size - (intOf v6).toNat)
  case atStart=>exact ⟨0,by omega,rfl,rfl,hr2,hb2,hB2⟩
  case round =>
    obtain ⟨k,hk,rfl,hok,hr,hbk,hB⟩:=hrel
    have HK:=Lib.hid hok
    clear hok
    by_cases hlt:k < s.size
    · obtain ⟨c,hc⟩:∃ c,s.data.toList[k]?=some c:=⟨s.data.toList[k]'(by rw [aB_];exact hlt),List.getElem?_eq_getElem _⟩
      have hix:=ds_ Tryz.underlying9 s k c hc .i64
      have hcl:=iV_ c
      by_cases hd:isD c=true
      · have hw:=iT_ c hd
        have hdl:=dN_lt c
        have hok2:okS (s.data.toList.take (k+1))=true:=by rw [okS_snoc _ k c hc,HK.out,hd];rfl
        have HO2:=Lib.hid hok2
        have HW:=Lib.hid hw
        have HD:=Lib.hid hd
        clear hok2 hw hd
        by_cases hp:k % 2=0
        · obtain ⟨_,h1,h2⟩:=kn_ _ k c hc hp
          have hget:=dE_ (el_ (s.data.toList.take k)) (k / 2) 0 (h2 (by omega))
          have hcell:=(hbk.cell (k / 2)).trans hget
          have hfr:=hbk.frozen (k / 2)
          have hp':(k:Int) % 2=0:=by omega
          have H1:=Lib.hid h1
          have HC:=Lib.hid hc
          clear h1 h2 hget hc hp
          go_wp2_with (go_at_call 153;refine (gJ_ _ _).mono ?_;rw [HW.out];rintro e w' ⟨rfl,rfl⟩)
          go_roundw
          case rel=>exact ⟨k+1,by omega,by go_num,HO2.out,hr.far (by simp;omega) _,by rw [show ((dN c:Int)*16)=((UInt8.ofNat (16*dN c)).toNat:Int) by rw [toNat_ofNat _ (by omega)];omega,H1.out, ← ef_];exact hbk.set_ _ _,hB.setCell (by simp;omega) _⟩
          case measure=>simp [intOf];omega
        · have hp1:k % 2=1:=by omega
          obtain ⟨h1,h2⟩:=idOf_odd _ k c hc hp1
          have hget:=dE_ (el_ (s.data.toList.take k)) (k / 2) _ (h2 (by omega))
          have hdl2:=dg_lt s.data.toList (k - 1)
          have hcell:=(hbk.cell (k / 2)).trans hget
          have hfr:=hbk.frozen (k / 2)
          have hp':(k:Int) % 2=1:=by omega
          have H1:=Lib.hid h1
          have HC:=Lib.hid hc
          clear h1 h2 hget hc hp hp1
          have hol:(UInt8.ofNat (16*dg s.data.toList (k - 1))).toNat≤240:=by rw [toNat_ofNat _ (by omega)];omega
          generalize hold:UInt8.ofNat (16*dg s.data.toList (k - 1))=old at hcell hol
          have HOL:=Lib.hid hold
          clear hold
          go_wp2_with (go_at_call 153;refine (gJ_ _ _).mono ?_;rw [HW.out];rintro e w' ⟨rfl,rfl⟩)
          go_roundw
          case rel=>exact ⟨k+1,by omega,by go_num,HO2.out,hr.far (by simp;omega) _,by rw [← HOL.out,show (((UInt8.ofNat (16*dg s.data.toList (k - 1))).toNat:Int)+(dN c:Int))=((UInt8.ofNat (16*dg s.data.toList (k - 1)+dN c)).toNat:Int) by rw [toNat_ofNat _ (by omega),toNat_ofNat _ (by omega)];omega,H1.out, ← ef_];exact hbk.set_ _ _,hB.setCell (by simp;omega) _⟩
          case measure=>simp [intOf];omega
      · have hd':isD c=false:=by simpa using hd
        have hno:=okS_not _ k c hc hd'
        have hw:=iS_ c hd'
        have HNO:=Lib.hid hno
        have HW:=Lib.hid hw
        have HC:=Lib.hid hc
        clear hno hw hd hd' hc
        go_wp2_with (first
          | (go_at_call 153;refine (gJ_ _ _).mono ?_;rw [HW.out];rintro e w' ⟨rfl,rfl⟩)
          | (refine bc_ Z 41 _ _ Z w.heap.size Z (bA z32) Z 41 (bA z32) hr dn_ (by rfl) (R_ _) ?_;intro w4 hb4 hg4))
        refine bodyPost_ret (iy_ Z _ Z hb4 _ Tryz.underlying41 Z dn_) Z ⟨.inr ⟨HNO.out,rfl⟩,hB.grown hg4 hB.size (by simp)⟩
    · obtain rfl:k=s.size:=by omega
      have ht:s.data.toList.take s.size=s.data.toList:=List.take_of_length_le (by rw [aB_];omega)
      have HT:=Lib.hid ht
      clear ht
      go_wp2_with (first
        | (refine wpList_load_row Z 41 _ Z w1.heap.size Z 41 _ (0,0) _ hbk Tryz.underlying41 Z (by simpa using dn_) ?_)
        | (refine bc_ Z 41 _ _ Z w.heap.size Z _ Z 41 (bA z32) hr (by simpa using dn_) (by simp [z32]) (R_ _) ?_;intro w4 hb4 hg4))
      refine bodyPost_ret (iy_ Z _ Z hb4 _ Tryz.underlying41 Z (by simpa using dn_)) Z ⟨.inl ⟨by rw [← HK.out,HT.out],?_⟩,hB.grown hg4 hB.size (by simp)⟩
      simp [HT.out]
end Oid
namespace Oid
open Go.RowKit Zk
theorem begin_any (s:ByteArray) (w:World) :
    Calls Tryz.prog 192 #[.string s] w fun e w'=>e=.returned (.tuple #[.agg (pfA (bQ_ s.data.toList).1 (bQ_ s.data.toList).2.1),.int .i64 (bQ_ s.data.toList).2.2])∧Below w.heap.size w w':=by
  by_cases h:64 < s.size
  · refine (begin_long s w h).mono ?_
    rintro e w' ⟨rfl,hb⟩
    exact ⟨by simp [bQ_,h],hb⟩
  · refine (ly_ s w (by omega)).mono ?_
    rintro e w' ⟨⟨hk,rfl⟩ | ⟨hk,rfl⟩,hb⟩
    · exact ⟨by simp [bQ_,h,hk],hb⟩
    · exact ⟨by simp [bQ_,h,hk],hb⟩
theorem rbegin_any (s:ByteArray) (w:World) :
    Calls Tryz.prog 115 #[.string s] w fun e w'=>e=.returned (.tuple #[.agg (bA (bQ_ s.data.toList).1),.int .i64 (bQ_ s.data.toList).2.1,.int .i64 (bQ_ s.data.toList).2.2])∧Below w.heap.size w w':=by
  by_cases h:64 < s.size
  · refine (lt_ s w h).mono ?_
    rintro e w' ⟨rfl,hb⟩
    exact ⟨by simp [bQ_,h],hb⟩
  · refine (kH_ s w (by omega)).mono ?_
    rintro e w' ⟨⟨hk,rfl⟩ | ⟨hk,rfl⟩,hb⟩
    · exact ⟨by simp [bQ_,h,hk],hb⟩
    · exact ⟨by simp [bQ_,h,hk],hb⟩
@[simp] theorem length_z32:z32.length=32:=by simp [z32]
theorem eE_ (s:List UInt8):(bQ_ s).1.length=32:=by
  unfold bQ_
  split
  · rfl
  · split
    · simp
    · rfl
def aN_ (s:List UInt8):List UInt8 × Int:=if s.length=64 then ((bQ_ s).1,(bQ_ s).2.2) else (z32,3)
theorem pfA_take (z:List UInt8) (n:Int) (h:z.length=32):((pfA z n).toList.drop 0).take (bL z).length=bL z:=by
  simp [pfA]
theorem size23L (z:List UInt8) (h:z.length=32):(Tryz.prog.info? 41).map (·.size)=some (bL z).length:=by rw [length_bL,h];exact dn_
theorem gg_ (z:List UInt8) (h:z.length=32):(Tryz.prog.info? 41).map (·.size)=some (bA z).size:=by rw [size_bA,h];exact dn_
theorem size30A (z:List UInt8) (n:Int) (h:z.length=32):(Tryz.prog.info? 268).map (·.size)=some (pfA z n).size:=by rw [hg_ z n h];exact fd_
theorem bA_z32 (z:List UInt8) (h:z.length=32):(bA z).size=(bA z32).size:=by simp [h]
theorem pfA_z32 (z:List UInt8) (n m:Int) (h:z.length=32):(pfA z n).size=(pfA z32 m).size:=by rw [hg_ z n h,hg_ _ _ Z]
theorem read_any (s:ByteArray) (w:World) :
    Calls Tryz.prog 175 #[.string s] w fun e w'=>e=.returned (.tuple #[.agg (bA (aN_ s.data.toList).1),.int .i64 (aN_ s.data.toList).2])∧Below w.heap.size w w':=by
  by_cases h:s.size=64
  · have h1:((s.size:Int) != 64)=false:=by simp [h]
    have HR:Hid (aN_ s.data.toList=((bQ_ s.data.toList).1,(bQ_ s.data.toList).2.2)):=by
      show aN_ s.data.toList=_
      unfold aN_
      rw [if_pos (by rw [aB_];exact h)]
    have HL:=Lib.hid (eE_ s.data.toList)
    clear h
    go_enter Tryz.func175,Tryz.ntmps175
    go_wp2_with (first
      | (refine be_ (o:=⟨some 2,_,_,_,_,_⟩) Z 41 Z _ eX_ ?_;intro w1 hb1 hg1)
      | (go_at_call 192;refine (begin_any s w1).mono ?_;rintro e w2 ⟨rfl,hB2⟩)
      | (refine be_ (o:=⟨some 4,_,_,_,_,_⟩) Z 268 Z _ zero30 ?_;intro w3 hb3 hg3)
      | (refine bc_ Z 268 _ _ Z w2.heap.size Z (pfA _ _) Z 268 (pfA z32 0) hb3 (size30A _ _ HL.out) (pfA_z32 _ _ _ HL.out) (hl_ _ _) ?_;intro w4 hb4 hg4)
      | (refine wpList_ldB Z 41 _ Z w2.heap.size 0 Z 268 _ hb4 (bL _) (pfA_take _ _ HL.out) _ Tryz.underlying41 Z (size23L _ HL.out) ?_)
      | (refine bc_ Z 41 _ _ Z w.heap.size Z (bA (bQ_ s.data.toList).1) Z 41 (bA z32) (((hb1.below hB2 hb1.lt).grown hg3 (by simp)).grown hg4 (by have:=hb1.lt;have:=hB2.size;simp;omega)) (gg_ _ HL.out) (bA_z32 _ HL.out) (R_ _) ?_;intro w5 hb5 hg5))
    refine bodyPost_ret (fM_ Z _ Z hb5 _ Tryz.underlying41 Z (gg_ _ HL.out)) Z ⟨by rw [HR.out];rfl,?_⟩
    have hs1:=hg1.size
    have hs2:=hB2.size
    have hs3:=hg3.size
    have hs4:=hg4.size
    exact (((((Below.refl _ _).grown hg1 (Nat.le_refl _) (by simp)).trans (hB2.mono hs1)).grown hg3 (by omega) (by simp)).grown hg4 (by omega) (by simp;omega)).grown hg5 (by omega) (by simp)
  · have h1:((s.size:Int) != 64)=true:=by rw [bne_iff_ne];omega
    have HR:Hid (aN_ s.data.toList=(z32,3)):=by
      show aN_ s.data.toList=_
      unfold aN_
      rw [if_neg (by rw [aB_];exact h)]
    clear h
    go_enter Tryz.func175,Tryz.ntmps175
    go_wp2_with (first
      | (refine be_ (o:=⟨some 2,_,_,_,_,_⟩) Z 41 Z _ eX_ ?_;intro w1 hb1 hg1)
      | (refine bc_ Z 41 _ _ Z w.heap.size Z (bA z32) Z 41 (bA z32) hb1 dn_ Z (R_ _) ?_;intro w5 hb5 hg5))
    refine bodyPost_ret (fM_ Z _ Z hb5 _ Tryz.underlying41 Z dn_) Z ⟨by rw [HR.out];rfl,?_⟩
    exact ((Below.refl _ _).grown hg1 (Nat.le_refl _) (by simp)).grown hg5 hg1.size (by simp)
theorem rread_any (s:ByteArray) (w:World) :
    Calls Tryz.prog 79 #[.string s] w fun e w'=>e=.returned (.tuple #[.agg (bA (aN_ s.data.toList).1),.int .i64 (aN_ s.data.toList).2])∧Below w.heap.size w w':=by
  by_cases h:s.size=64
  · have h1:((s.size:Int) != 64)=false:=by simp [h]
    have HR:Hid (aN_ s.data.toList=((bQ_ s.data.toList).1,(bQ_ s.data.toList).2.2)):=by
      show aN_ s.data.toList=_
      unfold aN_
      rw [if_pos (by rw [aB_];exact h)]
    have HL:=Lib.hid (eE_ s.data.toList)
    clear h
    go_enter Tryz.func79,Tryz.ntmps79
    go_wp2_with (first
      | (refine be_ (o:=⟨some 2,_,_,_,_,_⟩) Z 41 Z _ eX_ ?_;intro w1 hb1 hg1)
      | (go_at_call 115;refine (rbegin_any s w1).mono ?_;rintro e w2 ⟨rfl,hB2⟩)
      | (refine be_ (o:=⟨some 4,_,_,_,_,_⟩) Z 41 Z _ eX_ ?_;intro w3 hb3 hg3)
      | (refine bc_ Z 41 _ _ Z w2.heap.size Z (bA _) Z 41 (bA z32) hb3 (gg_ _ HL.out) (bA_z32 _ HL.out) (R_ _) ?_;intro w4 hb4 hg4)
      | (refine wpList_load_row Z 41 _ Z w2.heap.size Z 41 _ (0,0) _ hb4 Tryz.underlying41 Z (gg_ _ HL.out) ?_)
      | (refine bc_ Z 41 _ _ Z w.heap.size Z (bA (bQ_ s.data.toList).1) Z 41 (bA z32) (((hb1.below hB2 hb1.lt).grown hg3 (by simp)).grown hg4 (by have:=hb1.lt;have:=hB2.size;simp;omega)) (gg_ _ HL.out) (bA_z32 _ HL.out) (R_ _) ?_;intro w5 hb5 hg5))
    refine bodyPost_ret (fM_ Z _ Z hb5 _ Tryz.underlying41 Z (gg_ _ HL.out)) Z ⟨by rw [HR.out];rfl,?_⟩
    have hs1:=hg1.size
    have hs2:=hB2.size
    have hs3:=hg3.size
    have hs4:=hg4.size
    exact (((((Below.refl _ _).grown hg1 (Nat.le_refl _) (by simp)).trans (hB2.mono hs1)).grown hg3 (by omega) (by simp)).grown hg4 (by omega) (by simp;omega)).grown hg5 (by omega) (by simp)
  · have h1:((s.size:Int) != 64)=true:=by rw [bne_iff_ne];omega
    have HR:Hid (aN_ s.data.toList=(z32,3)):=by
      show aN_ s.data.toList=_
      unfold aN_
      rw [if_neg (by rw [aB_];exact h)]
    clear h
    go_enter Tryz.func79,Tryz.ntmps79
    go_wp2_with (first
      | (refine be_ (o:=⟨some 2,_,_,_,_,_⟩) Z 41 Z _ eX_ ?_;intro w1 hb1 hg1)
      | (refine bc_ Z 41 _ _ Z w.heap.size Z (bA z32) Z 41 (bA z32) hb1 dn_ Z (R_ _) ?_;intro w5 hb5 hg5))
    refine bodyPost_ret (fM_ Z _ Z hb5 _ Tryz.underlying41 Z dn_) Z ⟨by rw [HR.out];rfl,?_⟩
    exact ((Below.refl _ _).grown hg1 (Nat.le_refl _) (by simp)).grown hg5 hg1.size (by simp)
def digL (z:List UInt8):List Int:=z.flatMap fun c=>[(c.toNat:Int) / 16,(c.toNat:Int) % 16]
end Oid
namespace Oid
open Go.RowKit Zk
theorem cU_ (z:List UInt8):(hexL z).length=2*z.length:=by
  induction z with
  | nil=>rfl
  | cons c z ih=>simp [hexL] at ih ⊢;omega
def cutL (z:List UInt8) (n:Nat):List UInt8:=(List.range 32).map fun j=>if j < n / 2 then z.getD j 0 else if j=n / 2∧n % 2=1 then UInt8.ofNat ((z.getD j 0).toNat / 16*16) else 0
@[simp] theorem length_cutL (z:List UInt8) (n:Nat):(cutL z n).length=32:=by simp [cutL]
end Oid
namespace Oid
open Go.RowKit Zk
end Oid
namespace Oid
open Go.RowKit Zk
end Oid
namespace Oid
open Go.RowKit Zk
theorem isD_hexD (n:Nat) (h:n < 16):isD (hexD n)=true:=by
  simp [isD,gI_ n h]
theorem dN_hexD (n:Nat) (h:n < 16):dN (hexD n)=n:=by
  simp [dN,gI_ n h]
theorem jB_ (z:List UInt8):∀ k,k < 2*z.length→∃ n,n < 16∧(hexL z)[k]?=some (hexD n)∧∀ c,z[k / 2]?=some c→n=if k % 2=0 then c.toNat / 16 else c.toNat % 16:=by
  induction z with
  | nil=>intro k h;simp at h
  | cons c z ih =>
    intro k h
    match k with
    | 0=>exact ⟨c.toNat / 16,by have:=c.toNat_lt;omega,by simp [hexL],fun d hd=>by simp at hd;subst hd;simp⟩
    | 1=>exact ⟨c.toNat % 16,by omega,by simp [hexL],fun d hd=>by simp at hd;subst hd;simp⟩
    | k+2 =>
      obtain ⟨n,h1,h2,h3⟩:=ih k (by simp at h;omega)
      refine ⟨n,h1,by simpa [hexL] using h2,fun d hd=>?_⟩
      have e:(k+2) / 2=k / 2+1:=by omega
      rw [e,List.getElem?_cons_succ] at hd
      have:=h3 d hd
      rw [this]
      have e2:(k+2) % 2=k % 2:=by omega
      rw [e2]
theorem okS_hexL (z:List UInt8):okS (hexL z)=true:=by
  simp only [okS,List.all_eq_true]
  intro x hx
  obtain ⟨k,hk⟩:=List.getElem?_of_mem hx
  have hl:k < (hexL z).length:=(List.getElem?_eq_some_iff.1 hk).1
  rw [cU_] at hl
  obtain ⟨n,h1,h2,_⟩:=jB_ z k hl
  rw [h2] at hk
  cases hk
  exact isD_hexD n h1
theorem idOf_hexL (z:List UInt8) (h:z.length=32):el_ (hexL z)=z:=by
  apply List.ext_getElem?
  intro j
  by_cases hj:j < 32
  · have hz:z[j]?=some (z[j]'(by omega)):=List.getElem?_eq_getElem _
    rw [dZ_ _ _ hj,hz]
    obtain ⟨n,h1,h2,h3⟩:=jB_ z (2*j) (by omega)
    obtain ⟨m,g1,g2,g3⟩:=jB_ z (2*j+1) (by omega)
    have e1:2*j / 2=j:=by omega
    have e2:(2*j+1) / 2=j:=by omega
    rw [e1] at h3
    rw [e2] at g3
    have a1:=h3 _ hz
    have a2:=g3 _ hz
    rw [if_pos (by omega)] at a1
    rw [if_neg (by omega)] at a2
    rw [dg_at _ _ _ h2,dg_at _ _ _ g2,dN_hexD n h1,dN_hexD m g1]
    congr 1
    apply UInt8.toNat_inj.1
    have:=(z[j]'(by omega)).toNat_lt
    rw [toNat_ofNat _ (by omega)]
    omega
  · rw [List.getElem?_eq_none (by simp;omega),List.getElem?_eq_none (by omega)]
theorem read_hex (z:List UInt8) (h:z.length=32):aN_ (hexL z)=(z,0):=by
  have hl:(hexL z).length=64:=by rw [cU_,h]
  unfold aN_ bQ_
  rw [if_pos hl,if_neg (by omega),if_pos (okS_hexL z),idOf_hexL z h]
theorem bh_ (s:List UInt8):(aN_ s).1.length=32:=by
  unfold aN_
  split
  · exact eE_ s
  · rfl
end Oid
namespace Oid
open Go.RowKit Zk
end Oid
namespace Oid
open Go.RowKit Zk
def bx_:List UInt8→List UInt8→Bool
  | x::xs,y::ys=>if x=y then bx_ xs ys else decide (x.toNat < y.toNat)
  | _,_=>false
def cmpL (a b:List UInt8):Int:=if bx_ a b=true then -1 else if bx_ b a=true then 1 else 0
theorem gG_:∀ a,bx_ a a=false
  | []=>rfl
  | x::xs=>by simp [bx_,gG_ xs]
theorem is_ (x:UInt8) (a b:List UInt8):bx_ (x::a) (x::b)=bx_ a b:=by simp [bx_]
theorem drop_at (a:List UInt8) (k:Nat) (x:UInt8) (h:a[k]?=some x):a.drop k=x::a.drop (k+1):=by
  obtain ⟨hl,he⟩:=List.getElem?_eq_some_iff.1 h
  rw [List.drop_eq_getElem_cons hl,he]
def cmpZ (x y:Int):Int:=if x < y then -1 else if y < x then 1 else 0
theorem kP_ (x:Int) (w:World):Calls Tryz.prog 217 #[.int .u8 x] w fun e w'=>e=.returned (.bool false)∧w=w':=by
  go_enter Tryz.func217,Tryz.ntmps217
  go_wp2
  go_ret
  exact ⟨ret_bool (by simp),rfl⟩
theorem cmp_any (x y:Int) (w:World):Calls Tryz.prog 211 #[.int .u8 x,.int .u8 y] w fun e w'=>e=.returned (.int .i64 (cmpZ x y))∧w=w':=by
  by_cases h1:x < y
  · go_enter Tryz.func211,Tryz.ntmps211
    go_wp2_with (go_at_call 217;refine (kP_ _ _).mono ?_;rintro e w' ⟨rfl,rfl⟩)
    go_ret
    exact ⟨aF_ (by simp [cmpZ,h1]),rfl⟩
  · by_cases h2:y < x
    · go_enter Tryz.func211,Tryz.ntmps211
      go_wp2_with (go_at_call 217;refine (kP_ _ _).mono ?_;rintro e w' ⟨rfl,rfl⟩)
      go_ret
      exact ⟨aF_ (by unfold cmpZ;rw [if_neg (by omega),if_pos (by omega)]),rfl⟩
    · go_enter Tryz.func211,Tryz.ntmps211
      go_wp2_with (go_at_call 217;refine (kP_ _ _).mono ?_;rintro e w' ⟨rfl,rfl⟩)
      go_ret
      exact ⟨aF_ (by unfold cmpZ;rw [if_neg (by omega),if_neg (by omega)]),rfl⟩
theorem cmpL_at (a b:List UInt8) (k:Nat) (x y:UInt8) (ha:a[k]?=some x) (hb:b[k]?=some y) (h:bx_ (a.drop k) (b.drop k)=bx_ a b) (h':bx_ (b.drop k) (a.drop k)=bx_ b a) (hne:x≠y) :
    cmpZ x.toNat y.toNat=cmpL a b∧cmpZ x.toNat y.toNat≠0:=by
  rw [drop_at a k x ha,drop_at b k y hb] at h h'
  have hn:x.toNat≠y.toNat:=fun e=>hne (UInt8.toNat_inj.1 e)
  have hne':¬ y=x:=fun e=>hne e.symm
  unfold cmpL cmpZ
  rw [← h, ← h']
  simp only [bx_,hne,hne',if_false,decide_eq_true_eq]
  rcases Nat.lt_or_ge x.toNat y.toNat with h1 | h1
  · rw [if_pos (by omega),if_pos h1]
    exact ⟨rfl,by omega⟩
  · rw [if_neg (by omega),if_pos (by omega),if_neg (by omega),if_pos (by omega)]
    exact ⟨rfl,by omega⟩
theorem kC_ (a b:List UInt8) (g h:Nat) (w:World) (ha:a.length=32) (hb:b.length=32) (hbg:Blk w g 41 (bA a)) (hbh:Blk w h 41 (bA b)) :
    Calls Tryz.prog 197 #[.slice (some ⟨g,0,none⟩) 32 32,.slice (some ⟨h,0,none⟩) 32 32] w fun e w'=>e=.returned (.int .i64 (cmpL a b))∧w=w':=by
  have HA:=Lib.hid ha
  have HB:=Lib.hid hb
  clear ha hb
  go_enter Tryz.func197,Tryz.ntmps197
  go_wp2_with fail
  go_loop [11] (fun v11=>∃ k:Nat,k≤32∧v11=.int .i64 k∧Hid (bx_ (a.drop k) (b.drop k)=bx_ a b)∧Hid (bx_ (b.drop k) (a.drop k)=bx_ b a)) (fun v11=>32 - (intOf v11).toNat)
  case atStart=>exact ⟨0,by omega,rfl,Lib.hid Z,Lib.hid Z⟩
  case round =>
    obtain ⟨k,hk,rfl,HS,HT⟩:=hrel
    by_cases hlt:k < 32
    · obtain ⟨x,hx⟩:∃ x,a[k]?=some x:=⟨a[k]'(by rw [HA.out];exact hlt),List.getElem?_eq_getElem _⟩
      obtain ⟨y,hy⟩:∃ y,b[k]?=some y:=⟨b[k]'(by rw [HB.out];exact hlt),List.getElem?_eq_getElem _⟩
      have hc1:=(hbg.cell k).trans (dE_ a k x hx)
      have hc2:=(hbh.cell k).trans (dE_ b k y hy)
      have hk1:(k:Int) < 32:=by omega
      have HX:=Lib.hid hx
      have HY:=Lib.hid hy
      clear hx hy
      by_cases hxy:x=y
      · have hz:Hid (cmpZ (x.toNat:Int) (y.toNat:Int)=0):=by show _=_;rw [hxy];unfold cmpZ;rw [if_neg (by omega),if_neg (by omega)]
        have hs2:Hid (bx_ (a.drop (k+1)) (b.drop (k+1))=bx_ a b):=by
          show _=_
          have:=HS.out
          rw [drop_at a k x HX.out,drop_at b k y HY.out,hxy,is_] at this
          exact this
        have hs3:Hid (bx_ (b.drop (k+1)) (a.drop (k+1))=bx_ b a):=by
          show _=_
          have:=HT.out
          rw [drop_at a k x HX.out,drop_at b k y HY.out,hxy,is_] at this
          exact this
        clear hxy
        go_wp2_with (go_at_call 211;refine (cmp_any _ _ _).mono ?_;rw [hz.out];rintro e w' ⟨rfl,rfl⟩)
        go_round
        case rel=>exact ⟨k+1,by omega,by go_num,hs2,hs3⟩
        case measure=>simp [intOf];omega
      · obtain ⟨h1,h2⟩:=cmpL_at a b k x y HX.out HY.out HS.out HT.out hxy
        have hz:(cmpZ (x.toNat:Int) (y.toNat:Int) != 0)=true:=by rw [bne_iff_ne];exact h2
        have HR:=Lib.hid h1
        clear h1 h2 hxy
        go_wp2_with (go_at_call 211;refine (cmp_any _ _ _).mono ?_;rintro e w' ⟨rfl,rfl⟩)
        go_ret
        exact ⟨aF_ HR.out,rfl⟩
    · obtain rfl:k=32:=by omega
      go_wp2
      go_ret
      refine ⟨aF_ ?_,rfl⟩
      have h1:=HS.out
      have h2:=HT.out
      rw [List.drop_of_length_le (l:=a) (by rw [HA.out];omega)] at h1
      rw [List.drop_of_length_le (l:=b) (by rw [HB.out];omega)] at h2
      simp [cmpL, ← h1, ← h2,bx_]
theorem slice23all (g:Nat) (W:World):(Instr.sliceAt 41 (.pointer (some ⟨g,0,none⟩)) none none none).run Tryz.prog W=.ok (.slice (some ⟨g,0,none⟩) 32 32) W:=by
  have hal:Tryz.prog.arrayLen 41=32:=by kernel_rfl
  have:=run_sliceAt_array_all (P:=Tryz.prog) W 41 ⟨g,0,none⟩ (by rw [hal];exact Tryz.underlying41)
  rw [this,hal]
  have hs:(sizeOf (Tryz.prog.elem 41)).run Tryz.prog W=.ok 1 W:=by kernel_rfl
  rw [hs]
  simp [slicedAt,Result.andThen,Addr.add]
end Oid
namespace Oid
open Go.RowKit Zk
def eD_ (z:List UInt8) (k:Nat):Nat:=if k % 2=0 then (z.getD (k / 2) 0).toNat / 16 else (z.getD (k / 2) 0).toNat % 16
theorem digL_nib (z:List UInt8):∀ k,k < 2*z.length→(digL z)[k]?=some (eD_ z k:Int):=by
  induction z with
  | nil=>intro k h;simp at h
  | cons c z ih =>
    intro k h
    match k with
    | 0=>simp [digL,eD_]
    | 1=>simp [digL,eD_]
    | k+2 =>
      have:=ih k (by simp at h;omega)
      have e:(k+2) / 2=k / 2+1:=by omega
      have e2:(k+2) % 2=k % 2:=by omega
      simp only [eD_,e,e2,List.getD_cons_succ]
      simpa [digL,eD_] using this
theorem nib_ext (a b:List UInt8) (ha:a.length=32) (hb:b.length=32) (h:∀ k,k < 64→eD_ a k=eD_ b k):a=b:=by
  apply List.ext_getElem (by omega)
  intro i h1 h2
  have x:=h (2*i) (by omega)
  have y:=h (2*i+1) (by omega)
  have e1:2*i / 2=i:=by omega
  have e2:(2*i+1) / 2=i:=by omega
  simp only [eD_,e1,e2] at x y
  rw [if_pos (by omega),if_pos (by omega)] at x
  rw [if_neg (by omega),if_neg (by omega)] at y
  simp only [List.getD_eq_getElem?_getD,List.getElem?_eq_getElem h1,List.getElem?_eq_getElem h2,Option.getD_some] at x y
  exact UInt8.toNat_inj.1 (by omega)
end Oid
namespace Oid
open Go.RowKit Zk
theorem hS_ {w:World} {base g c:Nat} {z:List UInt8} (ho:w.ownsRow base 3 1 (.slice (some ⟨g,0,none⟩) 64 c) 64 (iL (digL z))) (h:z.length=32) :
    ∀ k,k < 64→w.cell? ⟨g,k,none⟩=some (.int .i64 (eD_ z k:Int)):=fun k hk=>by
  rw [ho.cellAt k (by omega)]
  exact iL_get _ _ _ (digL_nib z k (by rw [h];omega))
end Oid
namespace Oid
open Go.RowKit Zk
end Oid
namespace Oid
open Go.RowKit Zk
structure Id where
  l:List UInt8
  h:l.length=32
theorem Id.ext {a b:Id} (h:a.l=b.l):a=b:=by cases a;cases b;simp_all
def nib (a:Id) (k:Nat):Nat:=eD_ a.l k
theorem da_ (c:UInt8) (x:List UInt8):eD_ (c::x) 0=c.toNat / 16:=by simp [eD_]
theorem eC_ (c:UInt8) (x:List UInt8):eD_ (c::x) 1=c.toNat % 16:=by simp [eD_]
theorem fR_ (c:UInt8) (x:List UInt8) (k:Nat):eD_ (c::x) (k+2)=eD_ x k:=by
  have e:(k+2) / 2=k / 2+1:=by omega
  have e2:(k+2) % 2=k % 2:=by omega
  simp only [eD_,e,e2,List.getD_cons_succ]
theorem kz_:∀ (x y:List UInt8),x.length=y.length→(bx_ x y=true↔∃ i,i < 2*x.length∧(∀ j,j < i→eD_ x j=eD_ y j)∧eD_ x i < eD_ y i)
  | [],[],_=>⟨(fun h=>by cases h),fun ⟨i,h,_⟩=>by simp at h⟩
  | [],_::_,h=>by cases h
  | _::_,[],h=>by cases h
  | c :: x,d::y,h=>by
    have ih:=kz_ x y (by simpa using h)
    have hc:=c.toNat_lt
    have hd:=d.toNat_lt
    simp only [bx_,List.length_cons]
    by_cases e:c=d
    · subst e
      rw [if_pos Z,ih]
      constructor
      · rintro ⟨i,h1,h2,h3⟩
        refine ⟨i+2,by omega,fun j hj=>?_,by rw [fR_,fR_];exact h3⟩
        match j with
        | 0=>rw [da_,da_]
        | 1=>rw [eC_,eC_]
        | j+2=>rw [fR_,fR_];exact h2 j (by omega)
      · rintro ⟨i,h1,h2,h3⟩
        match i with
        | 0=>rw [da_,da_] at h3;omega
        | 1=>rw [eC_,eC_] at h3;omega
        | i+2 =>
          rw [fR_,fR_] at h3
          exact ⟨i,by omega,fun j hj=>by have:=h2 (j+2) (by omega);rwa [fR_,fR_] at this,h3⟩
    · rw [if_neg e,decide_eq_true_iff]
      have hne:c.toNat≠d.toNat:=fun q=>e (UInt8.toNat_inj.1 q)
      constructor
      · intro hlt
        by_cases h1:c.toNat / 16 < d.toNat / 16
        · exact ⟨0,by omega,fun j hj=>by omega,by rw [da_,da_];exact h1⟩
        · refine ⟨1,by omega,fun j hj=>?_,by rw [eC_,eC_];omega⟩
          have:j=0:=by omega
          subst this
          rw [da_,da_];omega
      · rintro ⟨i,h1,h2,h3⟩
        match i with
        | 0=>rw [da_,da_] at h3;omega
        | 1 =>
          have:=h2 0 (by omega)
          rw [da_,da_] at this
          rw [eC_,eC_] at h3
          omega
        | i+2 =>
          have g0:=h2 0 (by omega)
          have g1:=h2 1 (by omega)
          rw [da_,da_] at g0
          rw [eC_,eC_] at g1
          omega
def lt (a b:Id):Bool:=bx_ a.l b.l
theorem jw_ (a b:Id):lt a b=true↔∃ i,i < 64∧(∀ j,j < i→nib a j=nib b j)∧nib a i < nib b i:=by
  have:=kz_ a.l b.l (by rw [a.h,b.h])
  rw [a.h] at this
  exact this
theorem lt_irr (a:Id):lt a a=false:=gG_ _
theorem lt_trans (a b c:Id) (h1:lt a b=true) (h2:lt b c=true):lt a c=true:=by
  obtain ⟨i,a1,a2,a3⟩:=(jw_ a b).1 h1
  obtain ⟨j,b1,b2,b3⟩:=(jw_ b c).1 h2
  refine (jw_ a c).2 ?_
  rcases Nat.lt_trichotomy i j with h | h | h
  · exact ⟨i,a1,fun k hk=>(a2 k hk).trans (b2 k (by omega)),by rw [← b2 i h];exact a3⟩
  · subst h;exact ⟨i,a1,fun k hk=>(a2 k hk).trans (b2 k hk),by omega⟩
  · exact ⟨j,b1,fun k hk=>(a2 k (by omega)).trans (b2 k hk),by rw [a2 j h];exact b3⟩
theorem first_diff (a b:Id) (n:Nat):(∀ j,j < n→nib a j=nib b j)∨∃ i,i < n∧(∀ j,j < i→nib a j=nib b j)∧nib a i≠nib b i:=by
  induction n with
  | zero=>exact .inl fun j hj=>by omega
  | succ n ih =>
    rcases ih with h | ⟨i,h1,h2,h3⟩
    · by_cases e:nib a n=nib b n
      · exact .inl fun j hj=>by
          rcases Nat.lt_or_ge j n with h4 | h4
          · exact h j h4
          · rw [show j=n by omega];exact e
      · exact .inr ⟨n,by omega,h,e⟩
    · exact .inr ⟨i,by omega,h2,h3⟩
theorem jv_ (a b:Id) (h:lt a b=false) (hne:a≠b):lt b a=true:=by
  rcases first_diff a b 64 with h1 | ⟨i,h1,h2,h3⟩
  · exact (hne (Id.ext (nib_ext _ _ a.h b.h h1))).elim
  · rcases Nat.lt_or_gt_of_ne h3 with h4 | h4
    · rw [(jw_ a b).2 ⟨i,h1,h2,h4⟩] at h;cases h
    · exact (jw_ b a).2 ⟨i,h1,fun j hj=>(h2 j hj).symm,h4⟩
def ris:List Id→Bool
  | a::b::r=>lt a b && ris (b::r)
  | _=>true
theorem jf_:∀ l:List Id,ris l=true→l.Pairwise fun a b=>lt a b=true
  | [],_=>List.Pairwise.nil
  | [a],_=>List.pairwise_singleton _ _
  | a :: b::r,h=>by
    simp only [ris,Bool.and_eq_true] at h
    have ih:=jf_ (b::r) h.2
    rw [List.pairwise_cons]
    refine ⟨fun c hc=>?_,ih⟩
    rcases List.mem_cons.1 hc with rfl | hc
    · exact h.1
    · rw [List.pairwise_cons] at ih
      exact lt_trans _ _ _ h.1 (ih.1 c hc)
theorem pair_ris:∀ l:List Id,(l.Pairwise fun a b=>lt a b=true)→ris l=true
  | [],_=>rfl
  | [a],_=>rfl
  | a::b::r,h=>by
    rw [List.pairwise_cons] at h
    simp only [ris,Bool.and_eq_true]
    exact ⟨h.1 b List.mem_cons_self,pair_ris (b::r) h.2⟩
theorem ris_at {l:List Id} (h:ris l=true) {i j:Nat} {x y:Id} (hi:l[i]?=some x) (hj:l[j]?=some y) (hij:i < j):lt x y=true:=by
  obtain ⟨i1,i2⟩:=List.getElem?_eq_some_iff.1 hi
  obtain ⟨j1,j2⟩:=List.getElem?_eq_some_iff.1 hj
  subst i2;subst j2
  exact List.pairwise_iff_getElem.1 (jf_ l h) i j i1 j1 hij
theorem gl_ {l:List Id} {k:Nat} (h:l.length≤k+1):ris (l.drop k)=true:=by
  have hl:(l.drop k).length≤1:=by rw [List.length_drop];omega
  match l.drop k,hl with
  | [],_=>rfl
  | [a],_=>rfl
def posOk (l:List Id) (x:Id) (n:Nat):Prop:=n≤l.length∧∀ i y,l[i]?=some y→lt y x=decide (i < n)
theorem posOk.of {l:List Id} (hr:ris l=true) {x:Id} {n:Nat} (h1:n≤l.length) (h2:∀ i y,i < n→l[i]?=some y→lt y x=true) (h3:∀ y,l[n]?=some y→lt y x=false):posOk l x n :=
  ⟨h1,fun i y hy=>by
    rcases Nat.lt_or_ge i n with h | h
    · rw [decide_eq_true h];exact h2 i y h hy
    · rw [decide_eq_false (by omega)]
      have hl:n < l.length:=by have:=(List.getElem?_eq_some_iff.1 hy).1;omega
      have hn:=h3 _ (List.getElem?_eq_getElem hl)
      rcases Nat.lt_or_ge n i with h4 | h4
      · have h5:=ris_at hr (List.getElem?_eq_getElem hl) hy h4
        cases h6:lt y x
        · rfl
        · rw [lt_trans _ _ _ h5 h6] at hn;cases hn
      · have e:i=n:=by omega
        subst e
        rw [List.getElem?_eq_getElem hl] at hy
        cases hy
        exact hn⟩
end Oid
namespace Oid
open Go.RowKit Zk Zx
instance:DecidableEq Id:=fun a b=>decidable_of_iff (a.l=b.l) ⟨Id.ext,fun h=>by rw [h]⟩
def idf (x:Id):List Value:=bL x.l
theorem B_ (x:Id):(idf x).length=32:=by simp [idf,x.h]
theorem kV_ (l:List Id):(l.flatMap idf).length=l.length*32:=by
  induction l with
  | nil=>rfl
  | cons x l ih=>rw [List.flatMap_cons,List.length_append,ih,B_,List.length_cons];omega
theorem io_ {w:World} {A:Option Addr} {n c:Nat} {l:List Id} (h:Rs w 32 A n c (l.flatMap idf)):n=l.length:=by
  have:=h.len
  rw [kV_] at this
  omega
theorem ids_one (l:List Id):∀ u ∈ l.flatMap idf,u.oneCell'=true:=fun u hu=>by
  obtain ⟨p,_,hp⟩:=List.mem_flatMap.1 hu
  exact R_ _ u hp
theorem cmp_lt (a b:Id):cmpL a.l b.l < 0↔lt a b=true:=by
  unfold cmpL lt
  by_cases h:bx_ a.l b.l=true
  · simp [h]
  · rw [if_neg h]
    constructor
    · intro h2;split at h2 <;> omega
    · intro h2;exact (h h2).elim
theorem cmp_ge (a b:Id):0≤cmpL a.l b.l↔lt a b=false:=by
  have h:=cmp_lt a b
  constructor
  · intro h1
    cases h2:lt a b
    · rfl
    · have:=h.2 h2;omega
  · intro h1
    apply Int.not_lt.1
    intro h2
    rw [h.1 h2] at h1
    cases h1
end Oid
namespace Oid
open Go.RowKit Zk Zx
def AL (a b:Id) (m:Nat):Prop:=m≤64∧(∀ j,j < m→nib a j=nib b j)∧(m < 64→nib a m≠nib b m)
end Oid
namespace Oid
open Go.RowKit Zk Zx
theorem AL.lt {a b:Id} {m:Nat} (h:AL a b m) (hne:a≠b):m < 64:=by
  rcases Nat.lt_or_ge m 64 with h1 | h1
  · exact h1
  · exact (hne (Id.ext (nib_ext _ _ a.h b.h fun k hk=>h.2.1 k (by omega)))).elim
theorem gM_ {l:List Id} (hr:ris l=true) {i j:Nat} {x y:Id} (hi:l[i]?=some x) (hj:l[j]?=some y) (hij:i≠j):x≠y:=fun e=>by
  subst e
  rcases Nat.lt_or_gt_of_ne hij with h | h
  · have:=ris_at hr hi hj h;rw [lt_irr] at this;cases this
  · have:=ris_at hr hj hi h;rw [lt_irr] at this;cases this
end Oid
namespace Oid
open Go.RowKit Zk Zx
end Oid
namespace Oid
open Go.RowKit Zk Zx
theorem idf_take:∀ (xs:List Id) (i:Nat),(xs.flatMap idf).take (i*32)=(xs.take i).flatMap idf
  | _,0=>by simp
  | [],i+1=>by simp
  | y::xs,i+1=>by
    rw [List.flatMap_cons,List.take_succ_cons,List.flatMap_cons, ← idf_take xs i,show (i+1)*32=(idf y).length+i*32 by rw [B_];omega,List.take_length_add_append]
theorem idf_drop:∀ (xs:List Id) (i:Nat),(xs.flatMap idf).drop (i*32)=(xs.drop i).flatMap idf
  | _,0=>by simp
  | [],i+1=>by simp
  | y::xs,i+1=>by
    rw [List.flatMap_cons,List.drop_succ_cons, ← idf_drop xs i,show (i+1)*32=(idf y).length+i*32 by rw [B_];omega,List.drop_length_add_append]
end Oid
namespace Oid
open Go.RowKit Zk Zx
end Oid
namespace Zx
open Go.ChangeShapes Go.WideShapes Go.ChangeAt Go.RowKit Go.Deep Zk
section
variable {H : Type} {enc : TypeId × Value → H} {P : Program} {w : World} {base : Nat} {spare : Nat → Bool} {held : Bool}
theorem bulk_pos (d:DataW H):1≤Rows.uptoBulk d:=by
  cases d with
  | lit l=>cases l <;> simp [Rows.uptoBulk]
  | _=>simp [Rows.uptoBulk]
theorem jK_ {α:Type} (m : α→Nat):∀ (l:List α) (D:Nat→DataW H),(∀ i y,l[i]?=some y→m y≤Rows.uptoBulk (D i))→(l.map m).sum≤Rows.uptoBulkAll ((List.range l.length).map D)
  | [],D,h=>by simp
  | x::l,D,h=>by
    rw [List.length_cons,List.range_succ_eq_map,List.map_cons,List.map_cons,List.map_map,Rows.uptoBulkAll,List.sum_cons]
    have h1:=h 0 x Z
    have h2:=jK_ m l (D ∘ Nat.succ) (fun i y hy=>h (i+1) y hy)
    omega
theorem read_rowNB {α:Type} (f : α→List Value) (φ : α→Prop) (m : α→Nat) (size:Nat) {t e:TypeId} (ht:P.underlying t=some (.slice e)) (hc:P.cellsOf e=size) (hpos:0 < size) (hlen:∀ y,(f y).length=size)
    (hread:∀ n cs x,cs.length=size→DataW.trod enc P w base spare held n e cs=some x→∃ y,cs=f y ∧ φ y∧m y≤Rows.uptoBulk x.1)
    {fuel:Nat} {cs:List Value} {x:DataW H × List MemPlace} (h:DataW.trod enc P w base spare held fuel t cs=some x) :
    ∃ A n c,∃ l:List α,cs=[.slice A n c]∧Rs w size A n c (l.flatMap f)∧(∀ y ∈ l, φ y)∧l.length=n∧(l.map m).sum+1≤Rows.uptoBulk x.1:=by
  rcases open_slice ht h with ⟨rfl,rfl⟩ | ⟨a,len,cap,k,n,D,Pl,rfl,_,hl,hm,hmm,rfl,hi⟩
  · exact ⟨none,0,0,[],rfl,Rs.nil w size,(fun y hy=>by cases hy),rfl,by simp [Rows.uptoBulk]⟩
  · have hle:len≤k:=by rw [hmm];split <;> omega
    rw [hc] at hi
    obtain ⟨l,hll,hp⟩:=kU_ (fun i (y : α)=>w.cells? base (a.add (i*size)) size=some (f y) ∧ φ y∧m y≤Rows.uptoBulk (D i)) len (fun i hil=>by
      obtain ⟨cs',h1,h2⟩:=hi i (by omega)
      obtain ⟨y,h3,h4,h5⟩:=hread n cs' _ (World.cells?_some h1).2.1 h2
      exact ⟨y,by rw [← h3];exact h1,h4,h5⟩)
    refine ⟨some a,len,cap,l,rfl,⟨⟨by rw [fU_ f size hlen,hll],fun h0=>⟨a,rfl,?_,fun j u hu=>?_⟩⟩,hl,by unfold maxLen at hm;exact hm⟩,fun y hy=>?_,hll,?_⟩
    · obtain ⟨cs',h1,h2⟩:=hi 0 (by omega)
      have h3:=(World.cells?_some h1).2.2 0 hpos
      rw [List.getElem?_eq_getElem (by rw [(World.cells?_some h1).2.1];exact hpos)] at h3
      have:=World.block_lt_of_cell? w _ h3
      rwa [bJ_,bJ_] at this
    · obtain ⟨i,y,h1,h2,h3⟩:=flat_get f size hlen l j u hu
      have h4:=(World.cells?_some (hp i y h1).1).2.2 (j - i*size) (by have:=(List.getElem?_eq_some_iff.1 h3).1;rwa [hlen y] at this)
      rw [Go.Deep.add_add,show i*size+(j - i*size)=j by omega,h3] at h4
      exact h4
    · obtain ⟨i,hi2,rfl⟩:=List.getElem_of_mem hy
      exact (hp i _ (List.getElem?_eq_getElem hi2)).2.1
    · have h6:=jK_ m l D (fun i y hy=>(hp i y hy).2.2)
      rw [hll] at h6
      simp only [Rows.uptoBulk]
      omega
end
end Zx
namespace Oid
open Go.ChangeShapes Go.WideShapes Go.ChangeAt Go.RowKit Go.Deep Zk Zx
section
variable {H : Type} {enc : TypeId × Value → H} {w : World} {base : Nat} {spare : Nat → Bool} {held : Bool}
end
end Oid
namespace Oid
open Go.RowKit Zk Zx
section
variable (A : Option Addr) (n c : Nat) (z : Id) (nn : Int) (x : Id) (least : Int)
end
theorem eg_ (x:Id):∀ u ∈ (bA x.l).toList,u.oneCell'=true:=fun u hu=>R_ x.l u hu
end Oid
namespace Zx
open Go.RowKit Zk Go.Sort
section
variable {α : Type} [Inhabited α]
theorem fm_get {f : α→List Value} {k:Nat} (hk:∀ x,(f x).length=k) (k0:0 < k):∀ (l:List α) (t:Nat),(l.flatMap f)[t]?=(l[t / k]?).bind fun x=>(f x)[t % k]?
  | [],t=>by simp
  | x :: l,t=>by
    rw [List.flatMap_cons]
    rcases Nat.lt_or_ge t k with h | h
    · rw [List.getElem?_append_left (by rw [hk];exact h),Nat.div_eq_of_lt h,Nat.mod_eq_of_lt h]
      rfl
    · obtain ⟨s,rfl⟩:∃ s,t=k+s:=⟨t - k,by omega⟩
      rw [List.getElem?_append_right (by rw [hk];omega),hk,Nat.add_sub_cancel_left,fm_get hk k0 l s,Nat.add_div_left _ k0,Nat.add_mod_left]
      rfl
theorem hx_ {enc : α→List Value} {k:Nat} (hk:∀ x,(enc x).length=k) (k0:0 < k) (d:Array α):(flatK enc k d).toList=d.toList.flatMap enc:=by
  apply List.ext_getElem?
  intro t
  rw [fm_get hk k0,Array.getElem?_toList,Array.getElem?_toList]
  unfold flatK
  rw [Array.getElem?_map]
  rcases Nat.lt_or_ge t (d.size*k) with h | h
  · have hd:t / k < d.size:=(Nat.div_lt_iff_lt_mul k0).2 h
    have hm:t % k < (enc d[t / k]).length:=by rw [hk];exact Nat.mod_lt _ k0
    have e1:(Array.range (d.size*k))[t]?=some t:=by rw [Array.getElem?_eq_getElem (by simpa using h)];simp
    rw [e1,Option.map_some,Array.getElem?_eq_getElem hd,Option.bind_some,getElem!_pos d (t / k) hd,getElem!_pos (enc d[t / k]) (t % k) hm,List.getElem?_eq_getElem hm]
  · have hd:d.size≤t / k:=(Nat.le_div_iff_mul_le k0).2 h
    rw [Array.getElem?_eq_none (by simpa using h),Array.getElem?_eq_none hd]
    rfl
theorem hS_ {w:World} {e k b n c:Nat} {xs:List Value} (h:w.ownsRow 0 e k (.slice (some ⟨b,0,none⟩) n c) n xs):∃ cur,Blk w b e cur∧n≤c∧c≤maxLen∧cur.size=c*k∧cur.toList.take (n*k)=xs:=by
  rcases h.2 with ⟨h1,_⟩ | ⟨g,cap,cur,h1,_,hg,hnc,hcm,hcs,hx⟩
  · cases h1
  · cases h1
    exact ⟨cur,hg,hnc,hcm,hcs,hx⟩
theorem own_holds {w:World} {e k b n c:Nat} {enc : α→List Value} (hk:∀ x,(enc x).length=k) (k0:0 < k) {d:Array α} (hd:d.size=n) (h:w.ownsRow 0 e k (.slice (some ⟨b,0,none⟩) n c) n (d.toList.flatMap enc)) :
    HoldsK enc k w b 0 d∧b < w.heap.size:=by
  obtain ⟨cur,hB,hnc,hcm,hcs,hx⟩:=hS_ h
  refine ⟨fun j hj=>⟨?_,?_⟩,hB.lt⟩
  · rw [size_flatK] at hj
    have hf:=hx_ hk k0 d
    rw [Nat.zero_add,hB.cell]
    have e1:cur[j]?=(cur.toList.take (n*k))[j]?:=by rw [List.getElem?_take,if_pos (by rw [← hd];exact hj),Array.getElem?_toList]
    have hj2:j < (flatK enc k d).size:=by rw [size_flatK];exact hj
    rw [e1,hx, ← hf,Array.getElem?_toList,Array.getElem?_eq_getElem hj2,getElem!_pos (flatK enc k d) j hj2]
    rfl
  · rw [Nat.zero_add];exact hB.frozen j
theorem own_sorted {w:World} {e k b n c:Nat} {enc : α→List Value} (hk:∀ x,(enc x).length=k) (k0:0 < k) {xs:List Value} (h:w.ownsRow 0 e k (.slice (some ⟨b,0,none⟩) n c) n xs) {d':Array α} (hd:d'.size=n) (m:Nat) (os:Array Obj) :
    w.grownBy (sortWorldK enc k w b 0 m d' os) (some b)∧(sortWorldK enc k w b 0 m d' os).ownsRow 0 e k (.slice (some ⟨b,0,none⟩) n c) n (d'.toList.flatMap enc):=by
  obtain ⟨cur,hB,hnc,hcm,hcs,hx⟩:=hS_ h
  have hlt:=hB.lt
  have hf:=hx_ hk k0 d'
  have hsz:(putRowK enc k (Sort.ahead w m) b 0 d').heap.size=w.heap.size:=by simp [putRowK]
  have hheap:∀ i,i < w.heap.size→(sortWorldK enc k w b 0 m d' os).heap[i]?=(w.heap.modify b (onCells (putCells id 0 (flatK enc k d'))))[i]?:=fun i hi=>by
    unfold sortWorldK
    rw [heap_grow_old _ _ (by rw [hsz];exact hi)]
    rfl
  have hblk:(sortWorldK enc k w b 0 m d' os).heap[b]?=some (.cells (putCells id 0 (flatK enc k d') cur) e (0,0)):=by
    rw [hheap b hlt,Array.getElem?_modify,if_pos Z]
    have hB':w.heap[b]?=some (.cells cur e (0,0)):=hB
    rw [hB']
    rfl
  refine ⟨⟨rfl,rfl,rfl,?_,fun i hi hne=>?_⟩,?_,.inr ⟨b,c,_,rfl,Nat.zero_le _,hblk,hnc,hcm,?_,?_⟩⟩
  · unfold sortWorldK
    rw [size_grow,hsz]
    omega
  · rw [hheap i hi,Array.getElem?_modify,if_neg (fun e=>hne (by rw [e]))]
  · rw [← hf,Array.length_toList,size_flatK,hd]
  · unfold putCells
    rw [Array.size_mapIdx,hcs]
  · apply List.ext_getElem?
    intro t
    rw [← hf,List.getElem?_take,Array.getElem?_toList (xs:=flatK enc k d')]
    rcases Nat.lt_or_ge t (n*k) with ht | ht
    · have hc:n*k≤c*k:=Nat.mul_le_mul_right _ hnc
      have h1:t < cur.size:=by omega
      have h2:t < (flatK enc k d').size:=by rw [size_flatK,hd];exact ht
      rw [if_pos ht,Array.getElem?_toList]
      unfold putCells
      rw [Array.getElem?_mapIdx,Array.getElem?_eq_getElem h1,Option.map_some,if_pos ⟨Nat.zero_le _,by omega⟩,Nat.sub_zero,getElem!_pos (flatK enc k d') t h2,Array.getElem?_eq_getElem h2]
      rfl
    · rw [if_neg (by omega),Array.getElem?_eq_none (by rw [size_flatK,hd];exact ht)]
end
end Zx
namespace Oid
open Go.RowKit Zk Zx Go.Sort Go.Deep
theorem hD_ (w:World) (t:TypeId) (cs:Array Value):Blk (w.alloc (.cells cs t)) w.heap.size t cs:=by
  unfold Blk World.alloc
  rw [Array.getElem?_push]
  simp
theorem blk_alloc {w:World} {g t:Nat} {cs:Array Value} (h:Blk w g t cs) (o:Obj):Blk (w.alloc o) g t cs:=by
  unfold Blk at *
  have hl:g < w.heap.size:=by
    rcases Nat.lt_or_ge g w.heap.size with q | q
    · exact q
    · rw [Array.getElem?_eq_none q] at h;cases h
  simp only [World.alloc,Array.getElem?_push]
  rw [if_neg (by omega)]
  exact h
theorem ky_ {w:World} {g t:Nat} {cs:Array Value} (h:Blk w g t cs) (q:Nat):Blk (w.drewN q) g t cs:=h
theorem jT_ (a b:List UInt8) (w:World) (ha:a.length=32) (hb:b.length=32) :
    Calls Tryz.prog 180 #[.agg (bA a),.agg (bA b)] w fun e w'=>e=.returned (.int .i64 (cmpL a b))∧∃ q os',w'=grow (w.drewN q) os':=by
  have HA:=Lib.hid ha
  have HB:=Lib.hid hb
  clear ha hb
  have hsl:=slice23all
  go_enter Tryz.func180,Tryz.ntmps180
  have h1:∀ q,Blk (((w.alloc (.cells (bA a) 41)).alloc (.cells (bA b) 41)).drewN q) w.heap.size 41 (bA a):=fun q=>ky_ (blk_alloc (hD_ w 41 (bA a)) _) q
  have h2:∀ q,Blk (((w.alloc (.cells (bA a) 41)).alloc (.cells (bA b) 41)).drewN q) (w.heap.size+1) 41 (bA b):=fun q=>by
    have:=ky_ (hD_ (w.alloc (.cells (bA a) 41)) 41 (bA b)) q
    rwa [World.size_alloc] at this
  have hc:=fun q=>kC_ a b _ _ _ HA.out HB.out (h1 q) (h2 q)
  go_wp2
  refine wp_region_quiet_lit (by kernel_rfl) (by kernel_rfl) ?_
  repeat (go_big_quiet_step ((go_at_call 197;exact (hc _).mono (fun e w' ⟨h1,h2⟩=>⟨h1,_,h2.symm⟩))))
  refine wpQuiet_nil ?_
  rintro _ ⟨q,rfl⟩
  go_wp2
  go_ret
  refine ⟨rfl,q, #[.cells (bA a) 41,.cells (bA b) 41],?_⟩
  rw [alloc_eq_grow,alloc_eq_grow,grow_grow]
  rfl
end Oid
end Go.Proofs.YtgaklngnfecdaaaGreat
namespace Go.Proofs
open Go.Shelf Go.RowKit Go.Lib Go.Sort
def YtgaklngnfecdaaaGreat.sortL_ren:Go.Shelf.Ren:=⟨fun | 6=>179 | 15=>196 | 14=>195 | 28=>209 | 29=>210 | 20=>201 | 21=>202 | 22=>203 | 23=>204 | 24=>205 | 25=>206 | 26=>207 | 27=>208 | 46=>212 | 47=>213 | 48=>214 | 49=>215 | 50=>216 | 57=>218 | n=>n,fun | 22=>81 | 24=>41 | 25=>261 | 3=>3 | 39=>68 | 0=>0 | 53=>63 | 55=>102 | 4=>4 | 46=>276 | 45=>275 | 50=>280 | 5=>5 | 9=>9 | 66=>285 | 70=>288 | 76=>291 | 77=>98 | n=>n,fun | n=>n⟩
theorem YtgaklngnfecdaaaGreat.sortL:Go.Proofs.SlLaysF0.n6 Tryz.prog YtgaklngnfecdaaaGreat.sortL_ren:={
  mixed:=by kernel_rfl,
  f6:=⟨Tryz.f179.name,by decide,Tryz.func179.trans (congrArg some (by kernel_rfl))⟩,
  f14:=⟨Tryz.f195.name,by decide,Tryz.func195.trans (congrArg some (by kernel_rfl))⟩,
  f15:=Tryz.func196.trans (congrArg some (by kernel_rfl)),
  f20:=⟨Tryz.f201.name,by decide,Tryz.func201.trans (congrArg some (by kernel_rfl))⟩,
  f21:=⟨Tryz.f202.name,by decide,Tryz.func202.trans (congrArg some (by kernel_rfl))⟩,
  f22:=⟨Tryz.f203.name,by decide,Tryz.func203.trans (congrArg some (by kernel_rfl))⟩,
  f23:=⟨Tryz.f204.name,by decide,Tryz.func204.trans (congrArg some (by kernel_rfl))⟩,
  f24:=⟨Tryz.f205.name,by decide,Tryz.func205.trans (congrArg some (by kernel_rfl))⟩,
  f25:=⟨Tryz.f206.name,by decide,Tryz.func206.trans (congrArg some (by kernel_rfl))⟩,
  f26:=⟨Tryz.f207.name,by decide,Tryz.func207.trans (congrArg some (by kernel_rfl))⟩,
  f27:=⟨Tryz.f208.name,by decide,Tryz.func208.trans (congrArg some (by kernel_rfl))⟩,
  f28:=Tryz.func209.trans (congrArg some (by kernel_rfl)),
  f29:=Tryz.func210.trans (congrArg some (by kernel_rfl)),
  f46:=⟨Tryz.f212.name,by decide,Tryz.func212.trans (congrArg some (by kernel_rfl))⟩,
  f47:=Tryz.func213.trans (congrArg some (by kernel_rfl)),
  f48:=Tryz.func214.trans (congrArg some (by kernel_rfl)),
  f49:=⟨Tryz.f215.name,by decide,Tryz.func215.trans (congrArg some (by kernel_rfl))⟩,
  f50:=⟨Tryz.f216.name,by decide,Tryz.func216.trans (congrArg some (by kernel_rfl))⟩,
  f57:=⟨Tryz.f218.name,by decide,Tryz.func218.trans (congrArg some (by kernel_rfl))⟩,
  t0:=Tryz.underlying0,
  a0:=Tryz.isAgg0,
  z0:=Tryz.sizeOf0,
  v0:=Tryz.zeroValue0,
  t3:=Tryz.underlying3,
  a3:=Tryz.isAgg3,
  z3:=Tryz.sizeOf3,
  v3:=Tryz.zeroValue3,
  t4:=Tryz.underlying4,
  a4:=Tryz.isAgg4,
  z4:=Tryz.sizeOf4,
  v4:=Tryz.zeroValue4,
  t5:=Tryz.underlying5,
  a5:=Tryz.isAgg5,
  z5:=Tryz.sizeOf5,
  v5:=Tryz.zeroValue5,
  t9:=Tryz.underlying9,
  a9:=Tryz.isAgg9,
  z9:=Tryz.sizeOf9,
  v9:=Tryz.zeroValue9,
  t22:=Tryz.underlying81,
  a22:=Tryz.isAgg81,
  z22:=Tryz.sizeOf81,
  v22:=Tryz.zeroValue81,
  t25:=Tryz.underlying261,
  a25:=Tryz.isAgg261,
  z25:=Tryz.sizeOf261,
  v25:=Tryz.zeroValue261,
  t39:=Tryz.underlying68,
  a39:=Tryz.isAgg68,
  z39:=Tryz.sizeOf68,
  v39:=Tryz.zeroValue68,
  t45:=Tryz.underlying275,
  a45:=Tryz.isAgg275,
  z45:=Tryz.sizeOf275,
  v45:=Tryz.zeroValue275,
  t46:=Tryz.underlying276,
  a46:=Tryz.isAgg276,
  z46:=Tryz.sizeOf276,
  v46:=Tryz.zeroValue276,
  t50:=Tryz.underlying280,
  a50:=Tryz.isAgg280,
  z50:=Tryz.sizeOf280,
  v50:=Tryz.zeroValue280,
  t53:=Tryz.underlying63,
  a53:=Tryz.isAgg63,
  z53:=Tryz.sizeOf63,
  v53:=Tryz.zeroValue63,
  t55:=Tryz.underlying102,
  a55:=Tryz.isAgg102,
  z55:=Tryz.sizeOf102,
  v55:=Tryz.zeroValue102,
  t66:=Tryz.underlying285,
  a66:=Tryz.isAgg285,
  z66:=Tryz.sizeOf285,
  v66:=Tryz.zeroValue285,
  t70:=Tryz.underlying288,
  a70:=Tryz.isAgg288,
  z70:=Tryz.sizeOf288,
  v70:=Tryz.zeroValue288,
  t76:=Tryz.underlying291,
  a76:=Tryz.isAgg291,
  z76:=Tryz.sizeOf291,
  v76:=Tryz.zeroValue291,
  t77:=Tryz.underlying98,
  a77:=Tryz.isAgg98,
  z77:=Tryz.sizeOf98,
  v77:=Tryz.zeroValue98 }
end Go.Proofs
namespace Go.Proofs.YtgaklngnfecdaaaGreat
namespace Oid
open Go.Sort
open Go.RowKit Zk Zx
instance:Inhabited Id:=⟨⟨List.replicate 32 0,rfl⟩⟩
theorem cmpLaysI (blk off size:Nat) (w:World):CmpLays Tryz.prog 180 #[] idf 32 (fun x y=>cmpL x.l y.l) blk off size w :=
  fun _ _ _ _ x y=>jT_ x.l y.l _ x.h y.h
theorem iE_ (x y:Id):ltOf (fun x y:Id=>cmpL x.l y.l) x y=lt x y:=by
  unfold ltOf
  cases h:lt x y with
  | true=>exact decide_eq_true ((cmp_lt x y).2 h)
  | false=>exact decide_eq_false (Int.not_lt.2 ((cmp_ge x y).2 h))
theorem lt_ntrans (x y z:Id) (h1:lt x y=false) (h2:lt y z=false):lt x z=false:=by
  cases h:lt x z with
  | false=>rfl
  | true =>
    exfalso
    by_cases e:x=y
    · subst e;rw [h] at h2;cases h2
    · have h3:=lt_trans _ _ _ (jv_ x y h1 e) h
      rw [h3] at h2;cases h2
theorem swoI:SWO (ltOf fun x y:Id=>cmpL x.l y.l) where
  irrefl x:=by rw [iE_,lt_irr]
  trans x y z h1 h2:=by rw [iE_] at *;exact lt_trans _ _ _ h1 h2
  ntrans x y z h1 h2:=by rw [iE_] at *;exact lt_ntrans _ _ _ h1 h2
theorem sortI0 (b n c:Nat) (ys:List Id) (w0:World) (hn:ys.length=n) (h:w0.ownsRow 0 41 32 (.slice (some ⟨b,0,none⟩) n c) n (ys.flatMap idf)) (hsz:n < 4611686018427387904) :
    Calls Tryz.prog 179 #[.slice (some ⟨b,0,none⟩) n c,.func (.func 180) #[] #[]] w0 fun e w'=>∃ u,e=.returned u∧∃ zs:List Id,zs.Perm ys∧(∀ i j (hi:i < zs.length) (hj:j < zs.length),i < j→lt zs[j] zs[i]=false) ∧
      Turned w0 w' (row 41 32 (some ⟨b,0,none⟩) n c (ys.flatMap idf)) (row 41 32 (some ⟨b,0,none⟩) n c (zs.flatMap idf)):=by
  have eg:∀ args w,(callFunc 180 args).run Tryz.prog w=.ok (.enter 180 args) w:=enters_of Tryz.func180 (by kernel_rfl) Z
  obtain ⟨hH,hb⟩:=own_holds (enc:=idf) (k:=32) (d:=ys.toArray) B_ (by decide) (by simpa using hn) h
  have hcon:=AnyQ.slices_SortFunc YtgaklngnfecdaaaGreat.sortL 32 Tryz.isAgg41 Tryz.sizeOf41 idf B_ (fun x=>R_ x.l) (fun x y=>cmpL x.l y.l) swoI 180 #[] b 0 c ys.toArray w0 eg (cmpLaysI b 0 _ w0) hH hb (by simpa using (by omega:ys.length < 4611686018427387904))
  have e1:ys.toArray.size=n:=by simpa using hn
  rw [e1] at hcon
  refine hcon.mono fun e w' ⟨he,d',m,os,hp,hs,hw⟩=>⟨_,he,d'.toList,?_,fun i j hi hj hij=>?_,?_⟩
  · have h3:=hp.2.2
    have h4:d'.size=n:=by rw [hp.1];exact e1
    rw [show (d'.extract 0 n)=d' by rw [← h4];simp,show ys.toArray.extract 0 n=ys.toArray by rw [← e1];simp] at h3
    exact h3
  · have h4:d'.size=n:=by rw [hp.1];exact e1
    have h5:=hs i j (Nat.zero_le _) hij (by simpa [h4] using hj)
    rw [iE_] at h5
    rw [getElem!_pos d' i (by simpa using hi),getElem!_pos d' j (by simpa using hj)] at h5
    exact h5
  · subst hw
    obtain ⟨hg,ho⟩:=own_sorted (enc:=idf) (k:=32) B_ (by decide) h (d':=d') (by rw [hp.1];exact e1) m os
    exact ⟨hg.os,hg.tape,hg.output,hg.size,fun i hi hne=>hg.block i hi (fun e=>hne (by injection e with e;rw [e];rfl)),ho,fun i hi=>.inl hi⟩
theorem sortIA (A:Option Addr) (n c:Nat) (ys:List Id) (w0:World) (hn:ys.length=n) (h:w0.ownsRow 0 41 32 (.slice A n c) n (ys.flatMap idf)) (hsz:n < 4611686018427387904) :
    Calls Tryz.prog 179 #[.slice A n c,.func (.func 180) #[] #[]] w0 fun e w'=>∃ u,e=.returned u∧∃ zs:List Id,zs.Perm ys∧(∀ i j (hi:i < zs.length) (hj:j < zs.length),i < j→lt zs[j] zs[i]=false) ∧
      Turned w0 w' (row 41 32 A n c (ys.flatMap idf)) (row 41 32 A n c (zs.flatMap idf)):=by
  rcases h.2 with ⟨h1,h2⟩ | ⟨b,cap,cur,h1,_⟩
  · cases h1
    have e0:ys=[]:=List.eq_nil_of_length_eq_zero (by omega)
    subst e0
    exact (AnyF.slices_SortFunc_none YtgaklngnfecdaaaGreat.sortL none 0 (.func (.func 180) #[] #[]) w0).mono fun e w' ⟨he,hw⟩=>⟨_,he,[],.refl _,(fun i j hi=>by cases hi),by subst hw;exact Turned.refl h⟩
  · cases h1
    exact sortI0 b n c ys w0 hn h hsz
def WS (xs:List Id):Prop:=∀ (i j:Nat) (x y:Id),xs[i]?=some x→xs[j]?=some y→i < j→lt y x=false
theorem ris_snoc {xs:List Id} {a:Id} (h:ris xs=true) (h2:∀ z ∈ xs,lt z a=true):ris (xs++[a])=true:=by
  apply pair_ris
  rw [List.pairwise_append]
  exact ⟨jf_ _ h,List.pairwise_singleton _ _,fun z hz b hb=>by rw [List.mem_singleton.1 hb];exact h2 z hz⟩
theorem take1 {α:Type} {l:List α} {k:Nat} {x : α} (hx:l[k]?=some x):l.take (k+1)=l.take k++[x]:=by rw [List.take_add_one,hx];rfl
theorem hU_ {α:Type} {l:List α} {k:Nat} {x z : α} (hx:l[k]?=some x):z ∈ l.take (k+1)↔z ∈ l.take k∨z=x:=by rw [take1 hx];simp
theorem WS.step {xs:List Id} (h:WS xs) {k:Nat} {a b:Id} (ha:xs[k+1]?=some a) (hb:xs[k]?=some b) (hne:a≠b) (z:Id) (hz:z ∈ xs.take (k+1)):lt z a=true:=by
  obtain ⟨i,hi,rfl⟩:=List.getElem_of_mem hz
  have h1:i < k+1∧i < xs.length:=by rw [List.length_take] at hi;omega
  rw [List.getElem_take]
  have hz':xs[i]?=some xs[i]:=List.getElem?_eq_getElem h1.2
  have h2:=h i (k+1) _ _ hz' ha h1.1
  by_cases e:a=xs[i]
  · exfalso
    rw [← e] at hz'
    rcases Nat.lt_or_ge i k with q | q
    · have h3:=h i k _ _ hz' hb q
      have h4:=h k (k+1) _ _ hb ha (by omega)
      have:=jv_ _ _ h4 hne
      rw [this] at h3;cases h3
    · have e2:i=k:=by omega
      subst e2
      rw [hb] at hz'
      exact hne (Option.some.inj hz').symm
  · exact jv_ _ _ h2 e
structure CI (xs ys:List Id) (k j q:Nat):Prop where
  j1:1≤j
  q1:1≤q
  kq:k+q≤xs.length
  jq:j+1≤k+q
  len:ys.length=xs.length
  ri:ris (ys.take j)=true
  mem:∀ z,z ∈ ys.take j↔z ∈ xs.take (k+q)
  tail:∀ i,k+q≤i+1→ys[i]?=xs[i]?
theorem CI.start {xs:List Id} {k:Nat} {x p:Id} (h1:1≤k) (hri:ris (xs.take k)=true) (hx:xs[k]?=some x) (hp:xs[k - 1]?=some p) (e:x.l=p.l):CI xs xs k k 1 where
  j1:=h1
  q1:=Nat.le_refl _
  kq:=by have:=(List.getElem?_eq_some_iff.1 hx).1;omega
  jq:=Nat.le_refl _
  len:=rfl
  ri:=hri
  mem z:=by
    rw [hU_ hx]
    refine ⟨.inl,fun h=>h.elim id fun h=>?_⟩
    subst h
    have e2:z=p:=Id.ext e
    subst e2
    exact List.mem_iff_getElem?.2 ⟨k - 1,by rw [List.getElem?_take,if_pos (by omega)];exact hp⟩
  tail i _:=rfl
theorem CI.same {xs ys:List Id} {k j q:Nat} (C:CI xs ys k j q) {a b:Id} (ha:xs[k+q]?=some a) (hb:xs[k+(q - 1)]?=some b) (e:a.l=b.l):CI xs ys k j (q+1) where
  j1:=C.j1
  q1:=by omega
  kq:=by have:=(List.getElem?_eq_some_iff.1 ha).1;omega
  jq:=by have:=C.jq;omega
  len:=C.len
  ri:=C.ri
  mem z:=by
    rw [C.mem z,show k+(q+1)=k+q+1 by omega,hU_ ha]
    refine ⟨.inl,fun h=>h.elim id fun h=>?_⟩
    subst h
    have e2:z=b:=Id.ext e
    subst e2
    exact List.mem_iff_getElem?.2 ⟨k+(q - 1),by rw [List.getElem?_take,if_pos (by have:=C.q1;omega)];exact hb⟩
  tail i h:=C.tail i (by omega)
theorem CI.next {xs ys:List Id} {k j q:Nat} (hs:WS xs) (C:CI xs ys k j q) {a b:Id} (ha:xs[k+q]?=some a) (hb:xs[k+(q - 1)]?=some b) (hne:a.l≠b.l):CI xs (ys.set j a) k (j+1) (q+1):=by
  have hq:=C.q1
  have hjq:=C.jq
  have hkq:=(List.getElem?_eq_some_iff.1 ha).1
  have hjl:j < ys.length:=by rw [C.len];omega
  have htk:(ys.set j a).take (j+1)=ys.take j++[a]:=by
    rw [take1 (x:=a) (by rw [List.getElem?_set,if_pos Z,if_pos hjl]),List.take_set_of_le (Nat.le_refl _)]
  have e1:k+q=k+(q - 1)+1:=by omega
  have hstep:∀ z ∈ xs.take (k+q),lt z a=true:=fun z hz=>by
    rw [e1] at ha hz
    exact hs.step ha hb (fun e=>hne (by rw [e])) z hz
  exact {
    j1:=by omega
    q1:=by omega
    kq:=by omega
    jq:=by omega
    len:=by rw [List.length_set];exact C.len
    ri:=by rw [htk];exact ris_snoc C.ri fun z hz=>hstep z ((C.mem z).1 hz)
    mem:=fun z=>by
      rw [htk,show k+(q+1)=k+q+1 by omega,hU_ ha,List.mem_append,C.mem z,List.mem_singleton]
    tail:=fun i hi=>by
      rw [List.getElem?_set,if_neg (by omega)]
      exact C.tail i (by omega)}
theorem ris_take1 {xs:List Id} (hs:WS xs) {k:Nat} {x p:Id} (h1:1≤k) (hri:ris (xs.take k)=true) (hx:xs[k]?=some x) (hp:xs[k - 1]?=some p) (hne:x.l≠p.l):ris (xs.take (k+1))=true:=by
  rw [take1 hx]
  refine ris_snoc hri fun z hz=>?_
  have e:k=k - 1+1:=by omega
  rw [e] at hx hz
  exact hs.step hx hp (fun e=>hne (by rw [e])) z hz
theorem eQ_ {w:World} {A:Option Addr} {c k:Nat} {ys:List Id} {n:Nat} (h:Rs w 32 A n c (ys.flatMap idf)) (hk:k≤n):Rs w 32 (ct_ A c k 32) (n - k) (c - k) ((ys.drop k).flatMap idf):=by
  have hn:=io_ h
  have h2:=h.cut (l:=k) (u:=n) hk (Nat.le_refl _)
  rwa [idf_drop,idf_take,List.take_of_length_le (by rw [List.length_drop];omega)] at h2
theorem cutA_z (A:Option Addr) (c size:Nat):ct_ A c 0 size=A:=by
  unfold ct_
  split
  · rfl
  · cases A with
    | none=>rfl
    | some a=>simp [Addr.add]
theorem ed_ {α:Type} {ys:List α} {k q:Nat} {a : α} (h:ys[k+q]?=some a):(ys.drop k)[q]?=some a:=by rw [List.getElem?_drop];exact h
theorem pcompact (A:Option Addr) (c:Nat) (xs:List Id) (w0:World) (hw:(row 41 32 A xs.length c (xs.flatMap idf)).holds w0) (hs:WS xs) :
    Calls Tryz.prog 182 #[.slice A xs.length c] w0 fun e w'=>∃ u,e=.returned u∧∃ zs:List Id,u=.slice A zs.length c∧ris zs=true∧(∀ z,z ∈ zs↔z ∈ xs)∧Turned w0 w' (row 41 32 A xs.length c (xs.flatMap idf)) (row 41 32 A zs.length c (zs.flatMap idf)):=by
 refine v_ (env:=[(0,.slice A xs.length c)]) [.slice A xs.length c] Tryz.func182 Z Tryz.ntmps182 Z Z ?_;have S0:=St.borrow1 (row 41 32 A xs.length c (xs.flatMap idf)) hw (fun i hi=>(World.ownsRow.lt hw i hi).2);have hcp:=(S0.row 0 Z).cap;have hmx:=(S0.row 0 Z).max;refine a_ fun K1 hK1=>b_ (Lan Z Z (hK1 _ _ (a_ fun K2 hK2=>a_ fun K3 hK3=>Rm Z Z (L_y (I_ Tryz.underlying81 Z) Z (L_y (L_ Z Z) Z (f_ (hK3 _ _ ?_)))))));refine o_ Z (fun h8=>?_) (fun h8=>?_)
 ·
  refine a_ fun K4 hK4=>Rm Z Z (Lan Z Z (hK4 _ _ (l_ (ur (F_ Z Z ?_)))));first | exact ⟨_,rfl,xs,rfl,by have h9:=hri;rwa [List.take_of_length_le (by omega)] at h9,fun z=>Iff.rfl,S0.turned1 0 Z⟩ | exact ⟨_,rfl,xs,rfl,by have h9:=gl_ (l:=xs) (k:=0) (by omega);rwa [List.drop_zero] at h9,fun z=>Iff.rfl,S0.turned1 0 Z⟩ | exact ⟨_,rfl,ys.take j,by rw [cutA_z,List.length_take,Nat.min_eq_left (by have:=C.jq;have:=C.kq;have:=C.len;omega)];rfl,C.ri,fun z=>by rw [C.mem z,List.take_of_length_le (by have:=C.kq;omega)],S93.turned1 0 Z⟩
 ·
  refine j_ (hK2 _ _ (a_ fun K5 hK5=>a_ fun K6 hK6=>b_ (Lan Z Z (hK6 _ _ (r_ ?_)))));refine an_ [(0,_)] (fun (k:Nat)=>[(3,.int .i64 (k:Int))]) (fun (k:Nat)=>xs.length - k) (fun (k:Nat) (w:World)=>(1≤k∧k≤xs.length∧ris (xs.take k)=true)∧St w0 (row 41 32 A xs.length c (xs.flatMap idf)).dom [row 41 32 A xs.length c (xs.flatMap idf)] w) 1 (Sc Z (Sub.nil _)) (Sub.cons Z Z (Sub.nil _)) ?_ ?_
  ·
   exact ⟨⟨Nat.le_refl _,by omega,by have h9:=gl_ (l:=xs.take 1) (k:=0) (by rw [List.length_take];omega);rwa [List.drop_zero] at h9⟩,S0⟩
  ·
   intro k w1 hrel;obtain ⟨⟨hk1,hk,hri⟩,S1⟩:=hrel;refine a_ fun K7 hK7=>a_ fun K8 hK8=>Rm Z Z (Lm Z Z (L_y (I_ Tryz.underlying81 Z) Z (L_y (L_ Z Z) Z (f_ (hK8 _ _ ?_)))));refine o_ Z (fun h13=>?_) (fun h13=>?_)
   ·
    obtain ⟨x,hx⟩:∃ x,xs[k]?=some x:=⟨_,List.getElem?_eq_getElem (by omega)⟩;obtain ⟨p,hp⟩:∃ p,xs[k - 1]?=some p:=⟨_,List.getElem?_eq_getElem (by omega)⟩;refine j_ (hK7 _ _ (a_ fun K9 hK9=>r_ (a_ fun K10 hK10=>ak_ [(0,true),(1,true),(2,true),(3,true),(4,true),(5,true),(6,true),(7,true),(8,true),(9,true)] aS_ (by kernel_rfl) fun w2 l2=>have S2:=S1.like l2;u_ Z (p_ Z) Z (u_ Z (p_ Z) Z (u_ Z (T_ Tryz.underlying81 ao_ Z Z (S2.row 0 Z) (Nt.mk (by omega):Nt _ (k)) (by omega)) Z (u_ Z (cp_ (f:=idf) B_ Tryz.underlying41 Z ao_ Z (S2.row 0 Z) (by omega) hx) Z (u_ Z (p_ Z) Z (u_ Z (p_ Z) Z (u_ Z (ax_ Z Z (z_ (by omega))) Z ?_)))))))));refine u_ Z (T_ Tryz.underlying81 ao_ Z Z (S2.row 0 Z) (Nt.mk (by omega):Nt _ (k - 1)) (by omega)) Z (u_ Z (cp_ (f:=idf) B_ Tryz.underlying41 Z ao_ Z (S2.row 0 Z) (by omega) hp) Z (u_ Z (y_eqB Tryz.underlying41 Tryz.underlying5 sz5 (by kernel_rfl) Z Z x.h p.h) Z (aH_ (hK10 _ _ ?_))));refine o_ Z (fun h25=>?_) (fun h25=>?_)
    ·
     refine a_ fun K11 hK11=>Rm Z Z (Lm Z Z (L_y (cv_ Tryz.underlying81 ao_ Z Z inferInstance (by omega)) Z (Lan Z Z (hK11 _ _ (a_ fun K12 hK12=>a_ fun K13 hK13=>b_ (Lan Z Z (hK13 _ _ ?_)))))));refine r_ ?_;refine df_ [(0,_),(4,_)] (fun (ys:List Id) (j:Nat) (q:Nat)=>[(3,.int .i64 (j:Int)),(5,.int .i64 (q:Int))]) (fun (ys:List Id) (j:Nat) (q:Nat)=>xs.length - (k+q)) (fun (ys:List Id) (j:Nat) (q:Nat) (w:World)=>CI xs ys k j q∧St w0 (row 41 32 A xs.length c (xs.flatMap idf)).dom [row 41 32 A xs.length c (ys.flatMap idf)] w) xs k 1 (Sc Z (Sc Z (Sub.nil _))) (Sub.cons Z Z (Sub.cons Z Z (Sub.nil _))) ?_ ?_
     ·
      exact ⟨CI.start hk1 hri hx hp h25,S2⟩
     ·
      intro ys j q w3 hrel;obtain ⟨C,S3⟩:=hrel;have hjq:=C.jq;have hkq:=C.kq;have hlen:=C.len;have hj1:=C.j1;have hq1:=C.q1;refine a_ fun K14 hK14=>a_ fun K15 hK15=>Rm Z Z (Lm Z Z (L_y (I_ Tryz.underlying81 Z) Z (L_y (L_ Z Z) Z (f_ (hK15 _ _ ?_)))));refine o_ Z (fun h32=>?_) (fun h32=>?_)
      ·
       obtain ⟨a,ha⟩:∃ a,xs[k+q]?=some a:=⟨_,List.getElem?_eq_getElem (by omega)⟩;obtain ⟨b,hb⟩:∃ b,xs[k+(q - 1)]?=some b:=⟨_,List.getElem?_eq_getElem (by omega)⟩;refine j_ (hK14 _ _ (a_ fun K16 hK16=>r_ (a_ fun K17 hK17=>ak_ [(0,true),(1,true),(2,true),(3,true),(4,true),(5,true),(6,true),(7,true),(8,true),(9,true)] aS_ (by kernel_rfl) fun w4 l4=>have S4:=S3.like l4;u_ Z (p_ Z) Z (u_ Z (p_ Z) Z (u_ Z (T_ Tryz.underlying81 ao_ Z Z (eQ_ (S4.row 0 Z) (k:=k) (by omega)) (Nt.mk (by omega):Nt _ (q)) (by omega)) Z (u_ Z (cp_ (f:=idf) B_ Tryz.underlying41 Z ao_ Z (eQ_ (S4.row 0 Z) (k:=k) (by omega)) (by omega) (ed_ ((C.tail (k+q) (by omega)).trans ha))) Z (u_ Z (p_ Z) Z (u_ Z (p_ Z) Z (u_ Z (ax_ Z Z (z_ (by omega))) Z ?_)))))))));refine u_ Z (T_ Tryz.underlying81 ao_ Z Z (eQ_ (S4.row 0 Z) (k:=k) (by omega)) (Nt.mk (by omega):Nt _ (q - 1)) (by omega)) Z (u_ Z (cp_ (f:=idf) B_ Tryz.underlying41 Z ao_ Z (eQ_ (S4.row 0 Z) (k:=k) (by omega)) (by omega) (ed_ ((C.tail (k+(q - 1)) (by have:=C.q1;omega)).trans hb))) Z ?_);refine u_ Z (y_neB Tryz.underlying41 Tryz.underlying5 sz5 (by kernel_rfl) Z Z a.h b.h) Z (aH_ (hK17 _ _ ?_));refine o_ Z (fun h44=>?_) (fun h44=>?_)
       ·
        refine a_ fun K18 hK18=>Rm Z Z (Lm Z Z (Lm Z Z (Lm Z Z (L_y (T_ Tryz.underlying81 ao_ Z Z (eQ_ (S4.row 0 Z) (k:=k) (by omega)) (Nt.mk (by omega):Nt _ (q)) (by omega)) Z (L_y (cp_ (f:=idf) B_ Tryz.underlying41 Z ao_ Z (eQ_ (S4.row 0 Z) (k:=k) (by omega)) (by omega) (ed_ ((C.tail (k+q) (by omega)).trans ha))) Z (L_y (T_ Tryz.underlying81 ao_ Z Z (S4.row 0 Z) (Nt.mk (by omega):Nt _ (j)) (by omega)) Z (L_o (o_strowE S4 0 Z Z Z (R_ _) (by simp [idf,a.h]) ao_ (by omega) fun w5 S5=>?_))))))));have S91:=S5.rowc 0 Z Z (flat_set idf B_ ys j a (by omega));refine f_ (hK18 _ _ (Rm Z Z (L_y (w_ Z Z (z_ (by omega))) Z (Lan Z Z (hK16 _ _ (Rm Z Z (L_y (w_ Z Z (z_ (by omega))) Z (Lan Z Z (⟨ys.set j a,j+1,q+1,by omega,⟨C.next hs ha hb h44,S91⟩,?_⟩)))))))));exact (Sc Z (Sc Z (Sub.cons Z Z (Sub.cons Z Z (Sub.nil _)))))
       ·
        refine j_ (hK16 _ _ (Rm Z Z (L_y (w_ Z Z (z_ (by omega))) Z (Lan Z Z (⟨ys,j,q+1,by omega,⟨C.same ha hb (Decidable.byContradiction h44),S4⟩,?_⟩)))));exact (Sc Z (Sc Z (Sub.cons Z Z (Sub.cons Z Z (Sub.nil _)))))
      ·
       refine K_ (hK12 _ _ (a_ fun K19 hK19=>Rm Z Z (Lm Z Z (L_y (cv_ Tryz.underlying81 ao_ Z Z inferInstance (by omega)) Z (L_o (o_clearR (z:=.agg (Array.replicate 32 (.int .u8 0))) S3 0 Z Tryz.underlying81 dK_ (by simp [Value.cells]) (fun u hu=>by simp [Value.cells] at hu;subst hu;rfl) Z (by omega) fun w6 ys2 hy1 hy2 S6=>?_))))));refine f_ (hK19 _ _ (a_ fun K20 hK20=>Rm Z Z (Lm Z Z (L_y (gW_ Tryz.underlying81 ao_ Z Z inferInstance (by omega)) Z ?_))));have S92:=S6.rowcut 0 Z (m:=j) (by omega);have S93:=S92.rowc 0 Z (n':=(ys.take j).length) (xs':=(ys.take j).flatMap idf) (by rw [List.length_take];omega) (by rw [hy1,kp_ idf B_]);refine Lan Z Z (hK20 _ _ (l_ (ur (F_ Z Z ?_))));first | exact ⟨_,rfl,xs,rfl,by have h9:=hri;rwa [List.take_of_length_le (by omega)] at h9,fun z=>Iff.rfl,S6.turned1 0 Z⟩ | exact ⟨_,rfl,xs,rfl,by have h9:=gl_ (l:=xs) (k:=0) (by omega);rwa [List.drop_zero] at h9,fun z=>Iff.rfl,S6.turned1 0 Z⟩ | exact ⟨_,rfl,ys.take j,by rw [cutA_z,List.length_take,Nat.min_eq_left (by have:=C.jq;have:=C.kq;have:=C.len;omega)];rfl,C.ri,fun z=>by rw [C.mem z,List.take_of_length_le (by have:=C.kq;omega)],S93.turned1 0 Z⟩
    ·
     refine j_ (hK9 _ _ (Rm Z Z (L_y (w_ Z Z (z_ (by omega))) Z (Lan Z Z (⟨k+1,by omega,⟨⟨by omega,by omega,ris_take1 hs hk1 hri hx hp h25⟩,S2⟩,?_⟩)))));exact (Sc Z (Sub.cons Z Z (Sub.nil _)))
   ·
    refine K_ (hK5 _ _ (a_ fun K21 hK21=>Rm Z Z (Lan Z Z (hK21 _ _ (l_ (ur (F_ Z Z ?_)))))));first | exact ⟨_,rfl,xs,rfl,by have h9:=hri;rwa [List.take_of_length_le (by omega)] at h9,fun z=>Iff.rfl,S1.turned1 0 Z⟩ | exact ⟨_,rfl,xs,rfl,by have h9:=gl_ (l:=xs) (k:=0) (by omega);rwa [List.drop_zero] at h9,fun z=>Iff.rfl,S1.turned1 0 Z⟩ | exact ⟨_,rfl,ys.take j,by rw [cutA_z,List.length_take,Nat.min_eq_left (by have:=C.jq;have:=C.kq;have:=C.len;omega)];rfl,C.ri,fun z=>by rw [C.mem z,List.take_of_length_le (by have:=C.kq;omega)],S93.turned1 0 Z⟩
end Oid
namespace Oid
open Go.RowKit Zk Zx
theorem y_sliceHM {P:Program} {S:World→Prop} {env:Env} {dst:Option Tmp} {ty:TypeId} {pos:String} {after:Array Edge} {g:Option (Nat × Bool)} {x:Operand} {t e:TypeId} {A:Option Addr} {n c u m size:Nat} {kh km:IntKind} {jh jm:Int} {j k:Operand} (ht:P.underlying t=some (.slice e)) (hsz:(P.info? e).map (·.size)=some size) (hx:ev env x=some (.slice A n c))
    (hj:ev env j=some (.int kh jh)) (hm:ev env k=some (.int km jm)) (eu:jh=(u:Int)) (em:jm=(m:Int)) (h2:u≤m) (h3:m≤c) :
    Y P S env ⟨dst,.slice t x none (some j) (some k),ty,pos,after,g⟩ (.slice (ct_ A m 0 size) (u - 0) (m - 0)):=fun N a w' ha _=>by
  subst eu;subst em
  have he:P.elem t=e:=by simp [Program.elem,ht]
  have h4:=run_slice_hm (P:=P) (w:=w') (t:=t) (a:=A) (len:=n) (cap:=c) (by rw [he];exact ht) kh km (u:Int) (m:Int) (by omega) (by omega) (by omega)
  rw [he] at h4
  simp only [execOp,ha.eval hx,Option.map_some,Option.map_none,ha.eval hj,ha.eval hm,Instr.sliceAt,Sem.run_bind,run_underlying ht,Result.andThen_ok,h4,aK_ hsz,Sem.run_pure,Int.toNat_natCast]
  rfl
theorem WS.of {zs:List Id} (h:∀ i j (hi:i < zs.length) (hj:j < zs.length),i < j→lt zs[j] zs[i]=false):WS zs:=fun i j x y hx hy hij=>by
  obtain ⟨hi,rfl⟩:=List.getElem?_eq_some_iff.1 hx
  obtain ⟨hj,rfl⟩:=List.getElem?_eq_some_iff.1 hy
  exact h i j hi hj hij
theorem rs_nil {w:World} {A:Option Addr} {n c:Nat} {l:List Id} (hl:Rs w 32 A n c (l.flatMap idf)) (h:A=none):n=0:=by
  subst h
  rcases Nat.eq_zero_or_pos n with q | q
  · exact q
  · obtain ⟨_,h2,_⟩:=hl.rd.2 q
    cases h2
theorem rs_nil2 {w:World} {A:Option Addr} {n c:Nat} {l:List Id} (hl:Rs w 32 A n c (l.flatMap idf)) (h:A=none):l=[]:=by
  have h1:=rs_nil hl h
  have h2:=io_ hl
  exact List.eq_nil_of_length_eq_zero (by omega)
theorem pclone (A:Option Addr) (n c:Nat) (l:List Id) (w0:World) (hl:Rs w0 32 A n c (l.flatMap idf)) (hmx:n≤4096) :
    Calls Tryz.prog 178 #[.slice A n c] w0 fun e w'=>∃ u,e=.returned u∧Like w0 w'∧∃ A' c',u=.slice A' n c'∧w'.ownsRow w0.heap.size 41 32 (.slice A' n c') n (l.flatMap idf):=by
 refine v_ (env:=[(0,.slice A n c)]) [.slice A n c] Tryz.func178 Z Tryz.ntmps178 Z Z ?_;have hzero:=rs_nil hl;have hl0:=rs_nil2 hl;have hn:=io_ hl;have hcap:=hl.cap;have hmax:=hl.max;have S0:=St.start w0 noM;refine a_ fun K1 hK1=>b_ (Lan Z Z (hK1 _ _ (a_ fun K2 hK2=>a_ fun K3 hK3=>Rm Z Z (L_y (y_seqn Tryz.underlying81 Z) Z (f_ (hK3 _ _ ?_))))));refine aD_ Z (fun h4=>?_) (fun h4=>?_)
 ·
  refine a_ fun K4 hK4=>b_ (Lan Z Z (hK4 _ _ (l_ (ur (F_ Z Z ?_)))));first | exact ⟨_,rfl,S0.like0,_,_,by rw [Nat.zero_add],by have h9:=S0.own 0 Z;rw [Nat.zero_add] at h9;exact h9⟩ | exact ⟨_,rfl,S0.like0,none,0,by rw [hzero (by simpa using h4)],by rw [hzero (by simpa using h4),hl0 (by simpa using h4)];exact World.ownsRow_nil _ _ _ _⟩
 ·
  refine j_ (hK2 _ _ (a_ fun K5 hK5=>b_ (L_o (o_bsl0 te81 S0 Z fun b1 w1 l1 S1=>Lm Z Z (L_o (ay_ te81 S1 0 Z Z Z (S1.rd hl) (ids_one _) Z (by omega) (by omega) fun A2 c2 w2 S2=>Lan Z Z (hK5 _ _ (l_ (ur (F_ Z Z ?_))))))))));first | exact ⟨_,rfl,S2.like0,_,_,by rw [Nat.zero_add],by have h9:=S2.own 0 Z;rw [Nat.zero_add] at h9;exact h9⟩ | exact ⟨_,rfl,S2.like0,none,0,by rw [hzero (by simpa using h4)],by rw [hzero (by simpa using h4),hl0 (by simpa using h4)];exact World.ownsRow_nil _ _ _ _⟩
theorem pclip (A:Option Addr) (n c:Nat) (l:List Id) (w0:World) (hl:Rs w0 32 A n c (l.flatMap idf)) :
    Calls Tryz.prog 181 #[.slice A n c] w0 fun e w'=>∃ u,e=.returned u∧Like w0 w'∧u=.slice A n n:=by
 refine v_ (env:=[(0,.slice A n c)]) [.slice A n c] Tryz.func181 Z Tryz.ntmps181 Z Z ?_;have hn:=io_ hl;have hcap:=hl.cap;have hmax:=hl.max;have S0:=St.start w0 noM;refine a_ fun K1 hK1=>b_ (Lan Z Z (hK1 _ _ (a_ fun K2 hK2=>Rm Z Z (Lm Z Z (L_y (I_ Tryz.underlying81 Z) Z (Lm Z Z (L_y (I_ Tryz.underlying81 Z) Z (L_y (y_sliceHM Tryz.underlying81 ao_ Z Z Z Z Z (Nat.le_refl _) (by omega)) Z (La Z Z ?_)))))))));refine f_ (hK2 _ _ (l_ (ur (F_ Z Z ?_))));exact ⟨_,rfl,S0.like0,by rw [cutA_z];rfl⟩
theorem psorted (A:Option Addr) (n c:Nat) (l:List Id) (w0:World) (hl:Rs w0 32 A n c (l.flatMap idf)) (h60:n≤4096) :
    Calls Tryz.prog 150 #[.slice A n c] w0 fun e w'=>∃ u,e=.returned u∧Like w0 w'∧∃ A' m c' s,u=.slice A' m c'∧Rs w' 32 A' m c' (s.flatMap idf)∧ris s=true∧∀ z,z ∈ s↔z ∈ l:=by
 refine v_ (env:=[(0,.slice A n c)]) [.slice A n c] Tryz.func150 Z Tryz.ntmps150 Z Z ?_;have hn:=io_ hl;have hcap:=hl.cap;have hmax:=hl.max;have S0:=St.start w0 noM;refine a_ fun K1 hK1=>b_ (Lan Z Z (hK1 _ _ (a_ fun K2 hK2=>Rm Z Z (L_o (n_ Tryz.func178 Z Z (pclone A n c l w0 (S0.rd hl) h60) Z Z ?_)))));rintro e1 w1 ⟨v1,rfl,l1,A5,c5,rfl,O1⟩;refine ⟨_,rfl,(have S1:=S0.adopt l1 O1;Lan Z Z (hK2 _ _ (a_ fun K3 hK3=>Rm Z Z (L_o (n_ Tryz.func179 Z Z (sortIA A5 n c5 l w1 hn.symm (S1.get 0 Z) (by omega)) Z Z ?_)))))⟩;rintro e2 w2 ⟨v2,rfl,zs,hp,hso,T2⟩;refine ⟨_,rfl,?_⟩;have S2:=S1.turn 0 Z T2;have hzl:zs.length=n:=hp.length_eq.trans hn.symm;subst hzl;refine f_ (hK3 _ _ (a_ fun K4 hK4=>Rm Z Z (L_o (n_ Tryz.func182 Z Z (pcompact A5 c5 zs w2 (S2.get 0 Z) (WS.of hso)) Z Z ?_))));rintro e3 w3 ⟨v3,rfl,ys,rfl,hys,hym,T3⟩;refine ⟨_,rfl,(have S3:=S2.turn 0 Z T3;L_o (n_ Tryz.func181 Z Z (pclip A5 ys.length c5 ys w3 (S3.row 0 Z)) Z Z ?_))⟩;rintro e4 w4 ⟨v4,rfl,l4,rfl⟩;refine ⟨_,rfl,(have S4:=S3.like l4;Lan Z Z (hK4 _ _ (l_ (ur (F_ Z Z ?_)))))⟩;have hr9:=S4.row 0 Z;exact ⟨_,rfl,S4.like0,_,_,_,ys,rfl,⟨hr9.rd,Nat.le_refl _,Nat.le_trans hr9.cap hr9.max⟩,hys,fun z=>by rw [hym z,hp.mem_iff]⟩
end Oid
namespace Oid
open Go.RowKit Zk Zx
abbrev FE (l:List Id) (x:Id) (a:Nat) (b:Bool):Prop:=∀ u:Value,((ris l=false∧u=.tuple #[.int .i64 0,.bool false])∨(ris l=true∧∃ k,posOk l x k∧u=.tuple #[.int .i64 (k:Int),.bool (decide (l[k]?=some x))]))→u=.tuple #[.int .i64 (a:Int),.bool b]
end Oid
namespace Oct
open Go.RowKit Zk Zx
def wt (g:Nat) (A:Option Addr) (n c:Nat) (l:List UInt8):Res:=both (blk g 110 #[.slice A n c]) (row 5 1 A n c (bL l))
theorem wt_apart {w:World} {g n c:Nat} {A:Option Addr} {l:List UInt8} (h:(wt g A n c l).holds w):∀ i,(blk g 110 #[.slice A n c]).dom i→¬ (row 5 1 A n c (bL l)).dom i:=fun i hi hr=>by
  have hi':i=g:=hi
  subst hi'
  exact gO_ (e:=5) h.2 h.1 (by decide) hr
theorem wt_lt {w:World} {g n c:Nat} {A:Option Addr} {l:List UInt8} (h:(wt g A n c l).holds w):∀ i,(wt g A n c l).dom i→i < w.heap.size:=fun i hi=>by
  rcases hi with hi | hi
  · have hi':i=g:=hi
    subst hi'
    exact Blk.lt h.1
  · exact (World.ownsRow.lt h.2 i hi).2
theorem hG_ {w:World} {g n c:Nat} {A:Option Addr} {l:List UInt8} (h:(wt g A n c l).holds w):l.length=n:=by
  have:=h.2.1
  simpa using this
def Laid (w w':World) (g:Nat) (A:Option Addr) (n c:Nat) (l m:List UInt8):Prop:=∃ A' n' c',Turned w w' (wt g A n c l) (wt g A' n' c' m)
theorem Laid.of {w w':World} {g n c n' c':Nat} {A A':Option Addr} {l m:List UInt8} {X:Array Value} {ys:List Value} (h:Turned w w' (wt g A n c l) (both (blk g 110 X) (row 5 1 A' n' c' ys))) (hX:X = #[.slice A' n' c']) (hy:ys=bL m):Laid w w' g A n c l m:=by
  subst hX
  subst hy
  exact ⟨A',n',c',h⟩
theorem Laid.refl {w:World} {g n c:Nat} {A:Option Addr} {l:List UInt8} (h:(wt g A n c l).holds w):Laid w w g A n c l l:=⟨A,n,c,Turned.refl h⟩
theorem Laid.same {w w':World} {g n c:Nat} {A:Option Addr} {l m:List UInt8} (h:Laid w w' g A n c l m):∃ A' c',Turned w w' (wt g A n c l) (wt g A' m.length c' m):=by
  obtain ⟨A',n',c',h⟩:=h
  have:=hG_ h.holds
  subst this
  exact ⟨A',c',h⟩
theorem wbyte (g:Nat) (A:Option Addr) (n c:Nat) (l:List UInt8) (x:UInt8) (w0:World) (hw:(wt g A n c l).holds w0) (hn:l.length≤70368744177664) :
    Calls Tryz.prog 89 #[.pointer (some ⟨g,0,none⟩),.int .u8 (x.toNat:Int)] w0 fun e w'=>∃ u,e=.returned u∧Laid w0 w' g A n c l (l++[x]):=by
 refine v_ (env:=[(0,.pointer (some ⟨g,0,none⟩)),(1,.int .u8 (x.toNat:Int))]) [.pointer (some ⟨g,0,none⟩),.int .u8 (x.toNat:Int)] Tryz.func89 Z Tryz.ntmps89 Z Z ?_;have hln:=hG_ hw;have S0:=St.borrow2 (blk g 110 #[.slice A n c]) (row 5 1 A n c (bL l)) hw.1 hw.2 (wt_lt hw) (wt_apart hw);refine a_ fun K1 hK1=>Rm Z Z (L_y (iu_ Tryz.underlying163 Z) Z (f_ (hK1 _ _ (W_ Z (Rm Z Z (Lm Z Z (L_y (E_ Z) Z (L_y (g_ 0 Tryz.underlying110 Z br_ Z Z Z) Z (L_y (t_ Tryz.underlying22 Z Z (((S0.blk 0 Z).cell _).trans (show (#[Value.slice A n c]:Array Value)[0]?=some (Value.slice A n c) from Z))) Z (Lm Z Z ?_))))))))));refine L_o (ah_ [_] ba_ zz5 S0 Z Z Z Z Z Z Z Z fun b1 w1 S1=>L_o (ay_ ba_ S1 1 Z Z Z (by first | exact S1.row 1 Z | exact S1.row 2 Z) (by first | exact R_ _ | exact bu_ _ | (intro u hu;simp at hu;subst hu;rfl) | (simp;done) | (simp [Value.oneCell'];done)) Z (by omega) (by omega) fun A2 c2 w2 S2=>?_));have S2d:=S2.drop (rs':=[_,_]) (.cons_cons _ (.cons_cons _ (.cons _ (.refl _))));refine L_y (E_ Z) Z (L_y (g_ 0 Tryz.underlying110 Z br_ Z Z Z) Z (L_o (ac_ S2d 0 Z Z Z Z br_ (by simp;done) fun w3 S3=>?_)));refine f_ ?_;first | refine cg_ (fn:=Tryz.f89) Z ?_ | (simp only [bf_,inB,if_true];refine cg_ (fn:=Tryz.f89) Z ?_)
 exact ⟨_,rfl,Laid.of (S3.turned2 0 1 Z Z) Z (by simp [bL,bV])⟩
theorem wraw (g:Nat) (A:Option Addr) (n c:Nat) (l:List UInt8) (B:Option Addr) (m d:Nat) (q:List UInt8) (w0:World) (hw:(wt g A n c l).holds w0) (hp:Rs w0 1 B m d (bL q)) (hn:l.length+m≤70368744177664) :
    Calls Tryz.prog 55 #[.pointer (some ⟨g,0,none⟩),.slice B m d] w0 fun e w'=>∃ u,e=.returned u∧Laid w0 w' g A n c l (l++q):=by
 refine v_ (env:=[(0,.pointer (some ⟨g,0,none⟩)),(1,.slice B m d)]) [.pointer (some ⟨g,0,none⟩),.slice B m d] Tryz.func55 Z Tryz.ntmps55 Z Z ?_;have hln:=hG_ hw;have S0:=St.borrow2 (blk g 110 #[.slice A n c]) (row 5 1 A n c (bL l)) hw.1 hw.2 (wt_lt hw) (wt_apart hw);refine a_ fun K1 hK1=>Rm Z Z (L_y (iu_ Tryz.underlying163 Z) Z (f_ (hK1 _ _ (W_ Z (Rm Z Z (Lm Z Z (L_y (E_ Z) Z (L_y (g_ 0 Tryz.underlying110 Z br_ Z Z Z) Z (L_y (t_ Tryz.underlying22 Z Z (((S0.blk 0 Z).cell _).trans (show (#[Value.slice A n c]:Array Value)[0]?=some (Value.slice A n c) from Z))) Z (Lm Z Z ?_))))))))));refine L_o (ay_ ba_ S0 1 Z Z Z (hp) (R_ _) Z (by omega) (by omega) fun A1 c1 w1 S1=>L_y (E_ Z) Z (L_y (g_ 0 Tryz.underlying110 Z br_ Z Z Z) Z (L_o (ac_ S1 0 Z Z Z Z br_ (by simp;done) fun w2 S2=>?_))));refine f_ ?_;first | refine cg_ (fn:=Tryz.f55) Z ?_ | (simp only [bf_,inB,if_true];refine cg_ (fn:=Tryz.f55) Z ?_)
 have hE:=S2.turned2 0 1 Z Z;exact ⟨_,rfl,Laid.of hE Z (by simp [bL])⟩
theorem wnew  (w0:World)  :
    Calls Tryz.prog 164 #[] w0 fun e w'=>∃ u,e=.returned u∧Like w0 w'∧∃ b,u=.pointer (some ⟨b,0,none⟩)∧w0.heap.size≤b∧(wt b none 0 0 []).holds w':=by
 refine v_ (env:=[]) [] Tryz.func164 Z Tryz.ntmps164 Z Z ?_;have S0:=St.start w0 noM;refine a_ fun K1 hK1=>b_ (Lan Z Z (hK1 _ _ (a_ fun K2 hK2=>b_ (L_y (C_ Z (show _=some #[Value.slice none 0 0] by kernel_rfl)) Z (L_o (bO_ Z S0 Z fun b1 w1 hb1 S1=>Lan Z Z (hK2 _ _ (l_ (ur ?_)))))))));refine F_ Z Z ?_;exact ⟨_,rfl,S1.like0,b1,rfl,hb1,(S1.get 0 Z),⟨by simp [bL],.inl ⟨rfl,rfl⟩⟩⟩
end Oct
namespace Oct
open Go.RowKit Zk Zx
def tl (v:Nat):Nat→List UInt8
  | 0=>[]
  | j+1=>UInt8.ofNat (v / 256 ^ j % 256)::tl v j
theorem x_ (v:Nat):∀ j,(tl v j).length=j
  | 0=>rfl
  | j+1=>by simp [tl,x_ v j]
theorem iW_ (v:Nat):∀ (j i:Nat),i < j→(tl v j)[i]?=some (UInt8.ofNat (v / 256 ^ (j - 1 - i) % 256))
  | j+1,0,_=>by simp [tl]
  | j+1,i+1,h=>by
    simp only [tl,List.getElem?_cons_succ]
    rw [iW_ v j i (by omega),show j+1 - 1 - (i+1)=j - 1 - i by omega]
theorem tl_take (v j i:Nat) (h:i < j):(tl v j).take (i+1)=(tl v j).take i++[UInt8.ofNat (v / 256 ^ (j - 1 - i) % 256)]:=by
  rw [List.take_add_one,iW_ v j i h]
  rfl
theorem shr24 (x k:Nat) (h:k < 4):Int.fdiv (x:Int) (2 ^ (min ((24:Int) - 8*(k:Int)).toNat IntKind.u32.bits))=((x / 256 ^ (4 - 1 - k):Nat):Int):=by
  have e1:min ((24:Int) - 8*(k:Int)).toNat IntKind.u32.bits=8*(4 - 1 - k):=by simp only [IntKind.bits];omega
  rw [e1,Int.fdiv_eq_ediv_of_nonneg _ (Int.pow_nonneg (by omega)),Int.natCast_ediv,Int.natCast_pow,Int.pow_mul]
  rfl
theorem byteOf (y:Nat):IntKind.u8.wrap (y:Int)=((UInt8.ofNat (y % 256)).toNat:Int):=by
  rw [IntKind.wrap_u8,UInt8.toNat_ofNat']
  omega
theorem w32 (y:Nat):IntKind.u32.wrap (y:Int)=((y % 4294967296:Nat):Int):=by
  rw [IntKind.wrap_u32]
  omega
def vr (x:Nat):List UInt8:=if h:128≤x then UInt8.ofNat (x % 128+128)::vr (x / 128) else [UInt8.ofNat x]
termination_by x
decreasing_by omega
theorem fH_ (x:Nat) (h:128≤x):vr x=UInt8.ofNat (x % 128+128)::vr (x / 128):=by rw [vr,dif_pos h]
theorem hI_ (x:Nat) (h:x < 128):vr x=[UInt8.ofNat x]:=by rw [vr,dif_neg (by omega)]
theorem orBits:∀ m:Fin 256,bits .or .u8 (m.val:Int) 128=((UInt8.ofNat (m.val % 128+128)).toNat:Int):=by decide
theorem shr7 (x:Nat):Int.fdiv (x:Int) (2 ^ (min (7:Int).toNat IntKind.u64.bits))=((x / 128:Nat):Int):=by
  have e1:min (7:Int).toNat IntKind.u64.bits=7:=by decide
  rw [e1,Int.fdiv_eq_ediv_of_nonneg _ (Int.pow_nonneg (by omega)),Int.natCast_ediv]
  rfl
theorem orB (x:Nat):bits .or .u8 ((x % 256:Nat):Int) 128=((UInt8.ofNat (x % 128+128)).toNat:Int):=by
  have h:=orBits ⟨x % 256,by omega⟩
  rw [show (⟨x % 256,by omega⟩:Fin 256).val=x % 256 from Z] at h
  rw [h,show x % 256 % 128=x % 128 by omega]
theorem w8 (y:Nat):IntKind.u8.wrap (y:Int)=((y % 256:Nat):Int):=by
  rw [IntKind.wrap_u8]
  omega
theorem w8low (y:Nat) (h:y < 128):IntKind.u8.wrap (y:Int)=((UInt8.ofNat y).toNat:Int):=by
  rw [IntKind.wrap_u8,UInt8.toNat_ofNat']
  omega
theorem vr_len (x:Nat):∀ k,x < 128 ^ (k+1)→(vr x).length≤k+1:=by
  intro k
  induction k generalizing x with
  | zero=>intro h;rw [hI_ x (by simpa using h)];simp
  | succ k ih =>
    intro h
    by_cases hb:128≤x
    · rw [fH_ x hb,List.length_cons]
      have:=ih (x / 128) (by rw [Nat.pow_succ] at h;omega)
      omega
    · rw [hI_ x (by omega)];simp
theorem cw_ (x:Nat) (h:x≤18446744073709551615):(vr x).length≤10:=vr_len x 9 (by omega)
theorem wvar (g:Nat) (A:Option Addr) (n c:Nat) (l:List UInt8) (x:Nat) (w0:World) (hw:(wt g A n c l).holds w0) (hx:x≤18446744073709551615) (hn:l.length≤70368744176000) :
    Calls Tryz.prog 91 #[.pointer (some ⟨g,0,none⟩),.int .u64 (x:Int)] w0 fun e w'=>∃ u,e=.returned u∧Laid w0 w' g A n c l (l++vr x):=by
 refine v_ (env:=[(0,.pointer (some ⟨g,0,none⟩)),(1,.int .u64 (x:Int))]) [.pointer (some ⟨g,0,none⟩),.int .u64 (x:Int)] Tryz.func91 Z Tryz.ntmps91 Z Z ?_;have hln:=hG_ hw;have S0:=St.borrow1 (wt g A n c l) hw (wt_lt hw);refine a_ fun K1 hK1=>Rm Z Z (L_y (dk_ Z Z) Z (Lan Z Z (hK1 _ _ (a_ fun K2 hK2=>r_ ?_))));refine bX_ [(4,_)] (fun (y:Nat) (m:List UInt8)=>[(1,.int .u64 (y:Int))]) (fun (y:Nat) (m:List UInt8)=>y) (fun (y:Nat) (m:List UInt8) (w:World)=>(m++vr y=l++vr x∧y≤x∧m.length+(vr y).length≤70368744177000)∧∃ A1 n1 c1,St w0 (wt g A n c l).dom [wt g A1 n1 c1 m] w) x l (Sc Z (Sub.nil _)) (Sub.cons Z Z (Sub.nil _)) ?_ ?_
 ·
  have:=cw_ x hx;exact ⟨⟨rfl,Nat.le_refl _,by omega⟩,_,_,_,S0⟩
 ·
  intro y m w1 hrel;obtain ⟨⟨hm,hy,hml⟩,A1,n1,c1,S1⟩:=hrel;have hg:m.length≤70368744177000:=by omega
  refine a_ fun K3 hK3=>a_ fun K4 hK4=>Rm Z Z (L_y (cq_ Z Z) Z (f_ (hK4 _ _ ?_)));refine o_ Z (fun h8=>?_) (fun h8=>?_)
  ·
   refine j_ (hK3 _ _ (r_ (a_ fun K5 hK5=>Rm Z Z (Lm Z Z (L_y (P_ di_ Tryz.underlying5 Z (w8 _)) Z (L_y (ae_ Z Z Z (orB _)) Z (L_o (fj_ Z Tryz.func89 Z Z (wbyte g _ _ _ _ (UInt8.ofNat (y % 128+128)) w1 (S1.get 0 Z) (by omega)) Z Z (fun d' hd=>by cases hd <;> rfl) ?_))))))));rintro e2 w2 ⟨v2,rfl,⟨A2,n2,c2,T2⟩⟩;refine ⟨_,rfl,(have S2:=S1.turn 0 Z T2;f_ (hK5 _ _ (Rm Z Z (L_y (eJ_ Z Z (by omega) (shr7 _)) Z (Lan Z Z (⟨y / 128,m++[UInt8.ofNat (y % 128+128)],by omega,⟨⟨by rw [← hm,fH_ y (by omega)];simp,by omega,by rw [fH_ y (by omega)] at hml;simp at hml ⊢;omega⟩,_,_,_,S2⟩,?_⟩))))))⟩;exact (Sc Z (Sub.cons Z Z (Sub.nil _)))
  ·
   refine K_ (hK2 _ _ (Rm Z Z (Lm Z Z (L_y (P_ di_ Tryz.underlying5 Z (w8low _ (by omega))) Z (L_o (fj_ Z Tryz.func89 Z Z (wbyte g _ _ _ _ (UInt8.ofNat y) w1 (S1.get 0 Z) (by omega)) Z Z (fun d' hd=>by cases hd <;> rfl) ?_))))));rintro e3 w3 ⟨v3,rfl,⟨A3,n3,c3,T3⟩⟩;refine ⟨_,rfl,(have S3:=S1.turn 0 Z T3;f_ ?_)⟩;first | refine cg_ (fn:=Tryz.f91) Z ?_ | (simp only [bf_,inB,if_true];refine cg_ (fn:=Tryz.f91) Z ?_)
   exact ⟨_,rfl,_,_,_,by rw [← hm,hI_ y (by omega)];exact S3.turned1 0 Z⟩
theorem wtext (g:Nat) (A:Option Addr) (n c:Nat) (l:List UInt8) (s:ByteArray) (w0:World) (hw:(wt g A n c l).holds w0) (hn:l.length+s.size≤70368744170000) :
    Calls Tryz.prog 165 #[.pointer (some ⟨g,0,none⟩),.string s] w0 fun e w'=>∃ u,e=.returned u∧Laid w0 w' g A n c l (l++(vr s.size++s.data.toList)):=by
 refine v_ (env:=[(0,.pointer (some ⟨g,0,none⟩)),(1,.string s)]) [.pointer (some ⟨g,0,none⟩),.string s] Tryz.func165 Z Tryz.ntmps165 Z Z ?_;have hln:=hG_ hw;have S0:=St.borrow1 (wt g A n c l) hw (wt_lt hw);refine a_ fun K1 hK1=>Rm Z Z (Lm Z Z (L_y (av_ Tryz.underlying9 Z) Z (L_y (P_ is3 Tryz.underlying102 Z (dg_ (by omega))) Z (L_o (n_ Tryz.func91 Z Z (wvar g _ _ _ _ s.size w0 (S0.get 0 Z) (by omega) (by omega)) Z Z ?_)))));rintro e1 w1 ⟨v1,rfl,⟨A1,n1,c1,T1⟩⟩;refine ⟨_,rfl,(have S1:=S0.turn 0 Z T1;f_ (hK1 _ _ (Rm Z Z (Lm Z Z (L_o (o_sbytes Tryz.underlying9 Tryz.underlying22 Tryz.underlying5 Z (by omega) S1 Z fun b2 c2 w2 l2 S2=>L_o (n_ Tryz.func55 Z Z (wraw g _ _ _ _ _ _ _ _ w2 (S2.get 0 Z) (S2.get 1 Z) (by have:=cw_ s.size (by omega);simp;omega)) Z Z ?_)))))))⟩;rintro e3 w3 ⟨v3,rfl,⟨A3,n3,c3,T3⟩⟩;refine ⟨_,rfl,(have S3:=S2.turn 0 Z T3;f_ ?_)⟩;first | refine cg_ (fn:=Tryz.f165) Z ?_ | (simp only [bf_,inB,if_true];refine cg_ (fn:=Tryz.f165) Z ?_)
 exact ⟨_,rfl,_,_,_,by have h:=S3.turned1 0 Z;rwa [List.append_assoc] at h⟩
theorem wbytes (g:Nat) (A:Option Addr) (n c:Nat) (l:List UInt8) (w0:World) (hw:(wt g A n c l).holds w0) (hn:l.length≤70368744177000) :
    Calls Tryz.prog 59 #[.pointer (some ⟨g,0,none⟩)] w0 fun e w'=>∃ u,e=.returned u∧Like w0 w'∧∃ A' m c',u=.slice A' m c'∧w'.ownsRow w0.heap.size 5 1 (.slice A' m c') m (bL l):=by
 refine v_ (env:=[(0,.pointer (some ⟨g,0,none⟩))]) [.pointer (some ⟨g,0,none⟩)] Tryz.func59 Z Tryz.ntmps59 Z Z ?_;have hln:=hG_ hw;have S0:=St.start w0 noM;refine a_ fun K1 hK1=>b_ (Lan Z Z (hK1 _ _ (a_ fun K2 hK2=>a_ fun K3 hK3=>Rm Z Z (L_y (eY_ Tryz.underlying163 Z) Z (Lm Z Z (d_ Z Z (Lm Z Z (d_ Z Z ?_))))))));refine L_y (E_ Z) Z (d_ Z Z (L_y (g_ 0 Tryz.underlying110 Z br_ Z Z Z) Z (d_ Z Z (L_y (t_ Tryz.underlying22 Z Z (((S0.rdB hw.1).cell _).trans (show (#[Value.slice A n c]:Array Value)[0]?=some (Value.slice A n c) from Z))) Z (d_ Z Z (L_y (I_ Tryz.underlying22 Z) Z (d_ Z Z (L_y (am_ Z Z) Z (Lp Z Z Z (f_ (hK3 _ _ ?_)))))))))));refine o_ Z (fun h12=>?_) (fun h12=>?_)
 ·
  refine a_ fun K4 hK4=>b_ (Lan Z Z (hK4 _ _ (l_ (ur (F_ Z Z ?_)))));first | exact ⟨_,rfl,S0.like0,none,0,0,rfl,by have hn0:n=0:=(by omega);subst hn0;have hl0:=List.length_eq_zero_iff.1 hln;subst hl0;exact ⟨by simp [bL],.inl ⟨rfl,rfl⟩⟩⟩ | exact ⟨_,rfl,S0.like0,_,_,_,rfl,by have:=S0.own 0 Z;simpa using this⟩
 ·
  refine j_ (hK2 _ _ (a_ fun K5 hK5=>dy_ [0,1,2,3,4,6,7,8,9,5] 10 [(0,1),(1,1),(2,1),(3,1),(4,1),(6,1),(7,1),(8,1),(9,1),(5,2),(10,3),(11,3)] aS_ (by kernel_rfl) fun w1 l1=>have S1:=S0.like l1;ga_ (Like w1) (Like.refl _) (Q_ Z (p_ Z) Z (Q_ Z (E_ Z) Z (Q_ Z (g_ 0 Tryz.underlying110 Z br_ Z Z Z) Z (Q_ Z (t_ Tryz.underlying22 Z Z (((S1.rdB hw.1).cell _).trans (show (#[Value.slice A n c]:Array Value)[0]?=some (Value.slice A n c) from Z))) Z (Q_ Z (I_ Tryz.underlying22 Z) Z (Q_ Z (p_ Z) Z (Q_ Z (E_ Z) Z (Q_ Z (g_ 0 Tryz.underlying110 Z br_ Z Z Z) Z ?_))))))))));refine Q_ Z (t_ Tryz.underlying22 Z Z (((S1.rdB hw.1).cell _).trans (show (#[Value.slice A n c]:Array Value)[0]?=some (Value.slice A n c) from Z))) Z (fF_ Z (o_makeL ba_ Z S1 Z Z inferInstance inferInstance Z (by omega) (by omega) (by omega) fun b2 w2 l2 S2=>have q2:=l2;⟨q2,(fZ_ Z (ay_ ba_ S2 0 Z Z Z (S2.rd (cd_ hw.2)) (R_ _) Z (by omega) (by omega) fun A3 c3 w3 S3=>dx_ Z (J_ Z) Z (cA_ (hK5 _ _ (l_ (ur (F_ Z Z ?_)))))))⟩));first | exact ⟨_,rfl,S3.like0,none,0,0,rfl,by have hn0:n=0:=(by omega);subst hn0;have hl0:=List.length_eq_zero_iff.1 hln;subst hl0;exact ⟨by simp [bL],.inl ⟨rfl,rfl⟩⟩⟩ | exact ⟨_,rfl,S3.like0,_,_,_,rfl,by have:=S3.own 0 Z;simpa using this⟩
end Oct
namespace Oct
open Go.RowKit Zk Zx
theorem ln_ (l k:List UInt8):decide ((⟨l.toArray⟩:ByteArray)=⟨k.toArray⟩)=decide (l=k):=by
  by_cases h:l=k
  · subst h;simp
  · have:(⟨l.toArray⟩:ByteArray)≠⟨k.toArray⟩:=fun e=>h (by simpa using e)
    simp [h]
theorem dB_ (x:Nat) (w0:World) (hx:x≤18446744073709551615) :
    Calls Tryz.prog 64 #[.int .u64 (x:Int)] w0 fun e w'=>∃ u,e=.returned u∧Like w0 w'∧∃ A m c,u=.slice A m c∧w'.ownsRow w0.heap.size 5 1 (.slice A m c) m (bL (vr x)):=by
 refine v_ (env:=[(0,.int .u64 (x:Int))]) [.int .u64 (x:Int)] Tryz.func64 Z Tryz.ntmps64 Z Z ?_;have S0:=St.start w0 noM;refine a_ fun K1 hK1=>b_ (Lan Z Z (hK1 _ _ (a_ fun K2 hK2=>b_ (have S1:=S0.nilrow 5 1;Lan Z Z (hK2 _ _ (a_ fun K3 hK3=>r_ ?_))))));refine hE_ [] (fun (y:Nat) (m:List UInt8) (A:Option Addr) (c:Nat)=>[(0,.int .u64 (y:Int)),(3,.slice A m.length c)]) (fun (y:Nat) (m:List UInt8) (A:Option Addr) (c:Nat)=>y) (fun (y:Nat) (m:List UInt8) (A:Option Addr) (c:Nat) (w:World)=>(m++vr y=vr x∧y≤x∧m.length+(vr y).length≤10)∧St w0 noM [row 5 1 A m.length c (bL m)] w) x [] none 0 (Sc Z (Sc Z (Sub.nil _))) (Sub.nil _) ?_ ?_
 ·
  have:=cw_ x hx;exact ⟨⟨rfl,Nat.le_refl _,by simpa using this⟩,S1⟩
 ·
  intro y m A c w2 hrel;obtain ⟨⟨hm,hy,hml⟩,S2⟩:=hrel;have hg:m.length≤10:=by omega
  refine a_ fun K4 hK4=>a_ fun K5 hK5=>Rm Z Z (L_y (cq_ Z Z) Z (f_ (hK5 _ _ ?_)));refine o_ Z (fun h5=>?_) (fun h5=>?_)
  ·
   refine j_ (hK4 _ _ (r_ (a_ fun K6 hK6=>Rm Z Z (Lm Z Z (L_y (eo_ Z Z (by omega) (remI (by omega))) Z (L_y (w_ Z Z (dg_ (by omega))) Z (L_y (P_ di_ Tryz.underlying5 Z (IntKind.wrap_u8 _)) Z (L_o (ah_ [_] ba_ zz5 S2 Z Z Z Z Z Z Z Z fun b3 w3 S3=>L_o (ay_ ba_ S3 0 Z Z Z (by first | exact S3.row 0 Z | exact S3.row 1 Z) (by first | exact R_ _ | exact bu_ _ | (intro u hu;simp at hu;subst hu;rfl) | (simp;done) | (simp [Value.oneCell'];done)) Z (by omega) (by omega) fun A4 c4 w4 S4=>?_))))))))));have S4d:=S4.drop (rs':=[_]) (.cons_cons _ (.cons _ (.refl _)));refine Lan Z Z (hK6 _ _ (Rm Z Z (L_y (gz_ Z Z (by omega) (quoU (by omega) (by omega))) Z (Lan Z Z ?_))));have S9:=S4d.rowc 0 Z (n':=(m++[UInt8.ofNat (y % 128+128)]).length) (xs':=bL (m++[UInt8.ofNat (y % 128+128)])) (by simp) (by rw [id_];exact congrArg (fun v=>bL m++[v]) (congrArg (Value.int _) (by rw [UInt8.toNat_ofNat'];first | omega | (rw [IntKind.wrap_u8];omega))));refine ⟨y / 128,m++[UInt8.ofNat (y % 128+128)],_,_,by omega,⟨⟨by rw [← hm,fH_ y (by omega)];simp,by omega,by rw [fH_ y (by omega)] at hml;simp at hml ⊢;omega⟩,S9⟩,?_⟩;exact (Sub.cons Z (congrArg (Value.int _) (by omega)) (Sub.cons Z (by rw [List.length_append];rfl) (Sub.nil _)))
  ·
   refine K_ (hK3 _ _ (a_ fun K7 hK7=>Rm Z Z (Lm Z Z (L_y (P_ di_ Tryz.underlying5 Z (IntKind.wrap_u8 _)) Z (L_o (ah_ [_] ba_ zz5 S2 Z Z Z Z Z Z Z Z fun b5 w5 S5=>L_o (ay_ ba_ S5 0 Z Z Z (by first | exact S5.row 0 Z | exact S5.row 1 Z) (by first | exact R_ _ | exact bu_ _ | (intro u hu;simp at hu;subst hu;rfl) | (simp;done) | (simp [Value.oneCell'];done)) Z (by omega) (by omega) fun A6 c6 w6 S6=>?_)))))));have S6d:=S6.drop (rs':=[_]) (.cons_cons _ (.cons _ (.refl _)));refine Lan Z Z (hK7 _ _ (l_ (ur (F_ Z Z ?_))));exact ⟨_,rfl,S6d.like0,_,_,_,rfl,by have h:=S6d.own 0 Z;rw [← hm,hI_ y (by omega)];simpa [bL,bV,IntKind.wrap_u8] using h⟩
theorem reftext (s:ByteArray) (w0:World) (hs:s.size≤70368744170000) :
    Calls Tryz.prog 125 #[.string s] w0 fun e w'=>∃ u,e=.returned u∧Like w0 w'∧∃ A m c,u=.slice A m c∧w'.ownsRow w0.heap.size 5 1 (.slice A m c) m (bL (vr s.size++s.data.toList)):=by
 refine v_ (env:=[(0,.string s)]) [.string s] Tryz.func125 Z Tryz.ntmps125 Z Z ?_;have S0:=St.start w0 noM;refine a_ fun K1 hK1=>b_ (Lan Z Z (hK1 _ _ (a_ fun K2 hK2=>Rm Z Z (L_y (av_ Tryz.underlying9 Z) Z (L_y (P_ is3 Tryz.underlying102 Z (dg_ (by omega))) Z (L_o (n_ Tryz.func64 Z Z (dB_ s.size w0 (by omega)) Z Z ?_)))))));rintro e1 w1 ⟨v1,rfl,l1,A1,m1,c1,rfl,O1⟩;refine ⟨_,rfl,(have S1:=S0.adopt l1 O1;have hv1:=(S1.row 0 Z).lenb;have hw1:=cw_ s.size (by omega);Lm Z Z (L_o (o_sbytes Tryz.underlying9 Tryz.underlying22 Tryz.underlying5 Z (by omega) S1 Z fun b2 c2 w2 l2 S2=>L_o (ay_ ba_ S2 0 Z Z Z (by first | exact S2.row 0 Z | exact S2.fix 1 Z) (by first | exact R_ _ | exact bu_ _ | (intro u hu;simp at hu;subst hu;rfl) | (simp;done) | (simp [Value.oneCell'];done)) Z (by omega) (by omega) fun A3 c3 w3 S3=>?_))))⟩;refine Lan Z Z (hK2 _ _ (l_ (ur (F_ Z Z ?_))));exact ⟨_,rfl,S3.like0,_,_,_,rfl,by have h:=S3.own 0 Z;rwa [← id_] at h⟩
theorem same (A B:Option Addr) (n c m d:Nat) (a b:List UInt8) (w0:World) (ha:Rs w0 1 A n c (bL a)) (hb:Rs w0 1 B m d (bL b)) :
    Calls Tryz.prog 14 #[.slice A n c,.slice B m d] w0 fun e w'=>∃ u,e=.returned u∧Like w0 w'∧u=.bool (decide (a=b)):=by
 refine v_ (env:=[(0,.slice A n c),(1,.slice B m d)]) [.slice A n c,.slice B m d] Tryz.func14 Z Tryz.ntmps14 Z Z ?_;have S0:=St.start w0 noM;refine a_ fun K1 hK1=>b_ (Lan Z Z (hK1 _ _ (a_ fun K2 hK2=>Rm Z Z (L_y (co_ Tryz.underlying22 Tryz.underlying5 Tryz.underlying9 Z (S0.rd ha)) Z (Lm Z Z (L_y (co_ Tryz.underlying22 Tryz.underlying5 Tryz.underlying9 Z (S0.rd hb)) Z (L_y (cW_ Z Z) Z (Lan Z Z ?_))))))));refine hK2 _ _ (l_ (ur (F_ Z Z ?_)));exact ⟨_,rfl,S0.like0,by rw [ln_]⟩
theorem big_set (x j k:Nat) (v:Value) (h:k < j) (hv:v=.int .u8 (IntKind.u8.wrap (((x / 256 ^ k:Nat):Int) % 256))):(bL (List.replicate (j - k) 0++tl x k)).set (j - 1 - k) v=bL (List.replicate (j - (k+1)) 0++tl x (k+1)):=by
  have e:v=bV (UInt8.ofNat (x / 256 ^ k % 256)):=by
    rw [hv]
    exact congrArg (Value.int _) (by rw [IntKind.wrap_u8,UInt8.toNat_ofNat'];omega)
  rw [e]
  unfold bL
  rw [← List.map_set,show j - k=(j - (k+1))+1 by omega,List.replicate_succ',List.append_assoc,List.set_append_right _ _ (by simp;omega)]
  simp [tl,show j - 1 - k - (j - (k+1))=0 by omega]
theorem jh_ (x j:Nat) (w0:World) (hx:x≤18446744073709551615) (hj:j≤8) :
    Calls Tryz.prog 61 #[.int .u64 (x:Int),.int .i64 (j:Int)] w0 fun e w'=>∃ u,e=.returned u∧Like w0 w'∧∃ A m c,u=.slice A m c∧w'.ownsRow w0.heap.size 5 1 (.slice A m c) m (bL (tl x j)):=by
 refine v_ (env:=[(0,.int .u64 (x:Int)),(1,.int .i64 (j:Int))]) [.int .u64 (x:Int),.int .i64 (j:Int)] Tryz.func61 Z Tryz.ntmps61 Z Z ?_;have S0:=St.start w0 noM;refine a_ fun K1 hK1=>b_ (Lan Z Z (hK1 _ _ (a_ fun K2 hK2=>Rm Z Z (L_o (o_make ba_ Z S0 Z Z inferInstance inferInstance Z (by omega) (by omega) (by omega) fun b1 w1 S1=>Lan Z Z (hK2 _ _ (a_ fun K3 hK3=>a_ fun K4 hK4=>?_)))))));refine b_ (Lan Z Z (hK4 _ _ (r_ ?_)));refine an_ [(1,_),(5,_)] (fun (k:Nat)=>[(0,.int .u64 ((x / 256 ^ k:Nat):Int)),(6,.int .i64 (k:Int))]) (fun (k:Nat)=>j - k) (fun (k:Nat) (w:World)=>k≤j∧St w0 noM [row 5 1 (some ⟨b1,0,none⟩) j j (bL (List.replicate (j - k) 0++tl x k))] w) 0 (Sc Z (Sc Z (Sub.nil _))) (Sub.cons Z Z (Sub.cons Z Z (Sub.nil _))) ?_ ?_
 ·
  exact ⟨Nat.zero_le _,S1.rowc 0 Z Z (by simp [tl,bL,bV])⟩
 ·
  intro k w2 hrel;obtain ⟨hk,S2⟩:=hrel;have hqb:x / 256 ^ k≤x:=Nat.div_le_self _ _;generalize hvj:x / 256 ^ k=vj at *
  refine a_ fun K5 hK5=>a_ fun K6 hK6=>Rm Z Z (Lm Z Z (L_y (L_ Z Z) Z (f_ (hK6 _ _ ?_))));refine o_ Z (fun h11=>?_) (fun h11=>?_)
  ·
   refine j_ (hK5 _ _ (a_ fun K7 hK7=>r_ (a_ fun K8 hK8=>Rm Z Z (Lm Z Z (L_y (ax_ Z Z (z_ (by omega))) Z (Lm Z Z (L_y (ax_ Z Z (z_ (by omega))) Z (Lm Z Z (L_y (eo_ Z Z (by omega) (remI (by omega))) Z (L_y (P_ di_ Tryz.underlying5 Z (IntKind.wrap_u8 _)) Z ?_))))))))));refine L_y (T_ Tryz.underlying22 sz5 Z Z (by first | exact S2.row 0 Z) (Nt.mk (by omega):Nt _ (j - 1 - k)) (by omega)) Z ?_;refine L_o (hm_ S2 0 Z Z Z Z sz5 (by omega) fun w3 S3=>f_ (hK8 _ _ (Rm Z Z (L_y (gz_ Z Z (by omega) (quoU (by omega) (by omega))) Z (Lan Z Z (hK7 _ _ (Rm Z Z (L_y (w_ Z Z (z_ (by omega))) Z (Lan Z Z ?_)))))))));have S9:=S3.rowc 0 Z (n':=j) (xs':=bL (List.replicate (j - (k+1)) 0++tl x (k+1))) Z (big_set x j k _ (by omega) (by rw [hvj];first | rfl | (congr 1;first | omega | (rw [IntKind.wrap_u8];omega))));refine ⟨k+1,by omega,⟨by omega,S9⟩,?_⟩;exact (Sub.cons Z (congrArg (Value.int _) (by rw [Nat.pow_succ, ← Nat.div_div_eq_div_mul,hvj];omega)) (Sc Z (Sub.cons Z Z (Sub.cons Z Z (Sub.nil _)))))
  ·
   have hkj:k=j:=by omega
   subst hkj;refine K_ (hK3 _ _ (a_ fun K9 hK9=>Rm Z Z (Lan Z Z (hK9 _ _ (l_ (ur (F_ Z Z ?_)))))));exact ⟨_,rfl,S2.like0,_,_,_,rfl,by have h:=S2.own 0 Z;simpa using h⟩
end Oct
namespace Rev
open Go.RowKit Zk Zx
open Oid (idf hexL)
open Tre (aw_)
def dig (n:Nat):UInt8:=UInt8.ofNat (48+n % 10)
theorem iH_ (n:Nat):(dig n).toNat=48+n % 10:=by
  unfold dig
  rw [UInt8.toNat_ofNat']
  omega
def dgt (n:Nat):List UInt8:=if h:n < 10 then [dig n] else dgt (n / 10)++[dig n]
termination_by n
def dg0 (n:Nat):List UInt8:=if n=0 then [] else dgt n
theorem jH_ (n:Nat):dgt n=dg0 (n / 10)++[dig n]:=by
  rw [dgt]
  split
  · rename_i h
    have:n / 10=0:=by omega
    rw [dg0,if_pos this]
    rfl
  · rename_i h
    rw [dg0,if_neg (by omega)]
theorem hA_ (n:Nat) (h:0 < n):dg0 n=dg0 (n / 10)++[dig n]:=by
  rw [dg0,if_neg (by omega),jH_]
theorem fW_:dg0 0=[]:=by rw [dg0,if_pos Z]
theorem lf_:∀ (k n:Nat),n < 10 ^ k→(dg0 n).length≤k
  | 0,n,h=>by
    have:n=0:=by simpa using h
    rw [this,fW_]
    exact Nat.le_refl 0
  | k + 1,n,h=>by
    by_cases h0:n=0
    · rw [h0,fW_];exact Nat.zero_le _
    · rw [hA_ n (by omega),List.length_append]
      have:=lf_ k (n / 10) (by rw [Nat.pow_succ] at h;omega)
      simp only [List.length_cons,List.length_nil]
      omega
theorem le_ (k n:Nat) (h:n < 10 ^ (k+1)):(dgt n).length≤k+1:=by
  rw [jH_,List.length_append]
  have:=lf_ k (n / 10) (by rw [Nat.pow_succ] at h;omega)
  simp only [List.length_cons,List.length_nil]
  omega
def eF_ (n:Int):List UInt8:=if n < 0 then [] else dgt n.toNat
theorem jG_ (n:Nat):eF_ (n:Int)=dgt n:=by
  rw [eF_,if_neg (by omega),Int.toNat_natCast]
theorem digS_len {n:Int} (h:n≤9223372036854775807):(eF_ n).length≤19:=by
  unfold eF_
  split
  · exact Nat.zero_le _
  · exact le_ 18 _ (by omega)
def isD (c:UInt8):Bool:=decide (48≤c.toNat) && decide (c.toNat≤57)
def bl_ (l:List UInt8):Nat:=l.foldl (fun n c=>n*10+(c.toNat - 48)) 0
theorem numV_snoc (l:List UInt8) (c:UInt8):bl_ (l++[c])=bl_ l*10+(c.toNat - 48):=by
  unfold bl_
  rw [List.foldl_append]
  rfl
theorem isD_lo {c:UInt8} (h:isD c=true):48≤c.toNat∧c.toNat≤57:=by
  unfold isD at h
  rwa [Bool.and_eq_true,decide_eq_true_eq,decide_eq_true_eq] at h
theorem fold_lt:∀ (l:List UInt8) (n:Nat),l.all isD=true→l.foldl (fun n c=>n*10+(c.toNat - 48)) n < (n+1)*10 ^ l.length
  | [],n,_=>by simp
  | c::l,n,h=>by
    rw [List.all_cons,Bool.and_eq_true] at h
    have h1:=isD_lo h.1
    have h2:=fold_lt l (n*10+(c.toNat - 48)) h.2
    rw [List.foldl_cons,List.length_cons,Nat.pow_succ]
    have h3:(n*10+(c.toNat - 48)+1)*10 ^ l.length≤(n+1)*10*10 ^ l.length:=Nat.mul_le_mul_right _ (by omega)
    have h4:(n+1)*(10 ^ l.length*10)=(n+1)*10*10 ^ l.length:=by rw [Nat.mul_comm (10 ^ l.length) 10,Nat.mul_assoc]
    omega
theorem numV_lt (l:List UInt8) (h:l.all isD=true):bl_ l < 10 ^ l.length:=by
  have:=fold_lt l 0 h
  unfold bl_
  omega
def dJ_ (l:List UInt8):Bool:=decide (1≤l.length∧l.length≤15∧¬ (l.getD 0 0=48∧1 < l.length)) && l.all isD
end Rev
namespace Zx
open Go.RowKit Zk
section
variable {P : Program} {S : World → Prop} {env : Env} {w w0 : World} {dst : Option Tmp} {ty : TypeId} {pos : String} {after : Array Edge} {g : Option (Nat × Bool)}
end
end Zx
namespace Zx
open Go.RowKit Zk
section
variable {P : Program} {N : Nat} {Q : Post} {env : Env} {w w0 : World} {M : Nat → Prop} {rs : List Res} {K : Env → World → Prop} {d : Tmp} {ty : TypeId} {pos : String} {after : Array Edge} {g : Option (Nat × Bool)}
end
end Zx
namespace Rev
open Go.RowKit Zk Zx
open Oid (idf hexL)
open Tre (aw_)
end Rev
end Go.Proofs.YtgaklngnfecdaaaGreat
namespace Go.Proofs
open Go.Shelf Go.RowKit
end Go.Proofs
namespace Go.Proofs.YtgaklngnfecdaaaGreat
namespace Rev
open Go.Shelf Go.RowKit Zk Zx
open Oid (idf hexL)
open Tre (aw_)
theorem iY_ (a b:List UInt8):(⟨a.toArray⟩:ByteArray)++⟨b.toArray⟩=⟨(a++b).toArray⟩:=by
  symm
  apply ByteArray.ext
  simp
theorem bsz (l:List UInt8):(⟨l.toArray⟩:ByteArray).size=l.length:=by simp [ByteArray.size]
theorem cat32 (l:List UInt8):(⟨l.toArray⟩:ByteArray)++⟨#[32]⟩=⟨(l++[32]).toArray⟩:=iY_ l [32]
theorem bsz32:(⟨#[32]⟩:ByteArray).size=1:=rfl
end Rev
namespace Rev
open Go.RowKit Zk Zx
open Oid (idf hexL)
open Tre (aw_)
def RV (l:List UInt8) (k:Nat) (cur:List UInt8):Prop:=cur.length=l.length∧∀ j,j < l.length→cur[j]?=if j < k∨l.length≤j+k then l[l.length - 1 - j]? else l[j]?
theorem RV.start (l:List UInt8):RV l 0 l:=⟨rfl,fun j hj=>by rw [if_neg (by omega)]⟩
theorem getD_q {l:List UInt8} {k:Nat} (h:k < l.length):l[k]?=some (l.getD k 0):=by rw [List.getD_eq_getElem?_getD,List.getElem?_eq_getElem h];rfl
theorem RV.step {l cur:List UInt8} {k:Nat} (h:RV l k cur) (hk:2*k+1 < l.length):RV l (k+1) ((cur.set k (cur.getD (l.length - 1 - k) 0)).set (l.length - 1 - k) (cur.getD k 0)):=by
  obtain ⟨h1,h2⟩:=h
  refine ⟨by rw [List.length_set,List.length_set,h1],fun j hj=>?_⟩
  have ha:=h2 k (by omega)
  have hb:=h2 (l.length - 1 - k) (by omega)
  rw [if_neg (by omega),getD_q (by omega)] at ha
  rw [if_neg (by omega),getD_q (by omega)] at hb
  rw [List.getElem?_set,List.length_set]
  by_cases e1:l.length - 1 - k=j
  · rw [if_pos e1,if_pos (by omega),if_pos (by omega),ha]
    congr 1
    omega
  · rw [if_neg e1,List.getElem?_set]
    by_cases e2:k=j
    · rw [if_pos e2,if_pos (by omega),if_pos (by omega),hb]
      congr 1
      omega
    · rw [if_neg e2,h2 j hj]
      by_cases e3:j < k∨l.length≤j+k
      · rw [if_pos e3,if_pos (by omega)]
      · rw [if_neg e3,if_neg (by omega)]
theorem RV.done {l cur:List UInt8} {k:Nat} (h:RV l k cur) (hk:l.length≤2*k+1):cur=l.reverse:=by
  apply List.ext_getElem?
  intro j
  by_cases hj:j < l.length
  · rw [h.2 j hj,List.getElem?_reverse hj]
    split
    · rfl
    · congr 1
      omega
  · rw [List.getElem?_eq_none (by rw [h.1];omega),List.getElem?_eq_none (by rw [List.length_reverse];omega)]
theorem set_bL2 (l m:List UInt8) (k j:Nat):(bL l).set k (.int .u8 (g8 m j))=bL (l.set k (m.getD j 0)):=by
  unfold bL g8
  rw [List.map_set]
  rfl
theorem revers (A:Option Addr) (c:Nat) (l:List UInt8) (w0:World) (hw:(row 5 1 A l.length c (bL l)).holds w0) :
    Calls Tryz.prog 72 #[.slice A l.length c] w0 fun e w'=>∃ u,e=.returned u∧Turned w0 w' (row 5 1 A l.length c (bL l)) (row 5 1 A l.length c (bL l.reverse)):=by
 refine v_ (env:=[(0,.slice A l.length c)]) [.slice A l.length c] Tryz.func72 Z Tryz.ntmps72 Z Z ?_;have hcap:=aO_ hw;have S0:=St.borrow1 (row 5 1 A l.length c (bL l)) hw (fun i hi=>(World.ownsRow.lt hw i hi).2);refine a_ fun K1 hK1=>Rm Z Z (L_y (I_ Tryz.underlying22 Z) Z (L_y (ax_ Z Z (z_ (by omega))) Z (La Z Z (Lan Z Z (hK1 _ _ (r_ ?_))))));refine bX_ [(0,_)] (fun (k:Nat) (cur:List UInt8)=>[(2,.int .i64 (k:Int)),(3,.int .i64 ((l.length:Int) - 1 - (k:Int)))]) (fun (k:Nat) (cur:List UInt8)=>l.length - k) (fun (k:Nat) (cur:List UInt8) (w:World)=>(k≤l.length∧RV l k cur)∧St w0 (row 5 1 A l.length c (bL l)).dom [row 5 1 A l.length c (bL cur)] w) 0 l (Sc Z (Sc Z (Sub.nil _))) (Sub.cons Z Z (Sub.nil _)) ?_ ?_
 ·
  exact ⟨⟨by omega,RV.start l⟩,S0⟩
 ·
  intro k cur w1 hrel;obtain ⟨⟨hk,hrv⟩,S1⟩:=hrel;refine a_ fun K2 hK2=>a_ fun K3 hK3=>Rm Z Z (Lm Z Z (L_y (L_ Z Z) Z (f_ (hK3 _ _ ?_))));refine o_ Z (fun h9=>?_) (fun h9=>?_)
  ·
   have hcl:=hrv.1;refine j_ (hK2 _ _ (a_ fun K4 hK4=>r_ (dy_ [0,1,4,5,6,7,8,9,10,11,12] 13 [(2,0),(3,0),(0,1),(1,1),(4,1),(5,1),(6,1),(7,1),(8,1),(9,1),(10,1),(11,1),(12,1),(13,3),(14,3),(15,3)] aS_ (by kernel_rfl) fun w2 l2=>have S2:=S1.like l2;ZA_y Z (p_ Z) Z (ZA_y Z (p_ Z) Z (ga_ (Like w2) (Like.refl _) (Q_ Z (p_ Z) Z (Q_ Z (p_ Z) Z (Q_ Z (p_ Z) Z (Q_ Z (p_ Z) Z (Q_ Z (T_ Tryz.underlying22 sz5 Z Z (by first | exact S2.row 0 Z) (Nt.mk (by omega):Nt _ (l.length - 1 - k)) (by omega)) Z ?_))))))))));refine ZB_yb Z (ep_ Tryz.underlying5 Z Z (by first | exact S2.row 0 Z) (by omega)) Z fun _ _=>?_;refine Q_ Z (p_ Z) Z (Q_ Z (p_ Z) Z (Q_ Z (T_ Tryz.underlying22 sz5 Z Z (by first | exact S2.row 0 Z) inferInstance (by omega)) Z ?_));refine ZB_yb Z (ep_ Tryz.underlying5 Z Z (by first | exact S2.row 0 Z) (by omega)) Z fun _ _=>?_;refine Q_ Z (T_ Tryz.underlying22 sz5 Z Z (by first | exact S2.row 0 Z) inferInstance (by omega)) Z ?_;refine fZ_ Z (hm_ S2 0 Z Z Z Z sz5 (by omega) fun w3 S3=>dx_ Z (T_ Tryz.underlying22 sz5 Z Z (by first | exact S3.row 0 Z) (Nt.mk (by omega):Nt _ (l.length - 1 - k)) (by omega)) Z ?_);refine ZA_o Z (hm_ S3 0 Z Z Z Z sz5 (by omega) fun w4 S4=>cA_ (hK4 _ _ (Rm Z Z (L_y (w_ Z Z (z_ (by omega))) Z (Lm Z Z (L_y (ax_ Z Z (z_ (by omega))) Z (La Z Z (Lan Z Z ?_))))))));have S9:=S4.rowc 0 Z (n':=l.length) (xs':=bL ((cur.set k (cur.getD (l.length - 1 - k) 0)).set (l.length - 1 - k) (cur.getD k 0))) Z (by rw [set_bL2,set_bL2]);refine ⟨k+1,_,by omega,⟨⟨by omega,hrv.step (by omega)⟩,S9⟩,?_⟩;exact (Sc Z (Sc Z (Sub.cons Z Z (Sub.nil _))))
  ·
   have hcl:=hrv.done (by omega);refine K_ ?_;first | refine cg_ (fn:=Tryz.f72) Z ?_ | (simp only [bf_,inB,if_true];refine cg_ (fn:=Tryz.f72) Z ?_)
   rw [hcl] at S1;exact ⟨_,rfl,S1.turned1 0 Z⟩
end Rev
namespace Rev
open Go.RowKit Zk Zx
open Oid (idf hexL)
open Tre (aw_)
theorem digits (n:Int) (w0:World) (hn:n≤9223372036854775807) :
    Calls Tryz.prog 38 #[.int .i64 n] w0 fun e w'=>∃ u,e=.returned u∧Like w0 w'∧u=.string ⟨(eF_ n).toArray⟩:=by
 refine v_ (env:=[(0,.int .i64 n)]) [.int .i64 n] Tryz.func38 Z Tryz.ntmps38 Z Z ?_;have S0:=St.start w0 noM;refine a_ fun K1 hK1=>b_ (Lan Z Z (hK1 _ _ (a_ fun K2 hK2=>a_ fun K3 hK3=>Rm Z Z (L_y (L_ Z Z) Z (f_ (hK3 _ _ ?_))))));refine o_ Z (fun h5=>?_) (fun h5=>?_)
 ·
  refine a_ fun K4 hK4=>b_ (Lan Z Z (hK4 _ _ (l_ (ur (F_ Z Z ?_)))));exact ⟨_,rfl,S0.like0,by rw [eF_,if_pos (by omega)]⟩
 ·
  obtain ⟨N,rfl⟩:∃ N:Nat,n=(N:Int):=⟨n.toNat,by omega⟩;refine j_ (hK2 _ _ (a_ fun K5 hK5=>Rm Z Z (L_y (eo_ Z Z (by omega) (remI (by omega))) Z (L_y (w_ Z Z (z_ (by omega))) Z (L_y (P_ is3 Tryz.underlying5 Z (show IntKind.u8.wrap (48+(N:Int) % 10)=((dig N).toNat:Int) by rw [u8w (by omega),iH_];omega)) Z ?_)))));refine L_o (ah_ [_] ba_ zz5 S0 Z Z Z Z Z Z Z Z fun b1 w1 S1=>Lan Z Z (hK5 _ _ (a_ fun K6 hK6=>a_ fun K7 hK7=>Rm Z Z (L_y (gz_ Z Z (by omega) (quoI (by omega) (by omega))) Z (Lan Z Z (hK7 _ _ (r_ ?_)))))));refine hE_ [] (fun (m:Nat) (A1:Option Addr) (c1:Nat) (bs:List UInt8)=>[(0,.int .i64 (m:Int)),(3,.slice A1 bs.length c1)]) (fun (m:Nat) (A1:Option Addr) (c1:Nat) (bs:List UInt8)=>m) (fun (m:Nat) (A1:Option Addr) (c1:Nat) (bs:List UInt8) (w:World)=>(m≤N∧dgt N=dg0 m++bs.reverse∧bs.length+(dg0 m).length≤20)∧St w0 noM [row 5 1 A1 bs.length c1 (bL bs)] w) (N / 10) _ _ [dig N] (Sc Z (Sc Z (Sub.nil _))) (Sub.nil _) ?_ ?_
  ·
   exact ⟨⟨by omega,by rw [jH_];rfl,by have h1:=le_ 18 N (by omega);rw [jH_,List.length_append] at h1;simp only [List.length_cons,List.length_nil] at h1 ⊢;omega⟩,S1⟩
  ·
   intro m A1 c1 bs w2 hrel;obtain ⟨⟨hm,hdg,hbl⟩,S2⟩:=hrel;refine a_ fun K8 hK8=>a_ fun K9 hK9=>Rm Z Z (L_y (Z_ Z Z) Z (f_ (hK9 _ _ ?_)));refine o_ Z (fun h14=>?_) (fun h14=>?_)
   ·
    refine j_ (hK8 _ _ (a_ fun K10 hK10=>r_ (Rm Z Z (Lm Z Z (L_y (eo_ Z Z (by omega) (remI (by omega))) Z (L_y (w_ Z Z (z_ (by omega))) Z (L_y (P_ is3 Tryz.underlying5 Z (show IntKind.u8.wrap (48+(m:Int) % 10)=((dig m).toNat:Int) by rw [u8w (by omega),iH_];omega)) Z ?_)))))));refine L_o (ah_ [_] ba_ zz5 S2 Z Z Z Z Z Z Z Z fun b3 w3 S3=>L_o (ay_ ba_ S3 0 Z Z Z (by first | exact S3.row 0 Z | exact S3.row 1 Z) (by first | exact R_ _ | exact bu_ _ | (intro u hu;simp at hu;subst hu;rfl) | (simp;done) | (simp [Value.oneCell'];done)) Z (by omega) (by omega) fun A4 c4 w4 S4=>?_));have S4d:=S4.drop (rs':=[_]) (.cons_cons _ (.cons _ (.refl _)));refine Lan Z Z (hK10 _ _ (Rm Z Z (L_y (gz_ Z Z (by omega) (quoI (by omega) (by omega))) Z (Lan Z Z ?_))));have hst:=hA_ m (by omega);have S9:=S4d.rowc 0 Z (n':=(bs++[dig m]).length) (xs':=bL (bs++[dig m])) (by simp) (by rw [id_];rfl);refine ⟨m / 10,_,_,bs++[dig m],by omega,⟨⟨by omega,by rw [hdg,hst,List.reverse_append];simp,by rw [hst,List.length_append] at hbl;rw [List.length_append];simp only [List.length_cons,List.length_nil] at hbl ⊢;omega⟩,S9⟩,?_⟩;exact (Sc Z (Sub.cons Z (by first | rfl | (rw [List.length_append];rfl)) (Sub.nil _)))
   ·
    have hm0:m=0:=by omega
    subst hm0;refine K_ (hK6 _ _ (a_ fun K11 hK11=>Rm Z Z (L_o (n_ Tryz.func72 Z Z (revers A1 c1 bs w2 (S2.get 0 Z)) Z Z ?_))));rintro e5 w5 ⟨v5,rfl,T5⟩;refine ⟨_,rfl,(have S5:=S2.turn 0 Z T5;f_ (hK11 _ _ (a_ fun K12 hK12=>Rm Z Z (L_y (co_ Tryz.underlying22 Tryz.underlying5 Tryz.underlying9 Z (by first | exact S5.row 0 Z)) Z ?_))))⟩;refine Lan Z Z (hK12 _ _ (l_ (ur (F_ Z Z ?_))));exact ⟨_,rfl,S5.like0,by rw [jG_,hdg,fW_,List.nil_append]⟩
theorem iz_ {N m:Nat} {s:List UInt8} (hs0:s=[]→m=N) (hdg:s≠[]→dgt N=dg0 m++s) (hbl:s.length+(dg0 m).length≤20) (hc:0 < m∨s=[]):dgt N=dg0 (m / 10)++(dig m::s)∧(dig m::s).length+(dg0 (m / 10)).length≤20:=by
  by_cases hs:s=[]
  · subst hs
    have:=hs0 Z
    subst this
    refine ⟨jH_ m,?_⟩
    by_cases h0:m=0
    · subst h0
      rw [show 0 / 10=0 from Z,fW_]
      decide
    · rw [hA_ m (by omega),List.length_append] at hbl
      simp only [List.length_cons,List.length_nil] at hbl ⊢
      omega
  · have hm:0 < m:=hc.resolve_right hs
    have h1:=hdg hs
    rw [hA_ m hm] at h1 hbl
    refine ⟨by rw [h1,List.append_assoc];rfl,?_⟩
    rw [List.length_append] at hbl
    simp only [List.length_cons,List.length_nil] at hbl ⊢
    omega
theorem str_nil {s:List UInt8} (h:(⟨s.toArray⟩:ByteArray)=⟨#[]⟩):s=[]:=by
  have:=congrArg (fun b:ByteArray=>b.data.toList) h
  simpa using this
theorem rdigits (n:Int) (w0:World) (hn:n≤9223372036854775807) :
    Calls Tryz.prog 39 #[.int .i64 n] w0 fun e w'=>∃ u,e=.returned u∧Like w0 w'∧u=.string ⟨(eF_ n).toArray⟩:=by
 refine v_ (env:=[(0,.int .i64 n)]) [.int .i64 n] Tryz.func39 Z Tryz.ntmps39 Z Z ?_;have S0:=St.start w0 noM;refine a_ fun K1 hK1=>b_ (Lan Z Z (hK1 _ _ (a_ fun K2 hK2=>a_ fun K3 hK3=>Rm Z Z (L_y (L_ Z Z) Z (f_ (hK3 _ _ ?_))))));refine o_ Z (fun h5=>?_) (fun h5=>?_)
 ·
  refine a_ fun K4 hK4=>b_ (Lan Z Z (hK4 _ _ (l_ (ur (F_ Z Z ?_)))));exact ⟨_,rfl,S0.like0,by rw [eF_,if_pos (by omega)]⟩
 ·
  obtain ⟨N,rfl⟩:∃ N:Nat,n=(N:Int):=⟨n.toNat,by omega⟩;refine j_ (hK2 _ _ (a_ fun K5 hK5=>b_ (Lan Z Z (hK5 _ _ (a_ fun K6 hK6=>r_ ?_)))));refine bX_ [] (fun (m:Nat) (s:List UInt8)=>[(0,.int .i64 (m:Int)),(3,.string ⟨s.toArray⟩)]) (fun (m:Nat) (s:List UInt8)=>m+(if s=[] then 1 else 0)) (fun (m:Nat) (s:List UInt8) (w:World)=>(m≤N∧(s=[]→m=N)∧(s≠[]→dgt N=dg0 m++s)∧s.length+(dg0 m).length≤20)∧St w0 noM [] w) N [] (Sc Z (Sc Z (Sub.nil _))) (Sub.nil _) ?_ ?_
  ·
   exact ⟨⟨by omega,fun _=>rfl,fun h=>absurd Z h,by have h1:=lf_ 19 N (by omega);simp only [List.length_nil];omega⟩,S0⟩
  ·
   intro m s w1 hrel;obtain ⟨⟨hm,hs0,hdg,hbl⟩,S1⟩:=hrel;refine a_ fun K7 hK7=>a_ fun K8 hK8=>Rm Z Z (L_y (Z_ Z Z) Z (Lm Z Z ?_));refine y_ 8 Z (fun h8=>?_) (fun h8=>?_)
   ·
    refine h_ Z Z Z (h_ Z Z Z (Lp Z Z Z (f_ (hK8 _ _ (W_ Z (j_ (hK7 _ _ (r_ (a_ fun K9 hK9=>?_)))))))));have hc:0 < m∨s=[]:=by first | exact .inl (by omega) | exact .inr (str_nil h11)
    refine Rm Z Z (L_y (eo_ Z Z (by omega) (remI (by omega))) Z (L_y (w_ Z Z (z_ (by omega))) Z (L_y (P_ is3 Tryz.underlying5 Z (show IntKind.u8.wrap (48+(m:Int) % 10)=((dig m).toNat:Int) by rw [u8w (by omega),iH_];omega)) Z ?_)));refine L_o (ah_ [_] ba_ zz5 S1 Z Z Z Z Z Z Z Z fun b3 w3 S3=>L_y (co_ (l:=[dig m]) Tryz.underlying22 Tryz.underlying5 Tryz.underlying9 Z (S3.row 0 Z)) Z (Lm Z Z (L_y (fz_ Z Z (by rw [bsz,bsz];simp only [List.length_cons,List.length_nil];omega)) Z ?_)));refine Lan Z Z (hK9 _ _ (Rm Z Z (L_y (gz_ Z Z (by omega) (quoI (by omega) (by omega))) Z (Lan Z Z (have S9:=S3.drop (rs':=[]) (.cons _ (.refl _));⟨m / 10,dig m::s,by rw [if_neg (List.cons_ne_nil _ _)];rcases hc with h | h;split <;> omega;rw [if_pos h];omega,⟨⟨by omega,fun h=>absurd h (List.cons_ne_nil _ _),fun _=>(iz_ hs0 hdg hbl hc).1,(iz_ hs0 hdg hbl hc).2⟩,S9⟩,?_⟩)))));exact (Sc Z (Sub.cons Z (by rw [iY_];rfl) (Sub.nil _)))
   ·
    refine d_ Z Z (Lm Z Z (d_ Z Z (L_y (cW_ Z Z) Z (Lp Z Z Z (f_ (hK8 _ _ ?_))))));refine o_ Z (fun h11=>?_) (fun h11=>?_)
    ·
     refine j_ (hK7 _ _ (r_ (a_ fun K10 hK10=>?_)));have hc:0 < m∨s=[]:=by first | exact .inl (by omega) | exact .inr (str_nil h11)
     refine Rm Z Z (L_y (eo_ Z Z (by omega) (remI (by omega))) Z (L_y (w_ Z Z (z_ (by omega))) Z (L_y (P_ is3 Tryz.underlying5 Z (show IntKind.u8.wrap (48+(m:Int) % 10)=((dig m).toNat:Int) by rw [u8w (by omega),iH_];omega)) Z ?_)));refine L_o (ah_ [_] ba_ zz5 S1 Z Z Z Z Z Z Z Z fun b4 w4 S4=>L_y (co_ (l:=[dig m]) Tryz.underlying22 Tryz.underlying5 Tryz.underlying9 Z (S4.row 0 Z)) Z (Lm Z Z (L_y (fz_ Z Z (by rw [bsz,bsz];simp only [List.length_cons,List.length_nil];omega)) Z ?_)));refine Lan Z Z (hK10 _ _ (Rm Z Z (L_y (gz_ Z Z (by omega) (quoI (by omega) (by omega))) Z (Lan Z Z (have S9:=S4.drop (rs':=[]) (.cons _ (.refl _));⟨m / 10,dig m::s,by rw [if_neg (List.cons_ne_nil _ _)];rcases hc with h | h;split <;> omega;rw [if_pos h];omega,⟨⟨by omega,fun h=>absurd h (List.cons_ne_nil _ _),fun _=>(iz_ hs0 hdg hbl hc).1,(iz_ hs0 hdg hbl hc).2⟩,S9⟩,?_⟩)))));exact (Sc Z (Sub.cons Z (by rw [iY_];rfl) (Sub.nil _)))
    ·
     refine K_ (hK6 _ _ (a_ fun K11 hK11=>Rm Z Z (Lan Z Z (hK11 _ _ (l_ (ur (F_ Z Z ?_)))))));have hm0:m=0:=by omega
     subst hm0;exact ⟨_,rfl,S1.like0,by rw [jG_,hdg (fun e=>h11 (by rw [e])),fW_,List.nil_append]⟩
end Rev
namespace Rev
open Go.RowKit Zk Zx
open Oid (idf hexL)
open Tre (aw_)
def gP_ (l:List UInt8):Value:=if dJ_ l then .tuple #[.int .i64 (bl_ l:Int),.int .i64 0] else .tuple #[.int .i64 0,.int .i64 12]
theorem g8_48 (l:List UInt8):g8 l 0=48↔l.getD 0 0=48:=by
  unfold g8
  constructor
  · intro h
    have h1:(l.getD 0 0).toNat=48:=by omega
    exact UInt8.toNat_inj.1 h1
  · intro h
    rw [h]
    rfl
theorem gp_ {l:List UInt8} (h:l.length < 1∨15 < l.length∨(g8 l 0=48∧1 < l.length)):gP_ l=.tuple #[.int .i64 0,.int .i64 12]:=by
  rw [g8_48] at h
  have:dJ_ l=false:=by
    unfold dJ_
    rw [decide_eq_false (fun ⟨h1,h2,h3⟩=>by rcases h with h | h | h;omega;omega;exact h3 h),Bool.false_and]
  rw [gP_,this]
  rfl
theorem dw_ {l:List UInt8} {k:Nat} (hk:k < l.length) (h:g8 l k < 48∨57 < g8 l k):gP_ l=.tuple #[.int .i64 0,.int .i64 12]:=by
  have h1:isD l[k]=false:=by
    have e:g8 l k=((l[k]).toNat:Int):=by simp [g8,List.getD_eq_getElem?_getD,List.getElem?_eq_getElem hk]
    rw [e] at h
    cases hd:isD l[k] with
    | false=>rfl
    | true=>have:=isD_lo hd;omega
  have h2:l.all isD=false:=by
    cases ha:l.all isD with
    | false=>rfl
    | true=>rw [List.all_eq_true] at ha;rw [ha _ (List.getElem_mem hk)] at h1;cases h1
  have:dJ_ l=false:=by
    unfold dJ_
    rw [h2,Bool.and_false]
  rw [gP_,this]
  rfl
theorem hp_ {l:List UInt8} (h1:1≤l.length) (h2:l.length≤15) (h3:¬ (g8 l 0=48∧1 < l.length)) (h4:l.all isD=true):gP_ l=.tuple #[.int .i64 (bl_ l:Int),.int .i64 0]:=by
  rw [g8_48] at h3
  have:dJ_ l=true:=by
    unfold dJ_
    rw [decide_eq_true ⟨h1,h2,h3⟩,h4]
    rfl
  rw [gP_,this]
  rfl
theorem hn_ {l:List UInt8} {k:Nat} (hk:k < l.length) (h1:48≤g8 l k) (h2:g8 l k≤57) (ha:(l.take k).all isD=true):(l.take (k+1)).all isD=true∧(bl_ (l.take (k+1)):Int)=(bl_ (l.take k):Int)*10+(g8 l k - 48):=by
  have e:g8 l k=((l[k]).toNat:Int):=by simp [g8,List.getD_eq_getElem?_getD,List.getElem?_eq_getElem hk]
  have e2:l.take (k+1)=l.take k++[l[k]]:=by rw [List.take_add_one,List.getElem?_eq_getElem hk];rfl
  rw [e] at h1 h2 ⊢
  rw [e2,numV_snoc]
  refine ⟨?_,by omega⟩
  rw [List.all_append,ha]
  have:isD l[k]=true:=by
    unfold isD
    rw [decide_eq_true (by omega),decide_eq_true (by omega)]
    rfl
  simp [this]
theorem fk_ {l:List UInt8} {k:Nat} (hl:l.length≤15) (ha:(l.take k).all isD=true):bl_ (l.take k) < 1000000000000000:=by
  have h1:=numV_lt _ ha
  have h2:10 ^ (l.take k).length≤10 ^ 15:=Nat.pow_le_pow_right (by omega) (by rw [List.length_take];omega)
  have h3:(10:Nat) ^ 15=1000000000000000:=by decide
  omega
theorem number (s:ByteArray) (w0:World)  :
    Calls Tryz.prog 47 #[.string s] w0 fun e w'=>∃ u,e=.returned u∧Like w0 w'∧u=gP_ s.data.toList:=by
 refine v_ (env:=[(0,.string s)]) [.string s] Tryz.func47 Z Tryz.ntmps47 Z Z ?_;have hsz:s.data.toList.length=s.size:=by simp
 have S0:=St.start w0 noM;refine a_ fun K1 hK1=>b_ (La Z Z (Lan Z Z (hK1 _ _ (a_ fun K2 hK2=>a_ fun K3 hK3=>Rm Z Z (L_y (av_ Tryz.underlying9 Z) Z (L_y (am_ Z Z) Z (Lm Z Z ?_)))))));refine y_ 9 Z (fun h9=>?_) (fun h9=>?_)
 ·
  refine h_ Z Z Z (h_ Z Z Z (h_ Z Z Z (Lp Z Z Z (Lm Z Z (h_ Z Z Z (h_ Z Z Z (h_ Z Z Z (h_ Z Z Z (aQ_ Z Z Z (aQ_ Z Z Z (aQ_ Z Z Z (h_ Z Z Z (Lp Z Z Z ?_)))))))))))));refine f_ (hK3 _ _ (W_ Z (a_ fun K4 hK4=>b_ (La Z Z (Lan Z Z (hK4 _ _ (l_ (ur (bj_ Z Z Z ?_)))))))));exact ⟨_,rfl,S0.like0,(gp_ (by omega)).symm⟩
 ·
  refine d_ Z Z (Lm Z Z (d_ Z Z (L_y (av_ Tryz.underlying9 Z) Z (d_ Z Z (L_y (Z_ Z Z) Z (Lp Z Z Z (Lm Z Z ?_)))))));refine y_ 14 Z (fun h14=>?_) (fun h14=>?_)
  ·
   refine h_ Z Z Z (h_ Z Z Z (h_ Z Z Z (h_ Z Z Z (aQ_ Z Z Z (aQ_ Z Z Z (aQ_ Z Z Z (h_ Z Z Z (Lp Z Z Z (f_ (hK3 _ _ (W_ Z (a_ fun K5 hK5=>b_ ?_))))))))))));refine La Z Z (Lan Z Z (hK5 _ _ (l_ (ur (bj_ Z Z Z ?_)))));exact ⟨_,rfl,S0.like0,(gp_ (by omega)).symm⟩
  ·
   refine d_ Z Z (Lm Z Z (d_ Z Z (L_y (bz_ Tryz.underlying9 Z Z inferInstance (by omega)) Z (d_ Z Z (L_y (am_ Z Z) Z (d_ Z Z (Lm Z Z ?_)))))));refine y_ 18 Z (fun h18=>?_) (fun h18=>?_)
   ·
    refine d_ Z Z (Lm Z Z (d_ Z Z (L_y (av_ Tryz.underlying9 Z) Z (d_ Z Z (L_y (Z_ Z Z) Z (d_ Z Z (Lp Z Z Z (Lp Z Z Z (f_ (hK3 _ _ ?_))))))))));refine o_ Z (fun h23=>?_) (fun h23=>?_)
    ·
     refine a_ fun K6 hK6=>b_ (La Z Z (Lan Z Z (hK6 _ _ (l_ (ur (bj_ Z Z Z ?_))))));exact ⟨_,rfl,S0.like0,(gp_ (by omega)).symm⟩
    ·
     refine j_ (hK2 _ _ (a_ fun K7 hK7=>b_ (Lan Z Z (hK7 _ _ (a_ fun K8 hK8=>a_ fun K9 hK9=>Rm Z Z (L_y (av_ Tryz.underlying9 Z) Z (Lm Z Z (f_ ?_))))))));refine hK9 _ _ (r_ ?_);refine an_ [(0,_),(25,_)] (fun (k:Nat)=>[(4,.int .i64 (bl_ (s.data.toList.take k):Int)),(26,.int .i64 (k:Int))]) (fun (k:Nat)=>s.size - k) (fun (k:Nat) (w:World)=>(k≤s.size∧(s.data.toList.take k).all isD=true)∧St w0 noM [] w) 0 (Sc Z (Sc Z (Sub.nil _))) (Sub.cons Z Z (Sub.cons Z Z (Sub.nil _))) ?_ ?_
     ·
      exact ⟨⟨by omega,by simp⟩,S0⟩
     ·
      intro k w4 hrel;obtain ⟨⟨hk,hall⟩,S4⟩:=hrel;have hnv:=fk_ (k:=k) (by omega) hall;refine a_ fun K10 hK10=>b_ (L_y (L_ Z Z) Z (f_ (hK10 _ _ (a_ fun K11 hK11=>?_))));refine o_ Z (fun h27=>?_) (fun h27=>?_)
      ·
       refine j_ (hK11 _ _ (a_ fun K12 hK12=>r_ (a_ fun K13 hK13=>Rm Z Z (Lan Z Z (hK13 _ _ (a_ fun K14 hK14=>a_ fun K15 hK15=>Rm Z Z ?_))))));refine Lm Z Z (L_y (bz_ Tryz.underlying9 Z Z inferInstance (by omega)) Z (L_y (L_ Z Z) Z (Lm Z Z ?_)));refine y_ 33 Z (fun h33=>?_) (fun h33=>?_)
       ·
        refine h_ Z Z Z (h_ Z Z Z (h_ Z Z Z (h_ Z Z Z (Lp Z Z Z (f_ (hK15 _ _ (W_ Z (a_ fun K16 hK16=>b_ (La Z Z (Lan Z Z (hK16 _ _ ?_)))))))))));refine l_ (ur (bj_ Z Z Z ?_));exact ⟨_,rfl,S4.like0,(dw_ (k:=k) (by omega) (by omega)).symm⟩
       ·
        refine d_ Z Z (Lm Z Z (d_ Z Z (Lm Z Z (d_ Z Z (L_y (bz_ Tryz.underlying9 Z Z inferInstance (by omega)) Z (d_ Z Z (L_y (Z_ Z Z) Z (Lp Z Z Z (f_ (hK15 _ _ ?_))))))))));refine o_ Z (fun h38=>?_) (fun h38=>?_)
        ·
         refine a_ fun K17 hK17=>b_ (La Z Z (Lan Z Z (hK17 _ _ (l_ (ur (bj_ Z Z Z ?_))))));exact ⟨_,rfl,S4.like0,(dw_ (k:=k) (by omega) (by omega)).symm⟩
        ·
         refine j_ (hK14 _ _ (Rm Z Z (L_y (ci_ Z Z (z_ (by omega))) Z (Lm Z Z (Lm Z Z (L_y (bz_ Tryz.underlying9 Z Z inferInstance (by omega)) Z (L_y (ax_ Z Z (u8w (by omega))) Z (L_y (P_ is5 Tryz.underlying3 Z (z_ (by omega))) Z (L_y (w_ Z Z (z_ (by omega))) Z (Lan Z Z (hK12 _ _ ?_)))))))))));refine b_ (L_y (w_ Z Z (z_ (by omega))) Z (Lm Z Z (f_ (have hst:=hn_ (l:=s.data.toList) (k:=k) (by omega) (by omega) (by omega) hall;⟨k+1,by omega,⟨⟨by omega,hst.1⟩,S4⟩,?_⟩))));exact (Sub.cons Z (congrArg (Value.int _) (by first | (rw [hst.2];done) | (rw [hst.2];omega))) (Sc Z (Sub.cons Z Z (Sub.cons Z Z (Sub.nil _)))))
      ·
       refine K_ (hK8 _ _ (a_ fun K18 hK18=>Rm Z Z (La Z Z (Lan Z Z (hK18 _ _ (l_ (ur (bj_ Z Z Z ?_))))))));have hke:k=s.data.toList.length:=by omega
       rw [hke,List.take_length] at hall hnv;exact ⟨_,rfl,S4.like0,by rw [hp_ (by omega) (by omega) (by omega) hall,hke,List.take_length]⟩
   ·
    refine h_ Z Z Z (h_ Z Z Z (h_ Z Z Z (d_ Z Z (Lp Z Z Z (Lp Z Z Z (f_ (hK3 _ _ (aW_ Z (j_ (hK2 _ _ (a_ fun K19 hK19=>b_ (La Z Z ?_))))))))))));refine f_ (hK19 _ _ (a_ fun K20 hK20=>a_ fun K21 hK21=>Rm Z Z (L_y (av_ Tryz.underlying9 Z) Z (Lm Z Z (f_ (hK21 _ _ (r_ ?_)))))));refine an_ [(0,_),(25,_)] (fun (k:Nat)=>[(4,.int .i64 (bl_ (s.data.toList.take k):Int)),(26,.int .i64 (k:Int))]) (fun (k:Nat)=>s.size - k) (fun (k:Nat) (w:World)=>(k≤s.size∧(s.data.toList.take k).all isD=true)∧St w0 noM [] w) 0 (Sc Z (Sc Z (Sub.nil _))) (Sub.cons Z Z (Sub.cons Z Z (Sub.nil _))) ?_ ?_
    ·
     exact ⟨⟨by omega,by simp⟩,S0⟩
    ·
     intro k w6 hrel;obtain ⟨⟨hk,hall⟩,S6⟩:=hrel;have hnv:=fk_ (k:=k) (by omega) hall;refine a_ fun K22 hK22=>b_ (L_y (L_ Z Z) Z (f_ (hK22 _ _ (a_ fun K23 hK23=>?_))));refine o_ Z (fun h27=>?_) (fun h27=>?_)
     ·
      refine j_ (hK23 _ _ (a_ fun K24 hK24=>r_ (a_ fun K25 hK25=>Rm Z Z (Lan Z Z (hK25 _ _ (a_ fun K26 hK26=>a_ fun K27 hK27=>Rm Z Z ?_))))));refine Lm Z Z (L_y (bz_ Tryz.underlying9 Z Z inferInstance (by omega)) Z (L_y (L_ Z Z) Z (Lm Z Z ?_)));refine y_ 33 Z (fun h33=>?_) (fun h33=>?_)
      ·
       refine h_ Z Z Z (h_ Z Z Z (h_ Z Z Z (h_ Z Z Z (Lp Z Z Z (f_ (hK27 _ _ (W_ Z (a_ fun K28 hK28=>b_ (La Z Z (Lan Z Z (hK28 _ _ ?_)))))))))));refine l_ (ur (bj_ Z Z Z ?_));exact ⟨_,rfl,S6.like0,(dw_ (k:=k) (by omega) (by omega)).symm⟩
      ·
       refine d_ Z Z (Lm Z Z (d_ Z Z (Lm Z Z (d_ Z Z (L_y (bz_ Tryz.underlying9 Z Z inferInstance (by omega)) Z (d_ Z Z (L_y (Z_ Z Z) Z (Lp Z Z Z (f_ (hK27 _ _ ?_))))))))));refine o_ Z (fun h38=>?_) (fun h38=>?_)
       ·
        refine a_ fun K29 hK29=>b_ (La Z Z (Lan Z Z (hK29 _ _ (l_ (ur (bj_ Z Z Z ?_))))));exact ⟨_,rfl,S6.like0,(dw_ (k:=k) (by omega) (by omega)).symm⟩
       ·
        refine j_ (hK26 _ _ (Rm Z Z (L_y (ci_ Z Z (z_ (by omega))) Z (Lm Z Z (Lm Z Z (L_y (bz_ Tryz.underlying9 Z Z inferInstance (by omega)) Z (L_y (ax_ Z Z (u8w (by omega))) Z (L_y (P_ is5 Tryz.underlying3 Z (z_ (by omega))) Z (L_y (w_ Z Z (z_ (by omega))) Z (Lan Z Z (hK24 _ _ ?_)))))))))));refine b_ (L_y (w_ Z Z (z_ (by omega))) Z (Lm Z Z (f_ (have hst:=hn_ (l:=s.data.toList) (k:=k) (by omega) (by omega) (by omega) hall;⟨k+1,by omega,⟨⟨by omega,hst.1⟩,S6⟩,?_⟩))));exact (Sub.cons Z (congrArg (Value.int _) (by first | (rw [hst.2];done) | (rw [hst.2];omega))) (Sc Z (Sub.cons Z Z (Sub.cons Z Z (Sub.nil _)))))
     ·
      refine K_ (hK20 _ _ (a_ fun K30 hK30=>Rm Z Z (La Z Z (Lan Z Z (hK30 _ _ (l_ (ur (bj_ Z Z Z ?_))))))));have hke:k=s.data.toList.length:=by omega
      rw [hke,List.take_length] at hall hnv;exact ⟨_,rfl,S6.like0,by rw [hp_ (by omega) (by omega) (by omega) hall,hke,List.take_length]⟩
theorem gk_ (s:ByteArray) (w0:World)  :
    Calls Tryz.prog 49 #[.string s] w0 fun e w'=>∃ u,e=.returned u∧Like w0 w'∧u=gP_ s.data.toList:=by
 refine v_ (env:=[(0,.string s)]) [.string s] Tryz.func49 Z Tryz.ntmps49 Z Z ?_;have hsz:s.data.toList.length=s.size:=by simp
 have S0:=St.start w0 noM;refine a_ fun K1 hK1=>b_ (La Z Z (Lan Z Z (hK1 _ _ (a_ fun K2 hK2=>a_ fun K3 hK3=>Rm Z Z (L_y (av_ Tryz.underlying9 Z) Z (L_y (L_ Z Z) Z (Lm Z Z ?_)))))));refine y_ 9 Z (fun h9=>?_) (fun h9=>?_)
 ·
  refine h_ Z Z Z (h_ Z Z Z (h_ Z Z Z (Lp Z Z Z (Lm Z Z (h_ Z Z Z (h_ Z Z Z (h_ Z Z Z (h_ Z Z Z (aQ_ Z Z Z (aQ_ Z Z Z (aQ_ Z Z Z (h_ Z Z Z (Lp Z Z Z ?_)))))))))))));refine f_ (hK3 _ _ (W_ Z (a_ fun K4 hK4=>b_ (La Z Z (Lan Z Z (hK4 _ _ (l_ (ur (bj_ Z Z Z ?_)))))))));exact ⟨_,rfl,S0.like0,(gp_ (by omega)).symm⟩
 ·
  refine d_ Z Z (Lm Z Z (d_ Z Z (L_y (av_ Tryz.underlying9 Z) Z (d_ Z Z (L_y (Z_ Z Z) Z (Lp Z Z Z (Lm Z Z ?_)))))));refine y_ 14 Z (fun h14=>?_) (fun h14=>?_)
  ·
   refine h_ Z Z Z (h_ Z Z Z (h_ Z Z Z (h_ Z Z Z (aQ_ Z Z Z (aQ_ Z Z Z (aQ_ Z Z Z (h_ Z Z Z (Lp Z Z Z (f_ (hK3 _ _ (W_ Z (a_ fun K5 hK5=>b_ ?_))))))))))));refine La Z Z (Lan Z Z (hK5 _ _ (l_ (ur (bj_ Z Z Z ?_)))));exact ⟨_,rfl,S0.like0,(gp_ (by omega)).symm⟩
  ·
   refine d_ Z Z (Lm Z Z (d_ Z Z (L_y (bz_ Tryz.underlying9 Z Z inferInstance (by omega)) Z (d_ Z Z (L_y (am_ Z Z) Z (d_ Z Z (Lm Z Z ?_)))))));refine y_ 18 Z (fun h18=>?_) (fun h18=>?_)
   ·
    refine d_ Z Z (Lm Z Z (d_ Z Z (L_y (av_ Tryz.underlying9 Z) Z (d_ Z Z (L_y (Z_ Z Z) Z (d_ Z Z (Lp Z Z Z (Lp Z Z Z (f_ (hK3 _ _ ?_))))))))));refine o_ Z (fun h23=>?_) (fun h23=>?_)
    ·
     refine a_ fun K6 hK6=>b_ (La Z Z (Lan Z Z (hK6 _ _ (l_ (ur (bj_ Z Z Z ?_))))));exact ⟨_,rfl,S0.like0,(gp_ (by omega)).symm⟩
    ·
     refine j_ (hK2 _ _ (a_ fun K7 hK7=>b_ (Lan Z Z (hK7 _ _ (a_ fun K8 hK8=>a_ fun K9 hK9=>b_ (Lan Z Z (hK9 _ _ (r_ ?_))))))));refine an_ [(0,_)] (fun (k:Nat)=>[(4,.int .i64 (bl_ (s.data.toList.take k):Int)),(5,.int .i64 (k:Int))]) (fun (k:Nat)=>s.size - k) (fun (k:Nat) (w:World)=>(k≤s.size∧(s.data.toList.take k).all isD=true)∧St w0 noM [] w) 0 (Sc Z (Sc Z (Sub.nil _))) (Sub.cons Z Z (Sub.nil _)) ?_ ?_
     ·
      exact ⟨⟨by omega,by simp⟩,S0⟩
     ·
      intro k w4 hrel;obtain ⟨⟨hk,hall⟩,S4⟩:=hrel;have hnv:=fk_ (k:=k) (by omega) hall;refine a_ fun K10 hK10=>a_ fun K11 hK11=>Rm Z Z (Lm Z Z (L_y (av_ Tryz.underlying9 Z) Z (L_y (L_ Z Z) Z (f_ (hK11 _ _ ?_)))));refine o_ Z (fun h27=>?_) (fun h27=>?_)
      ·
       refine j_ (hK10 _ _ (a_ fun K12 hK12=>r_ (a_ fun K13 hK13=>a_ fun K14 hK14=>Rm Z Z (Lm Z Z (L_y (bz_ Tryz.underlying9 Z Z inferInstance (by omega)) Z (L_y (L_ Z Z) Z (Lm Z Z ?_)))))));refine y_ 34 Z (fun h34=>?_) (fun h34=>?_)
       ·
        refine h_ Z Z Z (h_ Z Z Z (h_ Z Z Z (h_ Z Z Z (Lp Z Z Z (f_ (hK14 _ _ (W_ Z (a_ fun K15 hK15=>b_ (La Z Z (Lan Z Z (hK15 _ _ ?_)))))))))));refine l_ (ur (bj_ Z Z Z ?_));exact ⟨_,rfl,S4.like0,(dw_ (k:=k) (by omega) (by omega)).symm⟩
       ·
        refine d_ Z Z (Lm Z Z (d_ Z Z (Lm Z Z (d_ Z Z (L_y (bz_ Tryz.underlying9 Z Z inferInstance (by omega)) Z (d_ Z Z (L_y (Z_ Z Z) Z (Lp Z Z Z (f_ (hK14 _ _ ?_))))))))));refine o_ Z (fun h39=>?_) (fun h39=>?_)
        ·
         refine a_ fun K16 hK16=>b_ (La Z Z (Lan Z Z (hK16 _ _ (l_ (ur (bj_ Z Z Z ?_))))));exact ⟨_,rfl,S4.like0,(dw_ (k:=k) (by omega) (by omega)).symm⟩
        ·
         refine j_ (hK13 _ _ (Rm Z Z (L_y (ci_ Z Z (z_ (by omega))) Z (Lm Z Z (Lm Z Z (L_y (bz_ Tryz.underlying9 Z Z inferInstance (by omega)) Z (L_y (P_ is5 Tryz.underlying3 Z (z_ (by omega))) Z (L_y (w_ Z Z (z_ (by omega))) Z (L_y (ax_ Z Z (z_ (by omega))) Z (Lan Z Z (hK12 _ _ ?_)))))))))));refine Rm Z Z (L_y (w_ Z Z (z_ (by omega))) Z (Lan Z Z (have hst:=hn_ (l:=s.data.toList) (k:=k) (by omega) (by omega) (by omega) hall;⟨k+1,by omega,⟨⟨by omega,hst.1⟩,S4⟩,?_⟩)));exact (Sub.cons Z (congrArg (Value.int _) (by first | (rw [hst.2];done) | (rw [hst.2];omega))) (Sc Z (Sub.cons Z Z (Sub.nil _))))
      ·
       refine K_ (hK8 _ _ (a_ fun K17 hK17=>Rm Z Z (La Z Z (Lan Z Z (hK17 _ _ (l_ (ur (bj_ Z Z Z ?_))))))));have hke:k=s.data.toList.length:=by omega
       rw [hke,List.take_length] at hall hnv;exact ⟨_,rfl,S4.like0,by rw [hp_ (by omega) (by omega) (by omega) hall,hke,List.take_length]⟩
   ·
    refine h_ Z Z Z (h_ Z Z Z (h_ Z Z Z (d_ Z Z (Lp Z Z Z (Lp Z Z Z (f_ (hK3 _ _ (aW_ Z (j_ (hK2 _ _ (a_ fun K18 hK18=>b_ (La Z Z ?_))))))))))));refine f_ (hK18 _ _ (a_ fun K19 hK19=>a_ fun K20 hK20=>b_ (Lan Z Z (hK20 _ _ (r_ ?_)))));refine an_ [(0,_)] (fun (k:Nat)=>[(4,.int .i64 (bl_ (s.data.toList.take k):Int)),(5,.int .i64 (k:Int))]) (fun (k:Nat)=>s.size - k) (fun (k:Nat) (w:World)=>(k≤s.size∧(s.data.toList.take k).all isD=true)∧St w0 noM [] w) 0 (Sc Z (Sc Z (Sub.nil _))) (Sub.cons Z Z (Sub.nil _)) ?_ ?_
    ·
     exact ⟨⟨by omega,by simp⟩,S0⟩
    ·
     intro k w6 hrel;obtain ⟨⟨hk,hall⟩,S6⟩:=hrel;have hnv:=fk_ (k:=k) (by omega) hall;refine a_ fun K21 hK21=>a_ fun K22 hK22=>Rm Z Z (Lm Z Z (L_y (av_ Tryz.underlying9 Z) Z (L_y (L_ Z Z) Z (f_ (hK22 _ _ ?_)))));refine o_ Z (fun h27=>?_) (fun h27=>?_)
     ·
      refine j_ (hK21 _ _ (a_ fun K23 hK23=>r_ (a_ fun K24 hK24=>a_ fun K25 hK25=>Rm Z Z (Lm Z Z (L_y (bz_ Tryz.underlying9 Z Z inferInstance (by omega)) Z (L_y (L_ Z Z) Z (Lm Z Z ?_)))))));refine y_ 34 Z (fun h34=>?_) (fun h34=>?_)
      ·
       refine h_ Z Z Z (h_ Z Z Z (h_ Z Z Z (h_ Z Z Z (Lp Z Z Z (f_ (hK25 _ _ (W_ Z (a_ fun K26 hK26=>b_ (La Z Z (Lan Z Z (hK26 _ _ ?_)))))))))));refine l_ (ur (bj_ Z Z Z ?_));exact ⟨_,rfl,S6.like0,(dw_ (k:=k) (by omega) (by omega)).symm⟩
      ·
       refine d_ Z Z (Lm Z Z (d_ Z Z (Lm Z Z (d_ Z Z (L_y (bz_ Tryz.underlying9 Z Z inferInstance (by omega)) Z (d_ Z Z (L_y (Z_ Z Z) Z (Lp Z Z Z (f_ (hK25 _ _ ?_))))))))));refine o_ Z (fun h39=>?_) (fun h39=>?_)
       ·
        refine a_ fun K27 hK27=>b_ (La Z Z (Lan Z Z (hK27 _ _ (l_ (ur (bj_ Z Z Z ?_))))));exact ⟨_,rfl,S6.like0,(dw_ (k:=k) (by omega) (by omega)).symm⟩
       ·
        refine j_ (hK24 _ _ (Rm Z Z (L_y (ci_ Z Z (z_ (by omega))) Z (Lm Z Z (Lm Z Z (L_y (bz_ Tryz.underlying9 Z Z inferInstance (by omega)) Z (L_y (P_ is5 Tryz.underlying3 Z (z_ (by omega))) Z (L_y (w_ Z Z (z_ (by omega))) Z (L_y (ax_ Z Z (z_ (by omega))) Z (Lan Z Z (hK23 _ _ ?_)))))))))));refine Rm Z Z (L_y (w_ Z Z (z_ (by omega))) Z (Lan Z Z (have hst:=hn_ (l:=s.data.toList) (k:=k) (by omega) (by omega) (by omega) hall;⟨k+1,by omega,⟨⟨by omega,hst.1⟩,S6⟩,?_⟩)));exact (Sub.cons Z (congrArg (Value.int _) (by first | (rw [hst.2];done) | (rw [hst.2];omega))) (Sc Z (Sub.cons Z Z (Sub.nil _))))
     ·
      refine K_ (hK19 _ _ (a_ fun K28 hK28=>Rm Z Z (La Z Z (Lan Z Z (hK28 _ _ (l_ (ur (bj_ Z Z Z ?_))))))));have hke:k=s.data.toList.length:=by omega
      rw [hke,List.take_length] at hall hnv;exact ⟨_,rfl,S6.like0,by rw [hp_ (by omega) (by omega) (by omega) hall,hke,List.take_length]⟩
theorem time_ (n:Int) (w0:World)  :
    Calls Tryz.prog 151 #[.int .i64 n] w0 fun e w'=>∃ u,e=.returned u∧Like w0 w'∧u=.bool (decide (0≤n∧n≤1099511627776)):=by
 refine v_ (env:=[(0,.int .i64 n)]) [.int .i64 n] Tryz.func151 Z Tryz.ntmps151 Z Z ?_;have S0:=St.start w0 noM;refine a_ fun K1 hK1=>b_ (Lan Z Z (hK1 _ _ (a_ fun K2 hK2=>Rm Z Z (L_y (cq_ Z Z) Z (Lm Z Z ?_)))));refine y_ 5 Z (fun h5=>?_) (fun h5=>?_)
 ·
  refine d_ Z Z (Lm Z Z (d_ Z Z (L_y (ie_ Z Z) Z (Lp Z Z Z (Lan Z Z (hK2 _ _ (l_ (ur (F_ Z Z ?_)))))))));exact ⟨_,rfl,S0.like0,by first | exact congrArg Value.bool (decide_eq_decide.2 (by omega)) | exact congrArg Value.bool (decide_eq_false (by omega)).symm⟩
 ·
  refine h_ Z Z Z (h_ Z Z Z (Lp Z Z Z (Lan Z Z (hK2 _ _ (l_ (ur (F_ Z Z ?_)))))));exact ⟨_,rfl,S0.like0,by first | exact congrArg Value.bool (decide_eq_decide.2 (by omega)) | exact congrArg Value.bool (decide_eq_false (by omega)).symm⟩
end Rev
end Go.Proofs.YtgaklngnfecdaaaGreat
