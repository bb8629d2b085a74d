import Derived.Test.YtgaklngnfecdaaaGreatMgPWrites9
import Derived.Test.YtgaklngnfecdaaaGreatMgPWrites7
import Derived.Test.YtgaklngnfecdaaaGreatMgPWrites8
set_option linter.unusedSimpArgs false
set_option linter.unusedVariables false
set_option maxRecDepth 100000
set_option maxHeartbeats 8000000
namespace Go.Proofs.YtgaklngnfecdaaaGreat
namespace Pak
open Go.RowKit Zk Zx
open Sha (N bC_ cu_ cZ_ dN_ dM_)
open Go.Proofs.YtgaklngnfecdaaaGreat.Obj (ad_ bG_ aC_ V_ az_ aL_ zB A_ aI_)
open Oct (vaN rwL rwP rwE rnL rnP rnE be vr tl x_)
open Del (scA opf OP OkO mkV bm_ cy_ ag_ bW_)
def pkL (g:Nat) (A:Option Addr) (n c:Nat) (A1:Option Addr) (c1:Nat) (A2:Option Addr) (c2:Nat) (A3:Option Addr) (c3:Nat) (its:List It) (s:Pk):List Res :=
  [row 65 2 A1 its.length c1 (its.flatMap itf),row 67 34 A2 s.os.length c2 (s.os.flatMap plO),row 3 1 A3 s.os.length c3 (s.os.map eV_),wu (.slice A1 its.length c1) (.slice A2 s.os.length c2) (.slice A3 s.os.length c3) g A n c s.bs]
def OkM (w:World) (M:Nat→Prop) (p:Part):Prop:=p.ok w∧∀ ad,0 < p.n→p.A=some ad→¬ M ad.block
theorem St.okM {w0 w:World} {M:Nat→Prop} {rs:List Res} (S:St w0 M rs w) {p:Part} (h:OkM w0 M p):p.ok w:=S.rdM h.1 h.2
theorem St.okI {w0 w:World} {M:Nat→Prop} {rs:List Res} (S:St w0 M rs w) {its:List It} (h:∀ x ∈ its,OkM w0 M x.p):OkI w its:=fun x hx=>St.okM S (h x hx)
theorem q_fr {w0 w:World} {p:Part} {r:Int × List UInt8} {q:Part} (h:QOk w0 w p r q) (hr:0≤r.1):Fr w0 w 1 q.A q.n q.c (bL q.l):=by
  rcases h.src with ⟨h1,_⟩ | ⟨_,h2⟩
  · omega
  · exact ⟨h.ok,h2⟩
theorem q_eq {w0 w:World} {p:Part} {r:Int × List UInt8} {q:Part} (h:QOk w0 w p r q) (hr:r.1 = -1):q=p:=by
  rcases h.src with ⟨_,h1⟩ | ⟨h1,_⟩
  · exact h1
  · omega
theorem kindB {k:Int} (h:1≤k∧k≤4):IntKind.u8.wrap k=((UInt8.ofNat k.toNat).toNat:Int):=by
  rw [IntKind.wrap_u8,UInt8.toNat_ofNat']
  omega
theorem subU {n m:Nat} (h:m≤n) (h2:n≤1000000):IntKind.u64.wrap ((n:Int) - (m:Int))=((n - m:Nat):Int):=by
  rw [IntKind.wrap_u64]
  omega
theorem plOl (o:Ob) (k:Nat):(plO o)[32+k]?=[Value.int .i64 (o.at_:Int),.int .u32 (N o.sum)][k]?:=by
  unfold plO
  rw [List.getElem?_append_right (by rw [length_bL,Ob.id_len];omega),length_bL,Ob.id_len]
  congr 1
  omega
theorem jk_ (o:Ob):(plO o)[32]?=some (.int .i64 (o.at_:Int)):=plOl o 0
theorem list32 {α:Type} (l:List α) (h:l.length=32):∃ a0 a1 a2 a3 a4 a5 a6 a7 a8 a9 a10 a11 a12 a13 a14 a15 a16 a17 a18 a19 a20 a21 a22 a23 a24 a25 a26 a27 a28 a29 a30 a31,l=[a0,a1,a2,a3,a4,a5,a6,a7,a8,a9,a10,a11,a12,a13,a14,a15,a16,a17,a18,a19,a20,a21,a22,a23,a24,a25,a26,a27,a28,a29,a30,a31]:=by
  match l,h with
  | [a0,a1,a2,a3,a4,a5,a6,a7,a8,a9,a10,a11,a12,a13,a14,a15,a16,a17,a18,a19,a20,a21,a22,a23,a24,a25,a26,a27,a28,a29,a30,a31],_=>exact ⟨a0,a1,a2,a3,a4,a5,a6,a7,a8,a9,a10,a11,a12,a13,a14,a15,a16,a17,a18,a19,a20,a21,a22,a23,a24,a25,a26,a27,a28,a29,a30,a31,rfl⟩
theorem built_pl {id:List UInt8} (h:id.length=32) (a s:Int):Tryz.prog.built 67 [(0,.agg (bA id)),(1,.int .i64 a),(2,.int .u32 s)]=some (bL id++[Value.int .i64 a,Value.int .u32 s]).toArray:=by
  obtain ⟨a0,a1,a2,a3,a4,a5,a6,a7,a8,a9,a10,a11,a12,a13,a14,a15,a16,a17,a18,a19,a20,a21,a22,a23,a24,a25,a26,a27,a28,a29,a30,a31,rfl⟩:=list32 id h
  kernel_rfl
theorem kx_ {id:List UInt8} (h:id.length=32) (a s:Int):Tryz.prog.built 125 [(0,.agg (bA id)),(1,.int .i64 a),(2,.int .u32 s)]=some (bL id++[Value.int .i64 a,Value.int .u32 s]).toArray:=by
  obtain ⟨a0,a1,a2,a3,a4,a5,a6,a7,a8,a9,a10,a11,a12,a13,a14,a15,a16,a17,a18,a19,a20,a21,a22,a23,a24,a25,a26,a27,a28,a29,a30,a31,rfl⟩:=list32 id h
  kernel_rfl
theorem lay_w {s:Pk} {v:IV} {r:Int × List UInt8} (h:r.1 < 0):layO s v r=⟨s.bs++aP_ (UInt8.ofNat v.1.toNat) [] r.2,s.os++[⟨v.1,v.2,0,s.bs.length,aU_ r.2⟩]⟩:=by unfold layO;rw [if_pos h]
theorem lay_m {s:Pk} {v:IV} {r:Int × List UInt8} {k:Nat} {o:Ob} (h:r.1=(k:Int)) (ho:s.os[k]?=some o):layO s v r=⟨s.bs++aP_ 5 (vr (s.bs.length - o.at_)) r.2,s.os++[⟨v.1,v.2,o.dep+1,s.bs.length,aU_ r.2⟩]⟩:=by
  unfold layO
  rw [if_neg (by omega)]
  have e:r.1.toNat=k:=by omega
  unfold ofAt ofDep
  rw [e,ho]
  rfl
theorem add0 (g:Nat) (A:Option Addr) (n c:Nat) (A1:Option Addr) (c1:Nat) (A2:Option Addr) (c2:Nat) (A3:Option Addr) (c3:Nat) (its:List It) (s:Pk) (x:It) (chain:Int) (w0:World) (hw:(sepL (pkL g A n c A1 c1 A2 c2 A3 c3 its s)).holds w0) (hio:Same its s.os) (hits:∀ y ∈ its,OkM w0 (sepL (pkL g A n c A1 c1 A2 c2 A3 c3 its s)).dom y.p) (hsm:∀ y ∈ its,y.p.n≤300) (hp:OkM w0 (sepL (pkL g A n c A1 c1 A2 c2 A3 c3 its s)).dom x.p) (hp3:x.p.n≤300) (hk:1≤x.kind∧x.kind≤4) (hc8:chain≤8) (hbl:s.bs.length≤20000) (hil:its.length≤1000) (hat:∀ o ∈ s.os,o.at_≤s.bs.length) (hr:(dR_ s.os chain x.kind x.p.l).1 = -1) :
    Calls Tryz.prog 57 #[.pointer (some ⟨g,0,none⟩),.agg (itf x).toArray,.agg (bA (aC_ x.kind x.p.l)),.int .i64 chain] w0 fun e w'=>∃ u,e=.returned u∧u=.tuple #[]∧∃ A' n' c' A1' c1' A2' c2' A3' c3',Turned w0 w' (sepL (pkL g A n c A1 c1 A2 c2 A3 c3 its s)) (sepL (pkL g A' n' c' A1' c1' A2' c2' A3' c3' (its++[x]) (bR_ chain s (x.kind,x.p.l)))):=by
 refine v_ (env:=[(0,.pointer (some ⟨g,0,none⟩)),(1,.agg (itf x).toArray),(2,.agg (bA (aC_ x.kind x.p.l))),(3,.int .i64 chain)]) [.pointer (some ⟨g,0,none⟩),.agg (itf x).toArray,.agg (bA (aC_ x.kind x.p.l)),.int .i64 chain] Tryz.func57 Z Tryz.ntmps57 Z Z ?_;have S0:=St.borrowL hw;have hnw:=ew_ (S0.get 3 Z);subst hnw;have hxb:=hp.1.lenb;have htl:=(fc_ s.os chain x.kind x.p.l).2;have hsl:=hio.len;have hneg:(dR_ s.os chain x.kind x.p.l).1 < 0:=by omega
 have S0:Zx.St w0 (sepL (pkL g A s.bs.length c A1 c1 A2 c2 A3 c3 its s)).dom [row 65 2 A1 its.length c1 (its.flatMap itf),row 67 34 A2 s.os.length c2 (s.os.flatMap plO),row 3 1 A3 s.os.length c3 (s.os.map eV_),wu (.slice A1 its.length c1) (.slice A2 s.os.length c2) (.slice A3 s.os.length c3) g A s.bs.length c s.bs] w0:=S0;refine a_ fun K1 hK1=>b_ (L_o (bO_ Z S0 Z fun b1 w1 hb1 S1=>L_o (bO_ Z S1 Z fun b2 w2 hb2 S2=>f_ (hK1 _ _ (a_ fun K2 hK2=>Rm Z Z (L_y (E_ Z) Z (L_y (g_ 0 Tryz.underlying113 Z dI_ Z Z Z) Z (L_o (n_ Tryz.func58 Z Z (wlenW g A s.bs.length c s.bs w2 (S2.get 3 Z)) Z Z ?_)))))))));rintro e3 w3 ⟨v3,rfl,l3,rfl⟩;refine ⟨_,rfl,(have S3:=S2.like l3;Lan Z Z (hK2 _ _ (a_ fun K3 hK3=>Rm Z Z (L_y (Y_ Tryz.underlying65 Z gx_ Z (S3.blk 4 Z) (show _=itf x∧_ from ⟨rfl,rfl⟩)) Z (Lm Z Z (L_o (n_ Tryz.func90 Z Z (shortest g _ _ A1 its.length c1 A3 s.os.length c3 its s.os x.kind chain x.p w3 (S3.get 3 Z).1 (S3.row 0 Z) (S3.row 2 Z) hio (by omega) (St.okI S3 hits) (fun y hy=>(hsm y hy)) (St.okM S3 hp) hp3) Z Z ?_)))))))⟩;rintro e4 w4 ⟨v4,rfl,l4,q,rfl,hq⟩;refine ⟨_,rfl,?_⟩;have S4:=S3.like l4;obtain rfl:=q_eq hq hr;have hv:=hq.val;have hva:=Oct.cw_ x.p.n (by omega);refine Lm Z Z (L_y (m_ Z Z) Z (L_y (m_ Z Z) Z (La Z Z (Lan Z Z (hK3 _ _ (a_ fun K4 hK4=>b_ (Lan Z Z (hK4 _ _ (a_ fun K5 hK5=>a_ fun K6 hK6=>?_)))))))));refine Rm Z Z (L_y (L_ Z Z) Z (f_ (hK6 _ _ ?_)));refine o_ Z (fun h25=>?_) (fun h25=>?_)
 ·
  refine a_ fun K7 hK7=>gb_ 6 aS_ (by kernel_rfl) fun w5 l5 K8 hK8=>have S5:=S4.like l5;al_ (p_ Z) Z (al_ (E_ Z) Z (al_ (g_ 0 Tryz.underlying113 Z dI_ Z Z Z) Z (al_ (g_ 0 Tryz.underlying65 Z sz3 Z Z Z) Z (al_ (t_ Tryz.underlying3 Z Z (((S5.blk 4 Z).cell _).trans (by rfl))) Z ?_))));refine al_ (P_ is3 Tryz.underlying5 Z (kindB hk)) Z (gd_ (hK8 _ (L_o (n_ Tryz.func89 Z Z (iU_ g A s.bs.length c (s.bs) (UInt8.ofNat x.kind.toNat) w5 (S5.get 3 Z) (by first | omega | (simp only [List.length_append,List.length_cons,List.length_nil,x_];omega))) Z Z ?_))));rintro e6 w6 ⟨v6,rfl,A6,n6,c6,T6⟩;refine ⟨_,rfl,(have S6:=S5.turn 3 Z T6;f_ (hK7 _ _ (Rm Z Z (L_y (E_ Z) Z (L_y (g_ 0 Tryz.underlying113 Z dI_ Z Z Z) Z (Lm Z Z (L_y (I_ Tryz.underlying22 Z) Z (L_y (P_ is3 Tryz.underlying102 Z (dg_ (by omega))) Z (L_o (n_ Tryz.func91 Z Z (wvarW g A6 n6 c6 (s.bs++[UInt8.ofNat x.kind.toNat]) x.p.n w6 (S6.get 3 Z) (by omega) (by first | omega | (simp only [List.length_append,List.length_cons,List.length_nil,x_];omega))) Z Z ?_))))))))))⟩;rintro e7 w7 ⟨v7,rfl,A7,n7,c7,T7⟩;refine ⟨_,rfl,(have S7:=S6.turn 3 Z T7;f_ (hK5 _ _ (a_ fun K9 hK9=>Rm Z Z (L_o (ah_ [_] cS_ eW_ S7 Z Z Z Z Z Z Z Z fun b8 w8 S8=>L_o (n_ Tryz.func92 Z Z (of_ _ _ _ [x.p] w8 (S8.row 6 Z) (fun y hy=>by obtain rfl:=List.mem_singleton.1 hy;exact (St.okM S8 hp))) Z Z ?_))))))⟩;rintro e9 w9 ⟨v9,rfl,l9,rfl⟩;refine ⟨_,rfl,(have S9:=S8.like l9;Lan Z Z (hK9 _ _ (a_ fun K10 hK10=>Rm Z Z (L_y (E_ Z) Z (L_y (g_ 0 Tryz.underlying113 Z dI_ Z Z Z) Z (Lm Z Z (L_o (n_ Tryz.func56 Z Z (wu32W g A7 n7 c7 (s.bs++[UInt8.ofNat x.kind.toNat]++vr x.p.n) (aU_ x.p.l).toNat w9 (S9.get 3 Z) (by have:=(aU_ x.p.l).toNat_lt;omega) (by first | omega | (simp only [List.length_append,List.length_cons,List.length_nil,x_];omega))) Z Z ?_))))))))⟩;rintro e10 w10 ⟨v10,rfl,A10,n10,c10,T10⟩;refine ⟨_,rfl,(have S10:=S9.turn 3 Z T10;f_ (hK10 _ _ (a_ fun K11 hK11=>Rm Z Z (L_y (E_ Z) Z (L_y (g_ 0 Tryz.underlying113 Z dI_ Z Z Z) Z (Lm Z Z (L_o (n_ Tryz.func55 Z Z (wrawW g A10 n10 c10 (s.bs++[UInt8.ofNat x.kind.toNat]++vr x.p.n++tl (aU_ x.p.l).toNat 4) x.p.A x.p.n x.p.c x.p.l w10 (S10.get 3 Z) (St.okM S10 hp) (by first | omega | (simp only [List.length_append,List.length_cons,List.length_nil,x_];omega))) Z Z ?_))))))))⟩;rintro e11 w11 ⟨v11,rfl,A11,n11,c11,T11⟩;refine ⟨_,rfl,(have S11:=S10.turn 3 Z T11;f_ (hK11 _ _ (a_ fun K12 hK12=>have S12:=S11.splitAt 3 Z (gZ_ (S11.get 3 Z));dy_ [1,2,3,4,5,6] 7 [(0,0),(1,1),(2,1),(3,1),(4,1),(5,1),(6,2),(7,3),(8,3),(9,3),(10,3)] aS_ (by kernel_rfl) fun w13 l13=>have S13:=S12.like l13;ZA_y Z (p_ Z) Z (ga_ (Like w13) (Like.refl _) (Q_ Z (p_ Z) Z (Q_ Z (E_ Z) Z (Q_ Z (g_ 1 Tryz.underlying113 Z sz48 Z Z Z) Z (Q_ Z (t_ Tryz.underlying48 Z Z (((S13.blk 3 Z).cell _).trans (by rfl))) Z ?_))))))))⟩
  refine Q_ Z (Y_ Tryz.underlying65 Z gx_ Z (S13.blk 4 Z) (show _=itf x∧_ from ⟨rfl,rfl⟩)) Z (fF_ Z (eB_ (itf x) te48 zz65 S13 Z Z Z Z (by simp [Value.cells]) Z Z Z fun b14 w14 l14 S14=>?_));have q14:=l14;refine ⟨q14,(fZ_ Z (ay_ te48 S14 0 Z Z Z (by first | exact S14.row 6 Z | exact S14.row 8 Z) (fun u hu=>hu_ x u hu) Z (by omega) (by omega) fun A15 c15 w15 S15=>?_))⟩;have S15d:=S15.drop (rs':=[_,_,_,_,_,_,_,_]) (.cons_cons _ (.cons_cons _ (.cons_cons _ (.cons_cons _ (.cons_cons _ (.cons_cons _ (.cons_cons _ (.cons_cons _ (.cons _ (.refl _))))))))));refine dx_ Z (E_ Z) Z (dx_ Z (g_ 1 Tryz.underlying113 Z sz48 Z Z Z) Z (ZA_o Z (ac_ S15d 3 Z Z Z Z sz48 (by simp;done) fun w16 S16=>?_)));refine cA_ (hK12 _ _ (a_ fun K13 hK13=>dy_ [1,2,3,4,5,6,7,8,9] 10 [(0,0),(1,1),(2,1),(3,1),(4,1),(5,1),(6,1),(7,1),(8,1),(9,2),(10,3),(11,3),(12,3),(13,3)] aS_ (by kernel_rfl) fun w17 l17=>have S17:=S16.like l17;ZA_y Z (p_ Z) Z (ga_ (Like w17) (Like.refl _) (Q_ Z (p_ Z) Z (Q_ Z (E_ Z) Z (Q_ Z (g_ 2 Tryz.underlying113 Z sz50 Z Z Z) Z (Q_ Z (t_ Tryz.underlying50 Z Z (((S17.blk 3 Z).cell _).trans (by rfl))) Z ?_)))))));refine Q_ Z (Y_ Tryz.underlying41 Z ao_ Z (S17.blk 5 Z) (gr_ (x.kind,x.p.l))) Z (Q_ Z (p_ Z) Z (Q_ Z (p_ Z) Z (Q_ Z (C_ Z (built_pl (V_ _ _) _ _)) Z (fF_ Z (eB_ (plO (⟨x.kind,x.p.l,0,s.bs.length,aU_ x.p.l⟩:Ob)) te50 zz67 S17 Z Z Z (by simp [Value.cells,length_bL,V_]) (by simp [Value.cells,plO,Ob.id];rfl) Z Z Z fun b18 w18 l18 S18=>?_)))));have q18:=l18;refine ⟨q18,(fZ_ Z (ay_ te50 S18 1 Z Z Z (by first | exact S18.row 6 Z | exact S18.row 8 Z) (fun u hu=>iA_ _ u hu) Z (by omega) (by omega) fun A19 c19 w19 S19=>?_))⟩;have S19d:=S19.drop (rs':=[_,_,_,_,_,_,_,_]) (.cons_cons _ (.cons_cons _ (.cons_cons _ (.cons_cons _ (.cons_cons _ (.cons_cons _ (.cons_cons _ (.cons_cons _ (.cons _ (.refl _))))))))));refine dx_ Z (E_ Z) Z (dx_ Z (g_ 2 Tryz.underlying113 Z sz50 Z Z Z) Z (ZA_o Z (ac_ S19d 3 Z Z Z Z sz50 (by simp;done) fun w20 S20=>?_)));refine cA_ (hK13 _ _ (Rm Z Z (Lm Z Z (L_y (E_ Z) Z (L_y (g_ 3 Tryz.underlying113 Z ij_ Z Z Z) Z (L_y (t_ Tryz.underlying111 Z Z (((S20.blk 3 Z).cell _).trans (by rfl))) Z ?_))))));refine Lm Z Z (L_o (ah_ [_] eK_ zz3 S20 Z Z Z Z Z Z Z Z fun b21 w21 S21=>L_o (ay_ eK_ S21 2 Z Z Z (by first | exact S21.row 6 Z | exact S21.row 8 Z) (by first | exact R_ _ | exact bu_ _ | (intro u hu;simp at hu;subst hu;rfl) | (simp;done) | (simp [Value.oneCell'];done)) Z (by omega) (by omega) fun A22 c22 w22 S22=>?_)))
  have S22d:=S22.drop (rs':=[_,_,_,_,_,_,_,_]) (.cons_cons _ (.cons_cons _ (.cons_cons _ (.cons_cons _ (.cons_cons _ (.cons_cons _ (.cons_cons _ (.cons_cons _ (.cons _ (.refl _))))))))));refine L_y (E_ Z) Z (L_y (g_ 3 Tryz.underlying113 Z ij_ Z Z Z) Z (L_o (ac_ S22d 3 Z Z Z Z ij_ (by simp;done) fun w23 S23=>?_)));refine f_ ?_;first | refine cg_ (fn:=Tryz.f57) Z ?_ | (simp only [bf_,inB,if_true];refine cg_ (fn:=Tryz.f57) Z ?_)
  have hbs:s.bs++[UInt8.ofNat x.kind.toNat]++vr x.p.n++tl (aU_ x.p.l).toNat 4++x.p.l=(bR_ chain s (x.kind,x.p.l)).bs:=by unfold bR_;rw [lay_w (s:=s) (v:=(x.kind,x.p.l)) hneg, ← hv];unfold aP_;rw [hxb];simp only [List.append_assoc,List.nil_append,List.append_nil]
  have hos:(bR_ chain s (x.kind,x.p.l)).os=s.os++[(⟨x.kind,x.p.l,0,s.bs.length,aU_ x.p.l⟩:Ob)]:=by unfold bR_;rw [lay_w (s:=s) (v:=(x.kind,x.p.l)) hneg, ← hv]
  have S80:=S23.sel [0,1,2,3,7] (by decide);have S81:=S80.rowc 0 Z (n':=its.length+1) (xs':=(its++[x]).flatMap itf) Z (by simp);have S82:=S81.rowc 1 Z (n':=s.os.length+1) (xs':=(s.os++[(⟨x.kind,x.p.l,0,s.bs.length,aU_ x.p.l⟩:Ob)]).flatMap plO) Z (by simp);have S83:=S82.rowc 2 Z (n':=s.os.length+1) (xs':=(s.os++[(⟨x.kind,x.p.l,0,s.bs.length,aU_ x.p.l⟩:Ob)]).map eV_) Z (by simp [eV_]);have S84:=S83.rowc 4 Z (n':=n11) (xs':=bL (bR_ chain s (x.kind,x.p.l)).bs) Z (congrArg bL hbs);have hl1:(its++[x]).length=its.length+1:=by simp
  have hl2:(bR_ chain s (x.kind,x.p.l)).os.length=s.os.length+1:=by rw [hos];simp
  have S85:=St.joinL (ps:=[_,_,_]) (r:=_) (s:=_) S84;have S86:Zx.St w0 _ (pkL g A11 n11 c11 A15 c15 A19 c19 A22 c22 (its++[x]) (bR_ chain s (x.kind,x.p.l))) w23:=S85.cast (by unfold pkL wu;rw [hl1,hl2,hos];rfl);exact ⟨_,rfl,rfl,_,_,_,_,_,_,_,_,_,S86.turnedL⟩
 ·
  omega
theorem add1 (g:Nat) (A:Option Addr) (n c:Nat) (A1:Option Addr) (c1:Nat) (A2:Option Addr) (c2:Nat) (A3:Option Addr) (c3:Nat) (its:List It) (s:Pk) (x:It) (chain:Int) (w0:World) (hw:(sepL (pkL g A n c A1 c1 A2 c2 A3 c3 its s)).holds w0) (hio:Same its s.os) (hits:∀ y ∈ its,OkM w0 (sepL (pkL g A n c A1 c1 A2 c2 A3 c3 its s)).dom y.p) (hsm:∀ y ∈ its,y.p.n≤300) (hp:OkM w0 (sepL (pkL g A n c A1 c1 A2 c2 A3 c3 its s)).dom x.p) (hp3:x.p.n≤300) (hk:1≤x.kind∧x.kind≤4) (hc8:chain≤8) (hbl:s.bs.length≤20000) (hil:its.length≤1000) (hat:∀ o ∈ s.os,o.at_≤s.bs.length) (k:Nat) (o:Ob) (hr:(dR_ s.os chain x.kind x.p.l).1=(k:Int)) (ho:s.os[k]?=some o) (hod:(o.dep:Int) < chain) :
    Calls Tryz.prog 57 #[.pointer (some ⟨g,0,none⟩),.agg (itf x).toArray,.agg (bA (aC_ x.kind x.p.l)),.int .i64 chain] w0 fun e w'=>∃ u,e=.returned u∧u=.tuple #[]∧∃ A' n' c' A1' c1' A2' c2' A3' c3',Turned w0 w' (sepL (pkL g A n c A1 c1 A2 c2 A3 c3 its s)) (sepL (pkL g A' n' c' A1' c1' A2' c2' A3' c3' (its++[x]) (bR_ chain s (x.kind,x.p.l)))):=by
 refine v_ (env:=[(0,.pointer (some ⟨g,0,none⟩)),(1,.agg (itf x).toArray),(2,.agg (bA (aC_ x.kind x.p.l))),(3,.int .i64 chain)]) [.pointer (some ⟨g,0,none⟩),.agg (itf x).toArray,.agg (bA (aC_ x.kind x.p.l)),.int .i64 chain] Tryz.func57 Z Tryz.ntmps57 Z Z ?_;have S0:=St.borrowL hw;have hnw:=ew_ (S0.get 3 Z);subst hnw;have hxb:=hp.1.lenb;have htl:=(fc_ s.os chain x.kind x.p.l).2;have hsl:=hio.len;have hkl:=(List.getElem?_eq_some_iff.1 ho).1;have hao:=hat o (List.mem_of_getElem? ho);have hvb:=Oct.cw_ (s.bs.length - o.at_) (by omega);have S0:Zx.St w0 (sepL (pkL g A s.bs.length c A1 c1 A2 c2 A3 c3 its s)).dom [row 65 2 A1 its.length c1 (its.flatMap itf),row 67 34 A2 s.os.length c2 (s.os.flatMap plO),row 3 1 A3 s.os.length c3 (s.os.map eV_),wu (.slice A1 its.length c1) (.slice A2 s.os.length c2) (.slice A3 s.os.length c3) g A s.bs.length c s.bs] w0:=S0;refine a_ fun K1 hK1=>b_ (L_o (bO_ Z S0 Z fun b1 w1 hb1 S1=>L_o (bO_ Z S1 Z fun b2 w2 hb2 S2=>f_ (hK1 _ _ (a_ fun K2 hK2=>Rm Z Z (L_y (E_ Z) Z (L_y (g_ 0 Tryz.underlying113 Z dI_ Z Z Z) Z (L_o (n_ Tryz.func58 Z Z (wlenW g A s.bs.length c s.bs w2 (S2.get 3 Z)) Z Z ?_)))))))));rintro e3 w3 ⟨v3,rfl,l3,rfl⟩;refine ⟨_,rfl,(have S3:=S2.like l3;Lan Z Z (hK2 _ _ (a_ fun K3 hK3=>Rm Z Z (L_y (Y_ Tryz.underlying65 Z gx_ Z (S3.blk 4 Z) (show _=itf x∧_ from ⟨rfl,rfl⟩)) Z (Lm Z Z (L_o (n_ Tryz.func90 Z Z (shortest g _ _ A1 its.length c1 A3 s.os.length c3 its s.os x.kind chain x.p w3 (S3.get 3 Z).1 (S3.row 0 Z) (S3.row 2 Z) hio (by omega) (St.okI S3 hits) (fun y hy=>(hsm y hy)) (St.okM S3 hp) hp3) Z Z ?_)))))))⟩;rintro e4 w4 ⟨v4,rfl,l4,q,rfl,hq⟩;refine ⟨_,rfl,?_⟩;have S4:=S3.adoptF l4 (q_fr hq (by omega));have hv:=hq.val;rw [← hv] at htl;have hqn:=hq.ok.lenb;have hva:=Oct.cw_ q.n (by omega);refine Lm Z Z (L_y (m_ Z Z) Z (L_y (m_ Z Z) Z (La Z Z (Lan Z Z (hK3 _ _ (a_ fun K4 hK4=>b_ (Lan Z Z (hK4 _ _ (a_ fun K5 hK5=>a_ fun K6 hK6=>?_)))))))));refine Rm Z Z (L_y (L_ Z Z) Z (f_ (hK6 _ _ ?_)));refine o_ Z (fun h25=>?_) (fun h25=>?_)
 ·
  omega
 ·
  refine a_ fun K7 hK7=>Rm Z Z (L_y (E_ Z) Z (L_y (g_ 3 Tryz.underlying113 Z ij_ Z Z Z) Z (L_y (t_ Tryz.underlying111 Z Z (((S4.get 3 Z).1.cell _).trans (by rfl))) Z ?_)));refine Lm Z Z (L_y (T_ Tryz.underlying111 sz3 Z Z (S4.row 2 Z) (Nt.mk (by omega):Nt _ (k)) (by omega)) Z (L_y (cj_ Tryz.underlying3 Z Z (S4.row 2 Z) (iI_ ho)) Z (L_y (w_ Z Z (z_ (by omega))) Z (Lan Z Z (hK7 _ _ (a_ fun K8 hK8=>Rm Z Z (L_y (E_ Z) Z (L_y (g_ 0 Tryz.underlying113 Z dI_ Z Z Z) Z (L_o (n_ Tryz.func89 Z Z (iU_ g A s.bs.length c (s.bs) 5 w4 (S4.get 3 Z) (by first | omega | (simp only [List.length_append,List.length_cons,List.length_nil,x_];omega))) Z Z ?_))))))))));rintro e5 w5 ⟨v5,rfl,A5,n5,c5,T5⟩;refine ⟨_,rfl,(have S5:=S4.turn 3 Z T5;f_ (hK8 _ _ (a_ fun K9 hK9=>Rm Z Z (L_y (E_ Z) Z (L_y (g_ 0 Tryz.underlying113 Z dI_ Z Z Z) Z (Lm Z Z (L_y (I_ Tryz.underlying22 Z) Z (L_y (P_ is3 Tryz.underlying102 Z (dg_ (by omega))) Z (L_o (n_ Tryz.func91 Z Z (wvarW g A5 n5 c5 (s.bs++[5]) q.n w5 (S5.get 3 Z) (by omega) (by first | omega | (simp only [List.length_append,List.length_cons,List.length_nil,x_];omega))) Z Z ?_))))))))))⟩;rintro e6 w6 ⟨v6,rfl,A6,n6,c6,T6⟩;refine ⟨_,rfl,(have S6:=S5.turn 3 Z T6;f_ (hK9 _ _ (gb_ 14 aS_ (by kernel_rfl) fun w7 l7 K10 hK10=>have S7:=S6.like l7;al_ (p_ Z) Z (al_ (E_ Z) Z (al_ (g_ 0 Tryz.underlying113 Z dI_ Z Z Z) Z (al_ (p_ Z) Z (al_ (p_ Z) Z (al_ (E_ Z) Z (al_ (g_ 2 Tryz.underlying113 Z sz50 Z Z Z) Z (al_ (t_ Tryz.underlying50 Z Z (((S7.get 3 Z).1.cell _).trans (by rfl))) Z ?_))))))))))⟩;refine al_ (p_ Z) Z (al_ (T_ Tryz.underlying50 sz67 Z Z (S7.row 1 Z) (Nt.mk (by omega):Nt _ (k)) (by omega)) Z (al_ (aE_ 32 Tryz.underlying67 Z sz3 Z Z (S7.row 1 Z) (by omega) Z) Z (al_ (cl_ Tryz.underlying3 Z Z (S7.row 1 Z) (by omega) ((by_ plO 34 es_ s.os k o ho 32 (by omega)).trans (jk_ o))) Z (al_ (ax_ Z Z (z_ (by omega))) Z (al_ (P_ is3 Tryz.underlying102 Z (subU (by omega) (by omega))) Z (gd_ (hK10 _ (L_o (n_ Tryz.func91 Z Z (wvarW g A6 n6 c6 (s.bs++[5]++vr q.n) (s.bs.length - o.at_) w7 (S7.get 3 Z) (by omega) (by first | omega | (simp only [List.length_append,List.length_cons,List.length_nil,x_];omega))) Z Z ?_)))))))));rintro e8 w8 ⟨v8,rfl,A8,n8,c8,T8⟩;refine ⟨_,rfl,(have S8:=S7.turn 3 Z T8;f_ (hK5 _ _ (a_ fun K11 hK11=>Rm Z Z (L_o (ah_ [_] cS_ eW_ S8 Z Z Z Z Z Z Z Z fun b9 w9 S9=>L_o (n_ Tryz.func92 Z Z (of_ _ _ _ [q] w9 (S9.row 7 Z) (fun y hy=>by obtain rfl:=List.mem_singleton.1 hy;exact (S9.fix 6 Z))) Z Z ?_))))))⟩
  rintro e10 w10 ⟨v10,rfl,l10,rfl⟩;refine ⟨_,rfl,(have S10:=S9.like l10;Lan Z Z (hK11 _ _ (a_ fun K12 hK12=>Rm Z Z (L_y (E_ Z) Z (L_y (g_ 0 Tryz.underlying113 Z dI_ Z Z Z) Z (Lm Z Z (L_o (n_ Tryz.func56 Z Z (wu32W g A8 n8 c8 (s.bs++[5]++vr q.n++vr (s.bs.length - o.at_)) (aU_ q.l).toNat w10 (S10.get 3 Z) (by have:=(aU_ q.l).toNat_lt;omega) (by first | omega | (simp only [List.length_append,List.length_cons,List.length_nil,x_];omega))) Z Z ?_))))))))⟩;rintro e11 w11 ⟨v11,rfl,A11,n11,c11,T11⟩;refine ⟨_,rfl,(have S11:=S10.turn 3 Z T11;f_ (hK12 _ _ (a_ fun K13 hK13=>Rm Z Z (L_y (E_ Z) Z (L_y (g_ 0 Tryz.underlying113 Z dI_ Z Z Z) Z (Lm Z Z (L_o (n_ Tryz.func55 Z Z (wrawW g A11 n11 c11 (s.bs++[5]++vr q.n++vr (s.bs.length - o.at_)++tl (aU_ q.l).toNat 4) q.A q.n q.c q.l w11 (S11.get 3 Z) (S11.fix 6 Z) (by first | omega | (simp only [List.length_append,List.length_cons,List.length_nil,x_];omega))) Z Z ?_))))))))⟩;rintro e12 w12 ⟨v12,rfl,A12,n12,c12,T12⟩;refine ⟨_,rfl,(have S12:=S11.turn 3 Z T12;f_ (hK13 _ _ (a_ fun K14 hK14=>have S13:=S12.splitAt 3 Z (gZ_ (S12.get 3 Z));dy_ [1,2,3,4,5,6] 7 [(0,0),(1,1),(2,1),(3,1),(4,1),(5,1),(6,2),(7,3),(8,3),(9,3),(10,3)] aS_ (by kernel_rfl) fun w14 l14=>have S14:=S13.like l14;ZA_y Z (p_ Z) Z (ga_ (Like w14) (Like.refl _) (Q_ Z (p_ Z) Z (Q_ Z (E_ Z) Z (Q_ Z (g_ 1 Tryz.underlying113 Z sz48 Z Z Z) Z (Q_ Z (t_ Tryz.underlying48 Z Z (((S14.blk 3 Z).cell _).trans (by rfl))) Z ?_))))))))⟩;refine Q_ Z (Y_ Tryz.underlying65 Z gx_ Z (S14.blk 4 Z) (show _=itf x∧_ from ⟨rfl,rfl⟩)) Z (fF_ Z (eB_ (itf x) te48 zz65 S14 Z Z Z Z (by simp [Value.cells]) Z Z Z fun b15 w15 l15 S15=>?_));have q15:=l15;refine ⟨q15,(fZ_ Z (ay_ te48 S15 0 Z Z Z (by first | exact S15.row 7 Z | exact S15.row 9 Z) (fun u hu=>hu_ x u hu) Z (by omega) (by omega) fun A16 c16 w16 S16=>?_))⟩;have S16d:=S16.drop (rs':=[_,_,_,_,_,_,_,_,_]) (.cons_cons _ (.cons_cons _ (.cons_cons _ (.cons_cons _ (.cons_cons _ (.cons_cons _ (.cons_cons _ (.cons_cons _ (.cons_cons _ (.cons _ (.refl _)))))))))));refine dx_ Z (E_ Z) Z (dx_ Z (g_ 1 Tryz.underlying113 Z sz48 Z Z Z) Z (ZA_o Z (ac_ S16d 3 Z Z Z Z sz48 (by simp;done) fun w17 S17=>?_)));refine cA_ (hK14 _ _ (a_ fun K15 hK15=>dy_ [1,2,3,4,5,6,7,8,9] 10 [(0,0),(1,1),(2,1),(3,1),(4,1),(5,1),(6,1),(7,1),(8,1),(9,2),(10,3),(11,3),(12,3),(13,3)] aS_ (by kernel_rfl) fun w18 l18=>have S18:=S17.like l18;ZA_y Z (p_ Z) Z (ga_ (Like w18) (Like.refl _) (Q_ Z (p_ Z) Z (Q_ Z (E_ Z) Z (Q_ Z (g_ 2 Tryz.underlying113 Z sz50 Z Z Z) Z (Q_ Z (t_ Tryz.underlying50 Z Z (((S18.blk 3 Z).cell _).trans (by rfl))) Z ?_)))))))
  refine Q_ Z (Y_ Tryz.underlying41 Z ao_ Z (S18.blk 5 Z) (gr_ (x.kind,x.p.l))) Z (Q_ Z (p_ Z) Z (Q_ Z (p_ Z) Z (Q_ Z (C_ Z (built_pl (V_ _ _) _ _)) Z (fF_ Z (eB_ (plO (⟨x.kind,x.p.l,o.dep+1,s.bs.length,aU_ q.l⟩:Ob)) te50 zz67 S18 Z Z Z (by simp [Value.cells,length_bL,V_]) (by simp [Value.cells,plO,Ob.id];rfl) Z Z Z fun b19 w19 l19 S19=>?_)))));have q19:=l19;refine ⟨q19,(fZ_ Z (ay_ te50 S19 1 Z Z Z (by first | exact S19.row 7 Z | exact S19.row 9 Z) (fun u hu=>iA_ _ u hu) Z (by omega) (by omega) fun A20 c20 w20 S20=>?_))⟩;have S20d:=S20.drop (rs':=[_,_,_,_,_,_,_,_,_]) (.cons_cons _ (.cons_cons _ (.cons_cons _ (.cons_cons _ (.cons_cons _ (.cons_cons _ (.cons_cons _ (.cons_cons _ (.cons_cons _ (.cons _ (.refl _)))))))))));refine dx_ Z (E_ Z) Z (dx_ Z (g_ 2 Tryz.underlying113 Z sz50 Z Z Z) Z (ZA_o Z (ac_ S20d 3 Z Z Z Z sz50 (by simp;done) fun w21 S21=>?_)));refine cA_ (hK15 _ _ (Rm Z Z (Lm Z Z (L_y (E_ Z) Z (L_y (g_ 3 Tryz.underlying113 Z ij_ Z Z Z) Z (L_y (t_ Tryz.underlying111 Z Z (((S21.blk 3 Z).cell _).trans (by rfl))) Z ?_))))));refine Lm Z Z (L_o (ah_ [_] eK_ zz3 S21 Z Z Z Z Z Z Z Z fun b22 w22 S22=>L_o (ay_ eK_ S22 2 Z Z Z (by first | exact S22.row 7 Z | exact S22.row 9 Z) (by first | exact R_ _ | exact bu_ _ | (intro u hu;simp at hu;subst hu;rfl) | (simp;done) | (simp [Value.oneCell'];done)) Z (by omega) (by omega) fun A23 c23 w23 S23=>?_)));have S23d:=S23.drop (rs':=[_,_,_,_,_,_,_,_,_]) (.cons_cons _ (.cons_cons _ (.cons_cons _ (.cons_cons _ (.cons_cons _ (.cons_cons _ (.cons_cons _ (.cons_cons _ (.cons_cons _ (.cons _ (.refl _)))))))))));refine L_y (E_ Z) Z (L_y (g_ 3 Tryz.underlying113 Z ij_ Z Z Z) Z (L_o (ac_ S23d 3 Z Z Z Z ij_ (by simp;done) fun w24 S24=>?_)));refine f_ ?_;first | refine cg_ (fn:=Tryz.f57) Z ?_ | (simp only [bf_,inB,if_true];refine cg_ (fn:=Tryz.f57) Z ?_)
  have hbs:s.bs++[5]++vr q.n++vr (s.bs.length - o.at_)++tl (aU_ q.l).toNat 4++q.l=(bR_ chain s (x.kind,x.p.l)).bs:=by unfold bR_;rw [lay_m (s:=s) (v:=(x.kind,x.p.l)) hr ho, ← hv];unfold aP_;rw [hqn];simp only [List.append_assoc,List.nil_append,List.append_nil]
  have hos:(bR_ chain s (x.kind,x.p.l)).os=s.os++[(⟨x.kind,x.p.l,o.dep+1,s.bs.length,aU_ q.l⟩:Ob)]:=by unfold bR_;rw [lay_m (s:=s) (v:=(x.kind,x.p.l)) hr ho, ← hv]
  have S80:=S24.sel [0,1,2,3,8] (by decide);have S81:=S80.rowc 0 Z (n':=its.length+1) (xs':=(its++[x]).flatMap itf) Z (by simp);have S82:=S81.rowc 1 Z (n':=s.os.length+1) (xs':=(s.os++[(⟨x.kind,x.p.l,o.dep+1,s.bs.length,aU_ q.l⟩:Ob)]).flatMap plO) Z (by simp);have S83:=S82.rowc 2 Z (n':=s.os.length+1) (xs':=(s.os++[(⟨x.kind,x.p.l,o.dep+1,s.bs.length,aU_ q.l⟩:Ob)]).map eV_) Z (by simp [eV_]);have S84:=S83.rowc 4 Z (n':=n12) (xs':=bL (bR_ chain s (x.kind,x.p.l)).bs) Z (congrArg bL hbs);have hl1:(its++[x]).length=its.length+1:=by simp
  have hl2:(bR_ chain s (x.kind,x.p.l)).os.length=s.os.length+1:=by rw [hos];simp
  have S85:=St.joinL (ps:=[_,_,_]) (r:=_) (s:=_) S84;have S86:Zx.St w0 _ (pkL g A12 n12 c12 A16 c16 A20 c20 A23 c23 (its++[x]) (bR_ chain s (x.kind,x.p.l))) w24:=S85.cast (by unfold pkL wu;rw [hl1,hl2,hos];rfl);exact ⟨_,rfl,rfl,_,_,_,_,_,_,_,_,_,S86.turnedL⟩
end Pak
namespace Pak
open Go.RowKit Zk Zx
open Sha (N)
open Oct (vaN rwL rwP rwE rnL rnP rnE be tkP tkE bT_)
structure EV where
  kind:Int
  base:Int
  fin:Nat
  sum:UInt32
  load:List UInt8
def zE:EV:=⟨0,0,0,0,[]⟩
def opR (t:List UInt8) (at_:Nat) (kind base:Int) (size:Nat) (p q:Nat):Int × EV :=
  if rnE t (rwP t p q 4) (rwE t p q 4) (size:Int)≠0 then ((rnE t (rwP t p q 4) (rwE t p q 4) (size:Int):Int),zE)
  else if (aU_ (rnL t (rwP t p q 4) (rwE t p q 4) (size:Int))).toNat≠be (rwL t p q 4) then (13,zE)
  else (0,⟨kind,base,at_+rnP t (rwP t p q 4) (rwE t p q 4) (size:Int),aU_ (rnL t (rwP t p q 4) (rwE t p q 4) (size:Int)),rnL t (rwP t p q 4) (rwE t p q 4) (size:Int)⟩)
def opM (t:List UInt8) (at_:Nat) (deep:Bool) (size p q:Nat):Int × EV :=
  if (vaN t p q 1048576).2.2=0∧((vaN t p q 1048576).1=0∨(at_:Int) - (vaN t p q 1048576).1 < 12) then (21,zE)
  else if (vaN t p q 1048576).2.2=0∧deep=true then (20,zE)
  else opR t at_ 5 ((at_:Int) - (vaN t p q 1048576).1) size (vaN t p q 1048576).2.1 (vaN t p q 1048576).2.2
def opT (t:List UInt8) (x:UInt8) (at_:Nat) (deep:Bool):Int × EV :=
  if x.toNat < 1∨5 < x.toNat then (19,zE)
  else if x.toNat=5 then opM t at_ deep (vaN t 1 0 4000).1 (vaN t 1 0 4000).2.1 (vaN t 1 0 4000).2.2
  else opR t at_ (x.toNat:Int) 0 (vaN t 1 0 4000).1 (vaN t 1 0 4000).2.1 (vaN t 1 0 4000).2.2
def dS_ (b:List UInt8) (at_:Nat):List UInt8:=(b.drop at_).take (b.length - 32 - at_)
def opV (b:List UInt8) (at_:Int) (deep:Bool):Int × EV :=
  if b.length < 44 then (10,zE) else if at_ < 12∨(b.length:Int) - 32≤at_ then (2,zE)
  else opT (dS_ b at_.toNat) (b[at_.toNat]?.getD 0) at_.toNat deep
section
variable {b : List UInt8} {at_ : Int} {deep : Bool}
theorem opV_10 (h:b.length < 44):opV b at_ deep=(10,zE):=by unfold opV;rw [if_pos h]
theorem opV_2 (h:¬ b.length < 44) (h2:at_ < 12∨(b.length:Int) - 32≤at_):opV b at_ deep=(2,zE):=by unfold opV;rw [if_neg h,if_pos h2]
theorem opV_t (h:¬ b.length < 44) (h2:¬ (at_ < 12∨(b.length:Int) - 32≤at_)) {x:UInt8} (hx:b[at_.toNat]?=some x):opV b at_ deep=opT (dS_ b at_.toNat) x at_.toNat deep:=by unfold opV;rw [if_neg h,if_neg h2,hx];rfl
theorem tailB_len {n:Nat} (h:¬ b.length < 44) (h2:n < b.length - 32):(dS_ b n).length=b.length - 32 - n:=by unfold dS_;rw [List.length_take,List.length_drop];omega
theorem tailB_0 {n:Nat} (h:¬ b.length < 44) (h2:n < b.length - 32):(dS_ b n)[0]?=b[n]?:=by
  unfold dS_
  rw [List.getElem?_take,if_pos (by omega),List.getElem?_drop,Nat.add_zero]
end
section
variable {t : List UInt8} {at_ : Nat} {deep : Bool} {x : UInt8} {size p q : Nat} {kind base : Int}
theorem opT_19 (h:x.toNat < 1∨5 < x.toNat):opT t x at_ deep=(19,zE):=by unfold opT;rw [if_pos h]
theorem gD_ (h:x.toNat=5):opT t x at_ deep=opM t at_ deep (vaN t 1 0 4000).1 (vaN t 1 0 4000).2.1 (vaN t 1 0 4000).2.2:=by unfold opT;rw [if_neg (by omega),if_pos h]
theorem opT_w (h:¬ (x.toNat < 1∨5 < x.toNat)) (h5:x.toNat≠5):opT t x at_ deep=opR t at_ (x.toNat:Int) 0 (vaN t 1 0 4000).1 (vaN t 1 0 4000).2.1 (vaN t 1 0 4000).2.2:=by unfold opT;rw [if_neg h,if_neg h5]
theorem opM_21 (h:(vaN t p q 1048576).2.2=0) (h2:(vaN t p q 1048576).1=0∨(at_:Int) - (vaN t p q 1048576).1 < 12):opM t at_ deep size p q=(21,zE):=by unfold opM;rw [if_pos ⟨h,h2⟩]
theorem opM_20 (h:(vaN t p q 1048576).2.2=0) (h2:¬ ((vaN t p q 1048576).1=0∨(at_:Int) - (vaN t p q 1048576).1 < 12)) (h3:deep=true):opM t at_ deep size p q=(20,zE):=by unfold opM;rw [if_neg (fun q=>h2 q.2),if_pos ⟨h,h3⟩]
theorem jm_ (h:(vaN t p q 1048576).2.2≠0∨(¬ ((vaN t p q 1048576).1=0∨(at_:Int) - (vaN t p q 1048576).1 < 12)∧deep=false)):opM t at_ deep size p q=opR t at_ 5 ((at_:Int) - (vaN t p q 1048576).1) size (vaN t p q 1048576).2.1 (vaN t p q 1048576).2.2:=by
  unfold opM
  rw [if_neg (fun q=>h.elim (fun r=>r q.1) (fun r=>r.1 q.2)),if_neg (fun q=>h.elim (fun r=>r q.1) (fun r=>by rw [r.2] at q;cases q.2))]
theorem opR_e (h:rnE t (rwP t p q 4) (rwE t p q 4) (size:Int)≠0):opR t at_ kind base size p q=((rnE t (rwP t p q 4) (rwE t p q 4) (size:Int):Int),zE):=by unfold opR;rw [if_pos h]
theorem opR_13 (h:rnE t (rwP t p q 4) (rwE t p q 4) (size:Int)=0) (h2:(aU_ (rnL t (rwP t p q 4) (rwE t p q 4) (size:Int))).toNat≠be (rwL t p q 4)):opR t at_ kind base size p q=(13,zE):=by unfold opR;rw [if_neg (fun q=>q h),if_pos h2]
theorem opR_ok (h:rnE t (rwP t p q 4) (rwE t p q 4) (size:Int)=0) (h2:¬ (aU_ (rnL t (rwP t p q 4) (rwE t p q 4) (size:Int))).toNat≠be (rwL t p q 4)):opR t at_ kind base size p q=(0,⟨kind,base,at_+rnP t (rwP t p q 4) (rwE t p q 4) (size:Int),aU_ (rnL t (rwP t p q 4) (rwE t p q 4) (size:Int)),rnL t (rwP t p q 4) (rwE t p q 4) (size:Int)⟩):=by unfold opR;rw [if_neg (fun q=>q h),if_neg h2]
theorem rwE_dead {k:Nat} (h:q≠0):rwE t p q k=q:=by unfold rwE;rw [if_neg h]
theorem rnE_dead {m:Int} (h:q≠0):rnE t p q m=q:=by
  unfold rnE
  split
  · first | rfl | rw [if_pos h]
  · exact rwE_dead h
theorem rnL_len (m:Nat):(rnL t p q (m:Int)).length≤m:=by
  unfold rnL
  rw [if_neg (by omega)]
  exact Oct.rw_le _ _ _ _
theorem kN_:(opR t at_ kind base size p q).1=0→q=0∧(opR t at_ kind base size p q).2.kind=kind∧(opR t at_ kind base size p q).2.base=base∧(opR t at_ kind base size p q).2.load.length≤size∧(opR t at_ kind base size p q).2.sum=aU_ (opR t at_ kind base size p q).2.load:=by
  by_cases h:rnE t (rwP t p q 4) (rwE t p q 4) (size:Int)=0
  · have hq:q=0:=Classical.byContradiction fun hq=>by
      rw [rwE_dead hq,rnE_dead hq] at h
      exact hq h
    by_cases h2:(aU_ (rnL t (rwP t p q 4) (rwE t p q 4) (size:Int))).toNat≠be (rwL t p q 4)
    · rw [opR_13 h h2];intro h3;exact absurd h3 (by decide)
    · rw [opR_ok h h2]
      exact fun _=>⟨hq,rfl,rfl,rnL_len _,rfl⟩
  · rw [opR_e h]
    intro h3
    exact absurd h3 (by show ((rnE t (rwP t p q 4) (rwE t p q 4) (size:Int):Nat):Int)≠0;omega)
end
theorem hc_ (d:List UInt8) (p q m:Nat):(vaN d p q m).1≤m:=by
  unfold vaN
  repeat' split
  all_goals (dsimp only;omega)
structure EOk (at_:Int) (deep:Bool) (x:EV):Prop where
  k1:1≤x.kind
  k5:x.kind≤5
  len:x.load.length≤4000
  sum:x.sum=aU_ x.load
  base:x.kind=5→12≤x.base∧x.base < at_∧deep=false
theorem opT_ok {t:List UInt8} {x:UInt8} {at_:Nat} {deep:Bool} (h:(opT t x at_ deep).1=0):EOk (at_:Int) deep (opT t x at_ deep).2:=by
  by_cases h1:x.toNat < 1∨5 < x.toNat
  · rw [opT_19 h1] at h;exact absurd h (by decide)
  · have hs := hc_ t 1 0 4000
    by_cases h5:x.toNat=5
    · rw [gD_ h5] at h ⊢
      by_cases g1:(vaN t (vaN t 1 0 4000).2.1 (vaN t 1 0 4000).2.2 1048576).2.2=0
      · by_cases g2:(vaN t (vaN t 1 0 4000).2.1 (vaN t 1 0 4000).2.2 1048576).1=0∨(at_:Int) - (vaN t (vaN t 1 0 4000).2.1 (vaN t 1 0 4000).2.2 1048576).1 < 12
        · rw [opM_21 g1 g2] at h;exact absurd h (by decide)
        · cases hd:deep with
          | true=>rw [opM_20 g1 g2 hd] at h;exact absurd h (by decide)
          | false =>
            rw [hd] at h
            rw [jm_ (.inr ⟨g2,rfl⟩)] at h ⊢
            obtain ⟨_,e1,e2,e3,e4⟩:=kN_ h
            exact ⟨by omega,by omega,by omega,e4,fun _=>by rw [e2];exact ⟨by omega,by omega,rfl⟩⟩
      · rw [jm_ (.inl g1)] at h
        exact absurd (kN_ h).1 g1
    · rw [opT_w h1 h5] at h ⊢
      obtain ⟨_,e1,e2,e3,e4⟩:=kN_ h
      exact ⟨by omega,by omega,by omega,e4,fun q=>by omega⟩
theorem opV_ok {b:List UInt8} {at_:Int} {deep:Bool} (h:(opV b at_ deep).1=0):EOk at_ deep (opV b at_ deep).2∧12≤at_∧at_ < (b.length:Int) - 32∧¬ b.length < 44:=by
  by_cases h1:b.length < 44
  · rw [opV_10 h1] at h;exact absurd h (by decide)
  · by_cases h2:at_ < 12∨(b.length:Int) - 32≤at_
    · rw [opV_2 h1 h2] at h;exact absurd h (by decide)
    · have e:b[at_.toNat]?=some (b[at_.toNat]?.getD 0):=by
        rw [List.getElem?_eq_getElem (by omega)];rfl
      rw [opV_t h1 h2 e] at h ⊢
      have h3:=opT_ok h
      rw [Int.toNat_of_nonneg (by omega)] at h3
      exact ⟨h3,by omega,by omega,h1⟩
def ft_ (ld:List UInt8) (r:Int × List UInt8 × Int):Int × List UInt8 × Int :=
  if r.2.2≠0 then (0,[],r.2.2)
  else if (Del.ag_ ld).2.2.2≠0 then (0,[],(Del.ag_ ld).2.2.2)
  else if (Del.bW_ r.2.1 (Del.ag_ ld).1 (Del.ag_ ld).2.1 (Del.ag_ ld).2.2.1).2≠0 then (0,[],(Del.bW_ r.2.1 (Del.ag_ ld).1 (Del.ag_ ld).2.1 (Del.ag_ ld).2.2.1).2)
  else (r.1,(Del.bW_ r.2.1 (Del.ag_ ld).1 (Del.ag_ ld).2.1 (Del.ag_ ld).2.2.1).1,0)
section
variable {ld : List UInt8} {r : Int × List UInt8 × Int} {e : Int}
theorem aplO_1 (h:r.2.2=e) (he:e≠0):ft_ ld r=(0,[],e):=by subst h;unfold ft_;rw [if_pos he]
theorem aplO_2 (h:r.2.2=0) (h2:(Del.ag_ ld).2.2.2≠0):ft_ ld r=(0,[],(Del.ag_ ld).2.2.2):=by unfold ft_;rw [if_neg (fun q=>q h),if_pos h2]
theorem aplO_3 (h:r.2.2=0) (h2:(Del.ag_ ld).2.2.2=0) (h3:(Del.bW_ r.2.1 (Del.ag_ ld).1 (Del.ag_ ld).2.1 (Del.ag_ ld).2.2.1).2≠0):ft_ ld r=(0,[],(Del.bW_ r.2.1 (Del.ag_ ld).1 (Del.ag_ ld).2.1 (Del.ag_ ld).2.2.1).2):=by unfold ft_;rw [if_neg (fun q=>q h),if_neg (fun q=>q h2),if_pos h3]
theorem aplO_4 (h:r.2.2=0) (h2:(Del.ag_ ld).2.2.2=0) (h3:(Del.bW_ r.2.1 (Del.ag_ ld).1 (Del.ag_ ld).2.1 (Del.ag_ ld).2.2.1).2=0):ft_ ld r=(r.1,(Del.bW_ r.2.1 (Del.ag_ ld).1 (Del.ag_ ld).2.1 (Del.ag_ ld).2.2.1).1,0):=by unfold ft_;rw [if_neg (fun q=>q h),if_neg (fun q=>q h2),if_neg (fun q=>q h3)]
end
def rdF (b:List UInt8):Nat→Int→Int × List UInt8 × Int
  | 0,at_=>if (opV b at_ true).1≠0 then (0,[],(opV b at_ true).1) else ((opV b at_ true).2.kind,(opV b at_ true).2.load,0)
  | f+1,at_=>if (opV b at_ false).1≠0 then (0,[],(opV b at_ false).1) else if (opV b at_ false).2.kind=5 then ft_ (opV b at_ false).2.load (rdF b f (opV b at_ false).2.base) else ((opV b at_ false).2.kind,(opV b at_ false).2.load,0)
def rest (b:List UInt8) (f:Nat) (x:EV):Int × List UInt8 × Int:=if x.kind=5 then ft_ x.load (rdF b f x.base) else (x.kind,x.load,0)
theorem rdF_e {b:List UInt8} {f:Nat} {at_:Int} {e:Int} (h:(opV b at_ (f == 0)).1=e) (he:e≠0):rdF b f at_=(0,[],e):=by
  subst h
  cases f with
  | zero=>unfold rdF;exact if_pos he
  | succ f=>unfold rdF;exact if_pos he
theorem rdF_ok {b:List UInt8} {f:Nat} {at_:Int} (h:(opV b at_ (f == 0)).1=0):rdF b f at_=rest b (f - 1) (opV b at_ (f == 0)).2:=by
  cases f with
  | zero =>
    have hk:=(opV_ok h).1
    have h5:(opV b at_ (0 == 0)).2.kind≠5:=fun q=>by have:=(hk.base q).2.2;cases this
    unfold rdF rest
    rw [if_neg (fun q=>q h),if_neg h5]
    rfl
  | succ f =>
    have h2:(f+1 == 0)=false:=rfl
    rw [h2] at h ⊢
    unfold rest
    conv=>lhs;unfold rdF
    rw [if_neg (fun q=>q h)]
    rfl
def readP (b:List UInt8) (at_:Int):Int × List UInt8 × Int:=rdF b 8 at_
theorem fo_ (ls:List (List UInt8)) (ld:List UInt8) (r:Int × List UInt8 × Int):(ls++[ld]).foldr ft_ r=ls.foldr ft_ (ft_ ld r):=by simp
theorem hZ_ (ls:List (List UInt8)) {e:Int} (he:e≠0):ls.foldr ft_ (0,[],e)=(0,[],e):=by
  induction ls with
  | nil=>rfl
  | cons x ls ih=>rw [List.foldr_cons,ih];exact aplO_1 Z he
section
variable {d t : List UInt8} {a : Nat}
end
theorem tail_take {b:List UInt8} {n:Nat}:dS_ b n=(b.take (b.length - 32)).drop n:=by
  unfold dS_
  rw [List.drop_take]
end Pak
namespace Pak
open Go.RowKit Zk Zx
end Pak
namespace Pak
open Go.RowKit Zk Zx
open Sha (N)
open Go.Proofs.YtgaklngnfecdaaaGreat.Obj (ad_ bG_ aC_ V_)
open Oct (vaN rwL rwP rwE rnL rnP rnE be tkP tkE bT_ vr tl x_)
theorem be_tl {v:Nat} (h:v < 4294967296):be (tl v 4)=v:=by
  simp only [tl,be,List.foldl,UInt8.toNat_ofNat']
  omega
theorem rw_at {t r s:List UInt8} {p k:Nat} (h:t.drop p=r++s) (hk:r.length=k):rwL t p 0 k=r∧rwP t p 0 k=p+k∧rwE t p 0 k=0:=by
  have hl:k≤t.length - p:=by
    have:=congrArg List.length h
    rw [List.length_drop,List.length_append] at this
    omega
  unfold rwL rwP rwE Oct.tkL tkP tkE
  rw [if_pos Z,if_pos Z,if_pos Z,if_pos hl,if_pos hl,if_pos hl,h]
  exact ⟨by rw [← hk];simp,rfl,rfl⟩
theorem rn_at {t r s:List UInt8} {p k:Nat} (h:t.drop p=r++s) (hk:r.length=k):rnL t p 0 (k:Int)=r∧rnP t p 0 (k:Int)=p+k∧rnE t p 0 (k:Int)=0:=by
  obtain ⟨h1,h2,h3⟩:=Oct.rn_nat t p 0 k
  rw [h1,h2,h3]
  exact rw_at h hk
theorem va_at {t r:List UInt8} {p v m:Nat} (h:t.drop p=vr v++r) (hm:v≤m) (h64:v≤18446744073709551615):vaN t p 0 m=(v,p+(vr v).length,0):=by
  unfold vaN
  rw [if_neg (by omega),h,Oct.jt_ r v h64,if_neg (by show ¬ (0:Nat)≠0;omega),if_neg (by show ¬ m < v;omega)]
theorem hz_ {t r s:List UInt8} {p:Nat} (h:t.drop p=r++s):t.drop (p+r.length)=s:=by
  rw [← List.drop_drop,h,List.drop_left]
theorem opR_at {t load post:List UInt8} {at_:Nat} {kind base:Int} {p:Nat} (h:t.drop p=tl (aU_ load).toNat 4++(load++post)):opR t at_ kind base load.length p 0=(0,⟨kind,base,at_+(p+4+load.length),aU_ load,load⟩):=by
  obtain ⟨e1,e2,e3⟩:=rw_at h (x_ _ 4)
  have h2:=hz_ h
  rw [x_] at h2
  obtain ⟨f1,f2,f3⟩:=rn_at h2 Z
  rw [opR_ok (by rw [e2,e3,f3]) (by rw [e1,e2,e3,f1,be_tl (aU_ load).toNat_lt];omega),e2,e3,f1,f2]
theorem ent_whole {x:UInt8} {load post:List UInt8} {at_:Nat} {deep:Bool} (h1:1≤x.toNat) (h4:x.toNat≤4) (hl:load.length≤4000) :
    opT (aP_ x [] load++post) x at_ deep=(0,⟨(x.toNat:Int),0,at_+(aP_ x [] load).length,aU_ load,load⟩):=by
  have d1:(aP_ x [] load++post).drop 1=vr load.length++(tl (aU_ load).toNat 4++(load++post)):=by simp [aP_]
  have v1:=va_at d1 hl (by omega)
  have d2:=hz_ d1
  rw [opT_w (by omega) (by omega),v1,opR_at d2]
  have:1+(vr load.length).length+4+load.length=(aP_ x [] load).length:=by simp [aP_,x_];omega
  rw [this]
theorem ent_made {back:Nat} {load post:List UInt8} {at_:Nat} (hl:load.length≤4000) (hb:1≤back) (hb2:back+12≤at_) (hm:at_≤1048576) :
    opT (aP_ 5 (vr back) load++post) 5 at_ false=(0,⟨5,(at_:Int) - back,at_+(aP_ 5 (vr back) load).length,aU_ load,load⟩):=by
  have d1:(aP_ 5 (vr back) load++post).drop 1=vr load.length++(vr back++(tl (aU_ load).toNat 4++(load++post))):=by simp [aP_]
  have v1:=va_at d1 hl (by omega)
  have d2:=hz_ d1
  have v2:=va_at (m:=1048576) d2 (by omega) (by omega)
  have d3:=hz_ d2
  rw [gD_ Z,v1,jm_ (.inr ⟨by dsimp only;rw [v2];dsimp only;omega,rfl⟩)]
  dsimp only
  rw [v2,opR_at d3]
  have:1+(vr load.length).length+(vr back).length+4+load.length=(aP_ 5 (vr back) load).length:=by simp [aP_,x_];omega
  rw [this]
def nx (os:List Ob) (bs:List UInt8) (k:Nat):Nat:=os[k+1]?.elim bs.length Ob.at_
theorem nx_more {os:List Ob} {bs ex:List UInt8} {q:Ob} {k:Nat} (hk:k < os.length) (hq:q.at_=bs.length):nx (os++[q]) (bs++ex) k=nx os bs k:=by
  unfold nx
  rcases Nat.lt_or_ge (k+1) os.length with g | g
  · rw [List.getElem?_append_left g,List.getElem?_eq_getElem g];rfl
  · have e:os.length=k+1:=by omega
    rw [← e,List.getElem?_concat_length,List.getElem?_eq_none (by omega)]
    exact hq
structure Laid1 (os:List Ob) (bs:List UInt8) (o:Ob) (k:Nat):Prop where
  at12:12≤o.at_
  lt:o.at_ < bs.length
  dep:o.dep≤8
  ent:(∃ x post,bs.drop o.at_=aP_ x [] o.l++post∧(x.toNat:Int)=o.kind∧o.dep=0∧o.sum=aU_ o.l∧o.at_+(aP_ x [] o.l).length=nx os bs k) ∨
    (∃ j p post,j < k∧os[j]?=some p∧p.at_ < o.at_∧p.kind=o.kind∧o.dep=p.dep+1∧o.sum=aU_ (scB p.l o.l)∧(scB p.l o.l).length < o.l.length∧bs.drop o.at_=aP_ 5 (vr (o.at_ - p.at_)) (scB p.l o.l)++post∧o.at_+(aP_ 5 (vr (o.at_ - p.at_)) (scB p.l o.l)).length=nx os bs k)
structure fx_ (s:Pk):Prop where
  each:∀ k o,s.os[k]?=some o→Laid1 s.os s.bs o k
  kinds:∀ o ∈ s.os,1≤o.kind∧o.kind≤4
  short:∀ o ∈ s.os,o.l.length≤300
theorem Laid1.more {os:List Ob} {bs ex:List UInt8} {o q:Ob} {k:Nat} (h:Laid1 os bs o k) (hk:k < os.length) (hq:q.at_=bs.length):Laid1 (os++[q]) (bs++ex) o k:=by
  have hlt:=h.lt
  refine ⟨h.at12,by rw [List.length_append];omega,h.dep,?_⟩
  rcases h.ent with ⟨x,post,e,u1,u2,u3,u4⟩ | ⟨j,p,post,hj,hp,r1,r2,r3,r4,r5,e,u4⟩
  · exact .inl ⟨x,post++ex,by rw [List.drop_append_of_le_length (by omega),e,List.append_assoc],u1,u2,u3,by rw [nx_more hk hq];exact u4⟩
  · exact .inr ⟨j,p,post++ex,hj,by rw [List.getElem?_append_left (by omega)];exact hp,r1,r2,r3,r4,r5,by rw [List.drop_append_of_le_length (by omega),e,List.append_assoc],by rw [nx_more hk hq];exact u4⟩
theorem addV_laid {chain:Int} (hc:chain≤8) {s:Pk} {v:IV} (h:fx_ s) (hk:1≤v.1∧v.1≤4) (hl:v.2.length≤300) (h12:12≤s.bs.length) (hbs:s.bs.length≤20000):fx_ (bR_ chain s v):=by
  obtain ⟨ht,htl⟩:=fc_ s.os chain v.1 v.2
  have old:∀ (q:Ob) (ex:List UInt8) (k:Nat) (o:Ob),s.os[k]?=some o→q.at_=s.bs.length→Laid1 (s.os++[q]) (s.bs++ex) o k:=fun q ex k o ho hq=>(h.each k o ho).more (List.getElem?_eq_some_iff.1 ho).1 hq
  have fin:∀ (q:Ob) (ex:List UInt8),q.kind=v.1→q.l=v.2→q.at_=s.bs.length→Laid1 (s.os++[q]) (s.bs++ex) q s.os.length→fx_ ⟨s.bs++ex,s.os++[q]⟩:=fun q ex e1 e2 e3 hq=>by
    refine ⟨fun k o ho=>?_,fun o ho=>?_,fun o ho=>?_⟩
    · rcases Nat.lt_or_ge k s.os.length with g | g
      · rw [List.getElem?_append_left g] at ho
        exact old q ex k o ho e3
      · have hk2:=(List.getElem?_eq_some_iff.1 ho).1
        simp at hk2
        obtain rfl:k=s.os.length:=by omega
        rw [List.getElem?_concat_length] at ho
        cases ho
        exact hq
    · rcases List.mem_append.1 ho with ho | ho
      · exact h.kinds o ho
      · obtain rfl:=List.mem_singleton.1 ho
        rw [e1];exact hk
    · rcases List.mem_append.1 ho with ho | ho
      · exact h.short o ho
      · obtain rfl:=List.mem_singleton.1 ho
        rw [e2];exact hl
  unfold bR_ layO
  rcases ht with ⟨r1,r2⟩ | ⟨j,o,r1,ho,g1,g2,g3,g4⟩
  · rw [if_pos (by omega)]
    refine fin _ _ Z Z Z ⟨h12,by simp [aP_] <;> omega,by show (0:Nat)≤8;omega,.inl ⟨UInt8.ofNat v.1.toNat,[],?_,?_,rfl,by rw [r2],by rw [r2];unfold nx;rw [List.getElem?_eq_none (by simp)];show s.bs.length+_=(s.bs++_).length;rw [List.length_append]⟩⟩
    · show (s.bs++aP_ _ [] _).drop s.bs.length=_
      rw [List.drop_left,r2,List.append_nil]
    · show ((UInt8.ofNat v.1.toNat).toNat:Int)=v.1
      rw [UInt8.toNat_ofNat']
      omega
  · rw [if_neg (by omega)]
    have hj:(dR_ s.os chain v.1 v.2).1.toNat=j:=by omega
    have ea:ofAt s.os (dR_ s.os chain v.1 v.2).1=o.at_:=by unfold ofAt;rw [hj,ho];rfl
    have ed:ofDep s.os (dR_ s.os chain v.1 v.2).1=o.dep:=by unfold ofDep;rw [hj,ho];rfl
    have hL:=h.each j o ho
    have hjl:=(List.getElem?_eq_some_iff.1 ho).1
    have hLt:=hL.lt
    rw [ea,ed]
    refine fin _ _ Z Z Z ⟨h12,by simp [aP_] <;> omega,by show o.dep+1≤8;omega,.inr ⟨j,o,[],hjl,by rw [List.getElem?_append_left hjl];exact ho,hLt,g1,rfl,by rw [g3],by rw [← g3];exact g4,?_,?_⟩⟩
    · show (s.bs++aP_ 5 _ _).drop s.bs.length=_
      rw [List.drop_left,g3,List.append_nil]
    · rw [g3];unfold nx;rw [List.getElem?_eq_none (by simp)];show s.bs.length+_=(s.bs++_).length;rw [List.length_append]
theorem gn_ {chain:Int} (hc:chain≤8) {n:Nat} {l:List IV} (hs:∀ x ∈ l,x.2.length≤300) (hk:∀ x ∈ l,1≤x.1∧x.1≤4):∀ k,k≤l.length→k≤24→fx_ (U_ chain n (l.take k))
  | 0,_,_=>⟨fun k o ho=>by simp [U_] at ho,fun o ho=>by simp [U_] at ho,fun o ho=>by simp [U_] at ho⟩
  | k+1,hkl,h24=>by
    obtain ⟨x,hx⟩:∃ x,l[k]?=some x:=⟨_,List.getElem?_eq_getElem (by omega)⟩
    obtain ⟨h1,h2,h3⟩:=fP_ (chain:=chain) (n:=n) hs k (by omega) (by omega)
    rw [bA_ hx]
    exact addV_laid hc (gn_ hc hs hk k (by omega) (by omega)) (hk x (List.mem_of_getElem? hx)) (hs x (List.mem_of_getElem? hx)) h2 (by omega)
theorem jX_ {bs ex:List UInt8} {n:Nat} (he:ex.length=32):dS_ (bs++ex) n=bs.drop n:=by
  rw [tail_take,show (bs++ex).length - 32=bs.length by rw [List.length_append];omega,List.take_left]
theorem entB_hd (x:UInt8) (bk load post:List UInt8):(aP_ x bk load++post)[0]?=some x:=by simp [aP_]
theorem open_laid {s:Pk} {ex:List UInt8} (he:ex.length=32) (h12:12≤s.bs.length) (hbs:s.bs.length≤20000) (h:fx_ s) {k:Nat} {o:Ob} (ho:s.os[k]?=some o) :
    (∃ post,s.bs.drop o.at_=aP_ (UInt8.ofNat o.kind.toNat) [] o.l++post∧o.dep=0∧o.sum=aU_ o.l∧∀ deep,opV (s.bs++ex) (o.at_:Int) deep=(0,⟨o.kind,0,nx s.os s.bs k,o.sum,o.l⟩)) ∨
    (∃ j p post,j < k∧s.os[j]?=some p∧p.kind=o.kind∧o.dep=p.dep+1∧s.bs.drop o.at_=aP_ 5 (vr (o.at_ - p.at_)) (scB p.l o.l)++post∧opV (s.bs++ex) (o.at_:Int) false=(0,⟨5,(p.at_:Int),nx s.os s.bs k,o.sum,scB p.l o.l⟩)):=by
  have hL:=h.each k o ho
  have h1:=hL.at12
  have h2:=hL.lt
  have hk:=h.kinds o (List.mem_of_getElem? ho)
  have hs:=h.short o (List.mem_of_getElem? ho)
  have hlen:(s.bs++ex).length=s.bs.length+32:=by rw [List.length_append,he]
  have hx0:∀ {x:UInt8} {bk load post:List UInt8},s.bs.drop o.at_=aP_ x bk load++post→(s.bs++ex)[((o.at_:Nat):Int).toNat]?=some x:=fun {x bk load post} e=>by
    have h4:=entB_hd x bk load post
    rw [← e,List.getElem?_drop,Nat.add_zero] at h4
    rw [Int.toNat_natCast,List.getElem?_append_left h2,h4]
  rcases hL.ent with ⟨x,post,e,r1,r2,r3,u4⟩ | ⟨j,p,post,hj,hp,r1,r2,r3,r4,r5,e,u4⟩
  · have hxe:x=UInt8.ofNat o.kind.toNat:=by
      apply UInt8.toNat_inj.1
      rw [UInt8.toNat_ofNat']
      omega
    refine .inl ⟨post,by rw [← hxe];exact e,r2,r3,fun deep=>?_⟩
    rw [opV_t (by omega) (by omega) (hx0 e),Int.toNat_natCast,jX_ he,e,ent_whole (by omega) (by omega) (by omega),r1,r3,u4]
  · have hpL:=(h.each j p hp).at12
    refine .inr ⟨j,p,post,hj,hp,r2,r3,e,?_⟩
    rw [opV_t (by omega) (by omega) (hx0 e),Int.toNat_natCast,jX_ he,e,ent_made (by omega) (by omega) (by omega) (by omega),r4,u4]
    have:(o.at_:Int) - ((o.at_ - p.at_:Nat):Int)=(p.at_:Int):=by omega
    rw [this]
theorem aplO_sc {a x:List UInt8} {k:Int} (ha:a.length≤300) (hx:x.length≤300):ft_ (scB a x) (k,a,0)=(k,x,0):=by
  have h1:=Del.put_read (Del.iD_ (a:=a) (t:=x) (by omega) (by omega))
  have h2:=Del.make_apl (a:=a) (t:=x) (by omega) (by omega)
  have h3:(Del.ag_ (scB a x)).2.2.2=0:=by unfold scB;rw [h1]
  have h4:Del.bW_ a (Del.ag_ (scB a x)).1 (Del.ag_ (scB a x)).2.1 (Del.ag_ (scB a x)).2.2.1=(x,0):=by unfold scB;rw [h1];exact h2
  rw [aplO_4 Z h3 (by dsimp only;rw [h4])]
  dsimp only
  rw [h4]
theorem read_laid {s:Pk} {ex:List UInt8} (he:ex.length=32) (h12:12≤s.bs.length) (hbs:s.bs.length≤20000) (h:fx_ s):∀ (k:Nat) (o:Ob),s.os[k]?=some o→∀ f,o.dep≤f→rdF (s.bs++ex) f (o.at_:Int)=(o.kind,o.l,0):=by
  intro k
  induction k using Nat.strongRecOn with
  | _ k ih =>
    intro o ho f hf
    have hk:=h.kinds o (List.mem_of_getElem? ho)
    have hs:=h.short o (List.mem_of_getElem? ho)
    rcases open_laid he h12 hbs h ho with ⟨post,_,_,_,hop⟩ | ⟨j,p,post,hj,hp,g1,g2,_,hop⟩
    · rw [rdF_ok (by rw [hop]),hop]
      unfold rest
      exact if_neg (by show ¬ o.kind=5;omega)
    · obtain ⟨f,rfl⟩:∃ f',f=f'+1:=⟨f - 1,by omega⟩
      have hb:(f+1 == 0)=false:=rfl
      rw [rdF_ok (by rw [hb,hop]),hb,hop]
      unfold rest
      rw [if_pos Z]
      show ft_ (scB p.l o.l) (rdF (s.bs++ex) f (p.at_:Int))=_
      rw [ih j hj p hp f (by omega),g1,aplO_sc (h.short p (List.mem_of_getElem? hp)) hs]
end Pak
namespace Pak
open Go.RowKit Zk Zx
open Sha (N)
open Go.Proofs.YtgaklngnfecdaaaGreat.Obj (ad_ bG_ aC_ V_)
open Oct (vaN rwL rwP rwE rnL rnP rnE be tkP tkE bT_ vr tl x_)
def fL_ (b:List UInt8):Nat→Nat→Int × List Ob × Nat
  | 0,at_=>(0,[],at_)
  | n+1,at_=>if (opV b at_ false).1≠0 then ((opV b at_ false).1,[],0)
    else if (rest b 7 (opV b at_ false).2).2.2≠0 then ((rest b 7 (opV b at_ false).2).2.2,[],0)
    else if ad_ (rest b 7 (opV b at_ false).2).1 (rest b 7 (opV b at_ false).2).2.1≠0 then (ad_ (rest b 7 (opV b at_ false).2).1 (rest b 7 (opV b at_ false).2).2.1,[],0)
    else ((fL_ b n (opV b at_ false).2.fin).1,⟨(rest b 7 (opV b at_ false).2).1,(rest b 7 (opV b at_ false).2).2.1,0,at_,(opV b at_ false).2.sum⟩::(fL_ b n (opV b at_ false).2.fin).2.1,(fL_ b n (opV b at_ false).2.fin).2.2)
def glue (os:List Ob) (q:Int × List Ob × Nat):Int × List Ob × Nat:=(q.1,os++q.2.1,q.2.2)
section
variable {b : List UInt8} {n at_ : Nat}
end
def SCI (b:List UInt8) (n k:Nat) (os:List Ob) (at_:Nat):Prop:=fL_ b n 12=glue os (fL_ b (n - k) at_)
theorem SCI.start (b:List UInt8) (n:Nat):SCI b n 0 [] 12:=rfl
theorem SCI.err {b:List UInt8} {n k at_:Nat} {os:List Ob} (h:SCI b n k os at_) {e:Int} (h2:(fL_ b (n - k) at_).1=e):(fL_ b n 12).1=e:=by
  unfold SCI at h;rw [h];exact h2
theorem SCI.next {b:List UInt8} {n k at_ at2:Nat} {os:List Ob} {o:Ob} (h:SCI b n k os at_) (hk:k < n) (h2:fL_ b (n - k - 1+1) at_=glue [o] (fL_ b (n - k - 1) at2)):SCI b n (k+1) (os++[o]) at2:=by
  unfold SCI at h ⊢
  rw [h,show n - k=n - k - 1+1 by omega,h2,show n - (k+1)=n - k - 1 by omega]
  unfold glue
  simp
theorem SCI.done {b:List UInt8} {n at_:Nat} {os:List Ob} (h:SCI b n n os at_):fL_ b n 12=(0,os,at_):=by
  unfold SCI at h
  rw [h,Nat.sub_self]
  unfold fL_ glue
  simp
theorem first_at {chain:Int} {n:Nat} {l:List IV}:(U_ chain n l).os[0]?.elim (U_ chain n l).bs.length Ob.at_=12:=by
  have key:∀ (l:List IV) (s:Pk),s.os[0]?.elim s.bs.length Ob.at_=12→(l.foldl (bR_ chain) s).os[0]?.elim (l.foldl (bR_ chain) s).bs.length Ob.at_=12:=by
    intro l
    induction l with
    | nil=>exact fun s h=>h
    | cons v l ih =>
      intro s h
      refine ih _ ?_
      unfold bR_ layO
      cases ho:s.os with
      | nil =>
        rw [ho] at h
        split <;> exact h
      | cons o os =>
        rw [ho] at h
        split <;> exact h
  exact key l _ (by show (gT_ n).length=12;exact jE_ n)
theorem ht_ {k:Int} {b:List UInt8} (h:ad_ k b=0):1≤k∧k≤4:=Classical.byContradiction fun q=>by
  unfold ad_ at h
  rw [if_pos q] at h
  exact absurd h (by decide)
structure Written (chain:Int) (l:List IV):Prop where
  inv:fx_ (bL_ chain l)
  cnt:(bL_ chain l).os.length=l.length
  lo:12≤(bL_ chain l).bs.length
  hi:(bL_ chain l).bs.length≤10000
  items:(bL_ chain l).os.map (fun o=>(o.kind,o.l))=l
  good:∀ o ∈ (bL_ chain l).os,ad_ o.kind o.l=0
theorem written {chain:Int} (hc:chain≤8) {l:List IV} (h24:l.length≤24) (hs:∀ x ∈ l,x.2.length≤300) (hn:∀ x ∈ l,ad_ x.1 x.2=0):Written chain l:=by
  have h1:=fP_ (chain:=chain) (n:=l.length) hs l.length (Nat.le_refl _) h24
  have h2:=kL_ (chain:=chain) (n:=l.length) (l:=l) l.length (Nat.le_refl _)
  have h3:=gn_ hc (n:=l.length) hs (fun x hx=>ht_ (hn x hx)) l.length (Nat.le_refl _) h24
  rw [List.take_length] at h1 h2 h3
  refine ⟨h3,h1.1,h1.2.1,by have:=h1.2.2;unfold bL_;omega,h2,fun o ho=>hn (o.kind,o.l) ?_⟩
  have:(o.kind,o.l) ∈ (U_ chain l.length l).os.map (fun o=>(o.kind,o.l)):=List.mem_map.2 ⟨o,ho,rfl⟩
  rwa [h2] at this
theorem Written.item {chain:Int} {l:List IV} (h:Written chain l) {k:Nat} {o:Ob} (ho:(bL_ chain l).os[k]?=some o):l[k]?=some (o.kind,o.l):=by
  have h1:((bL_ chain l).os.map (fun o=>(o.kind,o.l)))[k]?=some (o.kind,o.l):=by rw [List.getElem?_map,ho];rfl
  rwa [h.items] at h1
theorem Written.read {chain:Int} {l:List IV} (h:Written chain l) {k:Nat} {o:Ob} (ho:(bL_ chain l).os[k]?=some o):readP (cs_ chain l) (o.at_:Int)=(o.kind,o.l,0) :=
  read_laid (Sha.ai_ _) h.lo (by have:=h.hi;omega) h.inv k o ho 8 (h.inv.each k o ho).dep
end Pak
namespace Pak
open Go.RowKit Zk Zx
open Sha (N bC_ cu_ cZ_ dN_ dM_)
open Go.Proofs.YtgaklngnfecdaaaGreat.Obj (ad_ bG_ aC_ V_ az_ aL_ zB A_ aI_)
open Oct (vaN rwL rwP rwE rnL rnP rnE be vr tl x_)
open Del (scA opf OP OkO mkV bm_ cy_ ag_ bW_)
theorem add_ (g:Nat) (A:Option Addr) (n c:Nat) (A1:Option Addr) (c1:Nat) (A2:Option Addr) (c2:Nat) (A3:Option Addr) (c3:Nat) (its:List It) (s:Pk) (x:It) (chain:Int) (w0:World) (hw:(sepL (pkL g A n c A1 c1 A2 c2 A3 c3 its s)).holds w0) (hio:Same its s.os) (hits:∀ y ∈ its,OkM w0 (sepL (pkL g A n c A1 c1 A2 c2 A3 c3 its s)).dom y.p) (hsm:∀ y ∈ its,y.p.n≤300) (hp:OkM w0 (sepL (pkL g A n c A1 c1 A2 c2 A3 c3 its s)).dom x.p) (hp3:x.p.n≤300) (hk:1≤x.kind∧x.kind≤4) (hc8:chain≤8) (hbl:s.bs.length≤20000) (hil:its.length≤1000) (hat:∀ o ∈ s.os,o.at_≤s.bs.length):Calls Tryz.prog 57 #[.pointer (some ⟨g,0,none⟩),.agg (itf x).toArray,.agg (bA (aC_ x.kind x.p.l)),.int .i64 chain] w0 fun e w'=>∃ u,e=.returned u∧u=.tuple #[]∧∃ A' n' c' A1' c1' A2' c2' A3' c3',Turned w0 w' (sepL (pkL g A n c A1 c1 A2 c2 A3 c3 its s)) (sepL (pkL g A' n' c' A1' c1' A2' c2' A3' c3' (its++[x]) (bR_ chain s (x.kind,x.p.l)))):=by
  rcases (fc_ s.os chain x.kind x.p.l).1 with ⟨h1,_⟩ | ⟨k,o,h1,ho,_,hd,_⟩
  · exact add0 g A n c A1 c1 A2 c2 A3 c3 its s x chain w0 hw hio hits hsm hp hp3 hk hc8 hbl hil hat h1
  · exact add1 g A n c A1 c1 A2 c2 A3 c3 its s x chain w0 hw hio hits hsm hp hp3 hk hc8 hbl hil hat k o h1 ho hd
theorem names_bad {w0 w':World} {l:List IV} {u:Value} (h:NamesV w0 w' l u) (he:cf_ l≠0):u=.tuple #[.slice none 0 0,.int .i64 (cf_ l)]:=by
  rcases h with ⟨_,h⟩ | ⟨h,_⟩
  · exact h
  · exact absurd h he
theorem names_good {w0 w':World} {l:List IV} {u:Value} (h:NamesV w0 w' l u) (he:cf_ l=0):∃ A c,u=.tuple #[.slice A l.length c,.int .i64 0]∧w'.ownsRow w0.heap.size 41 32 (.slice A l.length c) l.length (l.flatMap idB):=by
  rcases h with ⟨h,_⟩ | ⟨_,h⟩
  · exact absurd he h
  · exact h
structure PKM where
  A:Option Addr
  n:Nat
  c:Nat
  A1:Option Addr
  c1:Nat
  A2:Option Addr
  c2:Nat
  A3:Option Addr
  c3:Nat
def WriteV (w0 w':World) (chain:Int) (l:List IV) (u:Value):Prop:=(wrE chain l≠0∧Like w0 w'∧u=.tuple #[.slice none 0 0,.slice none 0 0,.int .i64 (wrE chain l)]) ∨
  (wrE chain l=0∧∃ A c A2 c2,u=.tuple #[.slice A (cs_ chain l).length c,.slice A2 l.length c2,.int .i64 0]∧Zx.St w0 noM [row 5 1 A (cs_ chain l).length c (bL (cs_ chain l)),row 67 34 A2 l.length c2 ((bL_ chain l).os.flatMap plO)] w')
theorem okM_of {w0 w:World} {ps rs:List Res} (S:Zx.St w0 noM (ps++rs) w) {p:Part} (h:p.ok w0):OkM w (sepL rs).dom p:=by
  refine ⟨S.rd h,fun ad hn hA ⟨r,hr,hd⟩=>?_⟩
  have h1:=dP_ h hn hA
  have h2:=(S.res r (List.mem_append_right _ hr)).2 _ hd
  rcases h2.2 with h3 | h3
  · omega
  · exact h3
theorem ka_ {its:List It} {chain:Int} {n k:Nat} (hk:k≤its.length):Same (its.take k) (U_ chain n ((its.map It.v).take k)).os:=by
  unfold Same
  rw [List.map_take]
  exact (kL_ (chain:=chain) (n:=n) (l:=its.map It.v) k (by simpa using hk)).symm
theorem rs_dig {w:World} {b t:Nat} {l:List UInt8} (h:Blk w b t (bA (Sha.ofL l))):Rs w 1 (some ⟨b,0,none⟩) 32 32 (bL (Sha.ofL l)):=by
  have h1:(bL (Sha.ofL l)).length=32:=by rw [length_bL];exact Sha.ai_ l
  have:=Rs.of_blk (o:=0) (n:=32) h (by show 0+32≤(bL (Sha.ofL l)).toArray.size;rw [List.size_toArray,h1];omega) (by omega)
  rwa [List.drop_zero,show (bA (Sha.ofL l)).toList=bL (Sha.ofL l) from List.toList_toArray ..,List.take_of_length_le (by rw [h1];omega)] at this
theorem take1i {α:Type} {l:List α} {k:Nat} {x : α} (h:l[k]?=some x):l.take (k+1)=l.take k++[x]:=by rw [List.take_add_one,h];rfl
theorem cat1 (A:Option Addr) (n c:Nat) (l:List UInt8):Sha.cat [⟨A,n,c,l⟩]=l:=by simp [Sha.cat]
theorem write0 (A:Option Addr) (n c:Nat) (its:List It) (chain:Int) (w0:World) (hits:Rs w0 2 A n c (its.flatMap itf)) (hok:OkI w0 its) (hsm:∀ x ∈ its,x.p.n≤300) (h24:its.length≤24) (hne:cf_ (its.map It.v)≠0) :
    Calls Tryz.prog 28 #[.slice A n c,.int .i64 chain] w0 fun e w'=>∃ u,e=.returned u∧WriteV w0 w' chain (its.map It.v) u:=by
 refine v_ (env:=[(0,.slice A n c),(1,.int .i64 chain)]) [.slice A n c,.int .i64 chain] Tryz.func28 Z Tryz.ntmps28 Z Z ?_;have hn:=cL_ hits;have hcap:=hits.cap;have hmax:=hits.max;have S0:=St.start w0 noM;refine a_ fun K1 hK1=>b_ (La Z Z (La Z Z (Lan Z Z (hK1 _ _ (a_ fun K2 hK2=>a_ fun K3 hK3=>Rm Z Z (L_y (L_ Z Z) Z (Lm Z Z ?_)))))));refine y_ 16 Z (fun h16=>?_) (fun h16=>?_)
 ·
  refine h_ Z Z Z (h_ Z Z Z (Lp Z Z Z (f_ (hK3 _ _ (W_ Z (a_ fun K4 hK4=>b_ (La Z Z (La Z Z (Lan Z Z (hK4 _ _ (l_ ?_)))))))))));refine ur (cN_ Z Z Z Z ?_);have he:wrE chain (its.map It.v)=2:=by unfold wrE;rw [if_pos (by omega)]
  exact ⟨_,rfl,.inl ⟨by rw [he];decide,S0.like0,by rw [he]⟩⟩
 ·
  refine d_ Z Z (Lm Z Z (d_ Z Z (L_y (Z_ Z Z) Z (Lp Z Z Z (f_ (hK3 _ _ ?_))))));refine o_ Z (fun h19=>?_) (fun h19=>?_)
  ·
   refine a_ fun K5 hK5=>b_ (La Z Z (La Z Z (Lan Z Z (hK5 _ _ (l_ (ur (cN_ Z Z Z Z ?_)))))));have he:wrE chain (its.map It.v)=2:=by unfold wrE;rw [if_pos (by omega)]
   exact ⟨_,rfl,.inl ⟨by rw [he];decide,S0.like0,by rw [he]⟩⟩
  ·
   refine j_ (hK2 _ _ (a_ fun K6 hK6=>a_ fun K7 hK7=>Rm Z Z (L_y (I_ Tryz.underlying48 Z) Z (L_y (Z_ Z Z) Z (f_ (hK7 _ _ ?_))))));refine o_ Z (fun h22=>?_) (fun h22=>?_)
   ·
    omega
   ·
    refine j_ (hK6 _ _ (a_ fun K8 hK8=>Rm Z Z (L_o (n_ Tryz.func54 Z Z (names A n c its w0 (S0.rd hits) (OkI.like hok S0.like0) (fun y hy=>by have:=hsm y hy;omega) (by omega)) Z Z ?_))));rintro e2 w2 ⟨v2,rfl,l2,hN2⟩;refine ⟨_,rfl,?_⟩;have S2:=S0.like l2;obtain rfl:=names_bad hN2 hne;refine Lm Z Z (L_y (m_ Z Z) Z (L_y (m_ Z Z) Z (La Z Z (Lan Z Z (hK8 _ _ (a_ fun K9 hK9=>a_ fun K10 hK10=>Rm Z Z (L_y (ab_ Z Z) Z (f_ (hK10 _ _ ?_)))))))));refine o_ Z (fun h29=>?_) (fun h29=>?_)
    ·
     refine a_ fun K11 hK11=>Rm Z Z (La Z Z (La Z Z (Lan Z Z (hK11 _ _ (l_ (ur (cN_ Z Z Z Z ?_)))))));have he:wrE chain (its.map It.v)=cf_ (its.map It.v):=by unfold wrE;rw [if_neg (by omega)]
     exact ⟨_,rfl,.inl ⟨by rw [he];exact hne,S2.like0,by rw [he];rfl⟩⟩
    ·
     exact absurd hne h29
theorem write1 (A:Option Addr) (n c:Nat) (its:List It) (chain:Int) (w0:World) (hits:Rs w0 2 A n c (its.flatMap itf)) (hok:OkI w0 its) (hsm:∀ x ∈ its,x.p.n≤300) (h24:its.length≤24) (hne:cf_ (its.map It.v)=0) :
    Calls Tryz.prog 28 #[.slice A n c,.int .i64 chain] w0 fun e w'=>∃ u,e=.returned u∧WriteV w0 w' chain (its.map It.v) u:=by
 refine v_ (env:=[(0,.slice A n c),(1,.int .i64 chain)]) [.slice A n c,.int .i64 chain] Tryz.func28 Z Tryz.ntmps28 Z Z ?_;have hn:=cL_ hits;have hcap:=hits.cap;have hmax:=hits.max;have hvl:(its.map It.v).length=n:=by rw [List.length_map];exact hn.symm
 obtain ⟨hall,_⟩:=nameE_ok hne;have hs3:∀ y ∈ (its.map It.v),y.2.length≤300:=fun y hy=>by obtain ⟨z,hz,rfl⟩:=List.mem_map.1 hy;have h1:=(hok z hz).lenb;have h2:=hsm z hz;show z.p.l.length≤300;omega
 have hinv:=fun (k:Nat) (hk:k≤n)=>fP_ (chain:=chain) (n:=n) hs3 k (by omega) (by omega);have hlaid:=fun (hc8:chain≤8) (k:Nat) (hk:k≤n)=>gn_ hc8 (n:=n) hs3 (fun y hy=>ht_ (hall y hy)) k (by omega) (by omega);have S0:=St.start w0 noM;refine a_ fun K1 hK1=>b_ (La Z Z (La Z Z (Lan Z Z (hK1 _ _ (a_ fun K2 hK2=>a_ fun K3 hK3=>Rm Z Z (L_y (L_ Z Z) Z (Lm Z Z ?_)))))));refine y_ 16 Z (fun h16=>?_) (fun h16=>?_)
 ·
  refine h_ Z Z Z (h_ Z Z Z (Lp Z Z Z (f_ (hK3 _ _ (W_ Z (a_ fun K4 hK4=>b_ (La Z Z (La Z Z (Lan Z Z (hK4 _ _ (l_ ?_)))))))))));refine ur (cN_ Z Z Z Z ?_);have he:wrE chain (its.map It.v)=2:=by unfold wrE;rw [if_pos (by omega)]
  exact ⟨_,rfl,.inl ⟨by rw [he];decide,S0.like0,by rw [he]⟩⟩
 ·
  refine d_ Z Z (Lm Z Z (d_ Z Z (L_y (Z_ Z Z) Z (Lp Z Z Z (f_ (hK3 _ _ ?_))))));refine o_ Z (fun h19=>?_) (fun h19=>?_)
  ·
   refine a_ fun K5 hK5=>b_ (La Z Z (La Z Z (Lan Z Z (hK5 _ _ (l_ (ur (cN_ Z Z Z Z ?_)))))));have he:wrE chain (its.map It.v)=2:=by unfold wrE;rw [if_pos (by omega)]
   exact ⟨_,rfl,.inl ⟨by rw [he];decide,S0.like0,by rw [he]⟩⟩
  ·
   refine j_ (hK2 _ _ (a_ fun K6 hK6=>a_ fun K7 hK7=>Rm Z Z (L_y (I_ Tryz.underlying48 Z) Z (L_y (Z_ Z Z) Z (f_ (hK7 _ _ ?_))))));refine o_ Z (fun h22=>?_) (fun h22=>?_)
   ·
    omega
   ·
    refine j_ (hK6 _ _ (a_ fun K8 hK8=>Rm Z Z (L_o (n_ Tryz.func54 Z Z (names A n c its w0 (S0.rd hits) (OkI.like hok S0.like0) (fun y hy=>by have:=hsm y hy;omega) (by omega)) Z Z ?_))));rintro e2 w2 ⟨v2,rfl,l2,hN2⟩;refine ⟨_,rfl,?_⟩;have S2:=S0.like l2;obtain ⟨A7,c7,rfl,O7⟩:=names_good hN2 hne;have S3:=S0.adopt l2 O7;refine Lm Z Z (L_y (m_ Z Z) Z (L_y (m_ Z Z) Z (La Z Z (Lan Z Z (hK8 _ _ (a_ fun K9 hK9=>a_ fun K10 hK10=>Rm Z Z (L_y (ab_ Z Z) Z (f_ (hK10 _ _ ?_)))))))));refine o_ Z (fun h29=>?_) (fun h29=>?_)
    ·
     exact absurd Z h29
    ·
     refine j_ (hK9 _ _ (a_ fun K11 hK11=>b_ (L_y (C_ Z (show _=some #[Value.slice none 0 0,.slice none 0 0,.slice none 0 0,.slice none 0 0] by kernel_rfl)) Z (L_o (bO_ Z S3 Z fun b4 w4 hb4 S4=>have S5:=(((S4.nilrow 65 2).nilrow 67 34).nilrow 3 1).nilrow 5 1;have S5a:=S5.sel [0,2,3,4,1,5] (by decide);have S5b:Zx.St w0 noM [row 41 32 A7 (its.map It.v).length c7 ((its.map It.v).flatMap idB),row 65 2 none 0 0 [],row 67 34 none 0 0 [],row 3 1 none 0 0 [],wu (.slice none 0 0) (.slice none 0 0) (.slice none 0 0) b4 none 0 0 []] w4:=St.joinL (ps:=[_,_,_,_]) S5a;Lan Z Z (hK11 _ _ (a_ fun K12 hK12=>b_ ?_)))))));refine Lm Z Z (L_y (E_ Z) Z (L_y (g_ 0 Tryz.underlying113 Z dI_ Z Z Z) Z (L_o (ah_ [_,_,_,_] ba_ zz5 S5b Z Z Z Z Z Z Z Z fun b6 w6 S6=>L_o (jr_ S6 5 Z Tryz.underlying22 Tryz.underlying5 Z (by omega) Z fun w7 S7=>L_o (n_ Tryz.func55 Z Z (wrawW b4 none 0 0 ([]) _ _ _ [80,65,67,75] w7 (S7.get 4 Z) (S7.fix 5 Z) (by simp only [List.length_append,List.length_cons,List.length_nil,x_];omega)) Z Z ?_))))));rintro e8 w8 ⟨v8,rfl,A8,n8,c8,T8⟩;refine ⟨_,rfl,(have S8:=S7.turn 4 Z T8;f_ (hK12 _ _ (a_ fun K13 hK13=>Rm Z Z (L_y (E_ Z) Z (L_y (g_ 0 Tryz.underlying113 Z dI_ Z Z Z) Z (L_o (n_ Tryz.func56 Z Z (wu32W b4 A8 n8 c8 ([]++[80,65,67,75]) 1 w8 (S8.get 4 Z) (by omega) (by simp only [List.length_append,List.length_cons,List.length_nil,x_];omega)) Z Z ?_)))))))⟩;rintro e9 w9 ⟨v9,rfl,A9,n9,c9,T9⟩;refine ⟨_,rfl,(have S9:=S8.turn 4 Z T9;f_ (hK13 _ _ (a_ fun K14 hK14=>Rm Z Z (L_y (E_ Z) Z (L_y (g_ 0 Tryz.underlying113 Z dI_ Z Z Z) Z (Lm Z Z (L_y (I_ Tryz.underlying48 Z) Z (L_y (P_ is3 Tryz.underlying63 Z (u32w (by omega))) Z (L_o (n_ Tryz.func56 Z Z (wu32W b4 A9 n9 c9 ([]++[80,65,67,75]++tl 1 4) n w9 (S9.get 4 Z) (by omega) (by simp only [List.length_append,List.length_cons,List.length_nil,x_];omega)) Z Z ?_))))))))))⟩;rintro e10 w10 ⟨v10,rfl,A10,n10,c10,T10⟩;refine ⟨_,rfl,(have S10:=S9.turn 4 Z T10;f_ (hK14 _ _ (a_ fun K15 hK15=>a_ fun K16 hK16=>Rm Z Z (L_y (I_ Tryz.underlying48 Z) Z (Lm Z Z (f_ (hK16 _ _ (r_ ?_))))))))⟩;refine bX_ [(1,_),(7,_),(9,_),(50,_),(51,_)] (fun (k:Nat) (m:PKM)=>[(52,.int .i64 (k:Int))]) (fun (k:Nat) (m:PKM)=>n - k) (fun (k:Nat) (m:PKM) (w:World)=>k≤n∧Zx.St w0 noM ([row 41 32 A7 (its.map It.v).length c7 ((its.map It.v).flatMap idB)]++pkL b4 m.A m.n m.c m.A1 m.c1 m.A2 m.c2 m.A3 m.c3 (its.take k) (U_ chain n ((its.map It.v).take k))) w) 0 ⟨A10,n10,c10,none,0,none,0,none,0⟩ (Sc Z (Sub.nil _)) (Sub.cons Z Z (Sub.cons Z Z (Sub.cons Z Z (Sub.cons Z Z (Sub.cons Z Z (Sub.nil _)))))) ?_ ?_
     ·
      have S11:=S10.sel [0,1,2,3,4] (by decide);have S70:Zx.St w0 noM ([row 41 32 A7 (its.map It.v).length c7 ((its.map It.v).flatMap idB)]++pkL b4 A10 n10 c10 none 0 none 0 none 0 (its.take 0) (U_ chain n ((its.map It.v).take 0))) w10:=S11.cast (by rw [List.take_zero,List.take_zero];first | rfl | simp [pkL,U_,gT_]);exact ⟨by omega,S70⟩
     ·
      intro k m w12 hrel;obtain ⟨hk,S12⟩:=hrel;refine a_ fun K17 hK17=>b_ (L_y (L_ Z Z) Z (f_ (hK17 _ _ (a_ fun K18 hK18=>?_))));refine o_ Z (fun h53=>?_) (fun h53=>?_)
      ·
       obtain ⟨x,hx⟩:∃ x,its[k]?=some x:=⟨_,List.getElem?_eq_getElem (by omega)⟩;have hxo:=hok x (List.mem_of_getElem? hx);have hxs:=hsm x (List.mem_of_getElem? hx);have hkd:=ht_ (hall _ (List.mem_of_getElem? (cc_ hx)));obtain ⟨i1,i2,i3⟩:=hinv k (by omega);obtain ⟨j1,j2,j3⟩:=hinv (k+1) (by omega);have hla:=hlaid (by omega) k (by omega);refine j_ (hK18 _ _ (a_ fun K19 hK19=>r_ (a_ fun K20 hK20=>Rm Z Z (L_y (T_ Tryz.underlying48 gx_ Z Z (S12.rd hits) inferInstance (by omega)) Z (L_y (cp_ (f:=itf) bU_ Tryz.underlying65 Z gx_ Z (S12.rd hits) (by omega) hx) Z (L_o (H_ zz65 S12 Z fun b13 w13 hb13 S13=>La Z Z (L_o (G_ S13 5 Z Z Z gx_ (by rfl) (fun u hu=>hu_ x u (by rw [List.toList_toArray] at hu;exact hu)) fun w14 S14=>?_)))))))));refine f_ (hK20 _ _ (a_ fun K21 hK21=>gb_ 7 aS_ (by kernel_rfl) fun w15 l15 K22 hK22=>have S15:=S14.like l15;al_ (p_ Z) Z (al_ (Y_ Tryz.underlying65 Z gx_ Z (S15.blk 5 Z) (show _=itf x∧_ from ⟨rfl,rfl⟩)) Z (al_ (p_ Z) Z (al_ (p_ Z) Z (al_ (T_ Tryz.underlying81 ao_ Z Z (S15.row 0 Z) inferInstance (by omega)) Z (al_ (cp_ (f:=idB) du_ Tryz.underlying41 Z ao_ Z (S15.row 0 Z) (by omega) (cc_ hx)) Z (al_ (p_ Z) Z (gd_ (hK22 _ ?_))))))))));have Sq16:Zx.St w0 noM ([_,_]++pkL b4 m.A m.n m.c m.A1 m.c1 m.A2 m.c2 m.A3 m.c3 (its.take k) (U_ chain n ((its.map It.v).take k))) w15:=S15.sel [0,5,1,2,3,4] (by decide);refine L_o (n_ Tryz.func57 Z Z (add_ b4 m.A m.n m.c m.A1 m.c1 m.A2 m.c2 m.A3 m.c3 (its.take k) (U_ chain n ((its.map It.v).take k)) x chain w15 (St.getL (ps:=[_,_]) Sq16) (ka_ (by omega)) (fun y hy=>okM_of (ps:=[_,_]) Sq16 (hok y (List.mem_of_mem_take hy))) (fun y hy=>hsm y (List.mem_of_mem_take hy)) (okM_of (ps:=[_,_]) Sq16 hxo) hxs hkd (by omega) (by omega) (by rw [List.length_take];omega) (fun y hy=>by obtain ⟨j,hj⟩:=List.mem_iff_getElem?.1 hy;exact Nat.le_of_lt (hla.each j y hj).lt)) Z Z ?_);rintro e16 w16 ⟨v16,rfl,rfl,A16,n16,c16,AA16,ca16,AB16,cb16,AC16,cc16,T16⟩;refine ⟨_,rfl,?_⟩;have S16:=St.turnL (ps:=[_,_]) Sq16 T16;have hnk:=ew_ (S16.get 5 Z);rw [← bA_ (n:=n) (cc_ hx)] at hnk;refine f_ (hK21 _ _ (a_ fun K23 hK23=>Rm Z Z (L_y (E_ Z) Z (L_y (g_ 0 Tryz.underlying113 Z dI_ Z Z Z) Z (L_o (n_ Tryz.func58 Z Z (wlenW b4 _ _ _ _ w16 (S16.get 5 Z)) Z Z ?_))))));rintro e17 w17 ⟨v17,rfl,l17,rfl⟩;refine ⟨_,rfl,(have S17:=S16.like l17;L_y (Z_ Z Z) Z (f_ (hK23 _ _ ?_)))⟩;refine o_ Z (fun h69=>?_) (fun h69=>?_)
       ·
        omega
       ·
        refine j_ (hK19 _ _ (b_ (L_y (w_ Z Z (z_ (by omega))) Z (Lm Z Z (f_ ?_)))));have S91:Zx.St w0 noM ([row 41 32 A7 (its.map It.v).length c7 ((its.map It.v).flatMap idB)]++pkL b4 _ _ _ _ _ _ _ _ _ (its.take k++[x]) (bR_ chain (U_ chain n ((its.map It.v).take k)) (x.kind,x.p.l))) w17:=S17.sel [0,2,3,4,5] (by decide);rw [← bA_ (n:=n) (cc_ hx), ← take1i hx] at S91;refine ⟨k+1,⟨_,_,_,_,_,_,_,_,_⟩,by omega,⟨by omega,S91⟩,?_⟩;exact (Sc Z (Sub.cons Z Z (Sub.cons Z Z (Sub.cons Z Z (Sub.cons Z Z (Sub.cons Z Z (Sub.nil _)))))))
      ·
       have hW:Written chain (its.map It.v):=written (by omega) (by omega) hs3 hall;have hke:k=n:=by omega
       subst hke;rw [List.take_of_length_le (l:=its) (by omega),List.take_of_length_le (l:=(its.map It.v)) (by omega)] at S12;subst hvl;have hnb:(bL_ chain (its.map It.v)).bs.length=m.n:=ew_ (S12.get 4 Z);have hWl:=hW.hi;refine K_ (hK15 _ _ (a_ fun K24 hK24=>Rm Z Z (L_y (E_ Z) Z (L_y (g_ 0 Tryz.underlying113 Z dI_ Z Z Z) Z (L_o (n_ Tryz.func59 Z Z (wbytesW b4 _ _ _ _ w12 (S12.get 4 Z) (Nat.le_trans hWl (by decide))) Z Z ?_))))));rintro e18 w18 ⟨v18,rfl,l18,A18,m18,c18,rfl,O18⟩;refine ⟨_,rfl,(have S18:=S12.adopt l18 O18;have hm18:(bL_ chain (its.map It.v)).bs.length=m18:=(S18.row 5 Z).lenb;Lan Z Z (hK24 _ _ (a_ fun K25 hK25=>Rm Z Z (L_o (ah_ [_] cS_ eW_ S18 Z Z Z Z Z Z Z Z fun b19 w19 S19=>L_o (n_ Tryz.func50 Z Z (Sha.shaof [⟨_,_,_,(bL_ chain (its.map It.v)).bs⟩] _ _ _ w19 (S19.row 6 Z) (fun p hp=>by obtain rfl:=List.mem_singleton.1 hp;exact S19.row 5 Z) (by rw [cat1];omega) (by simp)) Z Z ?_))))))⟩;rintro e20 w20 ⟨v20,rfl,l20,hu20⟩;refine ⟨_,rfl,?_⟩;have S20:=S19.like l20;rw [cat1] at hu20;subst hu20;refine L_o (H_ dK_ S20 Z fun b21 w21 hb21 S21=>have S22:=S21.blkc 7 Z (cs':=bA zB) (by kernel_rfl);L_o (G_ S22 7 Z Z Z (by first | exact ao_ | (rw [size_bA,Sha.ai_];exact ao_)) (by first | rfl | (rw [size_bA,size_bA,Sha.ai_];rfl)) (Sha.eg_ _) fun w23 S23=>?_));refine f_ (hK25 _ _ (a_ fun K26 hK26=>T_drawn (fun w=>Blk w b4 113 #[.slice m.A m.n m.c,.slice m.A1 its.length m.c1,.slice m.A2 (bL_ chain (its.map It.v)).os.length m.c2,.slice m.A3 (bL_ chain (its.map It.v)).os.length m.c3]) [(0,true),(1,true),(3,true),(4,true),(5,true),(6,true),(2,false),(7,true),(8,true),(9,true)] aS_ (by kernel_rfl) (fun w l=>((S23.like l).get 4 Z).1) fun w24 l24=>have S24:=S23.like l24;u_ Z (p_ Z) Z (u_ Z (gY_ Tryz.underlying41 sz5 Z) Z (u_ Z (p_ Z) Z (u_ Z (E_ Z) Z (u_ Z (g_ 2 Tryz.underlying113 Z sz50 Z Z Z) Z (u_ Z (y_ldS Tryz.underlying50 Z Z (fun w h=>(h.cell _).trans (by rfl))) Z ?_)))))));refine eH_ Z (ay_ ba_ S24 5 Z Z Z (rs_dig (S24.blk 7 Z)) (R_ _) Z (by omega) (by omega) fun A25 c25 w25 S25=>⟨(S25.get 4 Z).1,(u_ Z (J_ Z) Z (u_ Z (J_ Z) Z (u_ Z (J_ Z) Z (aH_ (hK26 _ _ (l_ (ur (cN_ Z Z Z Z ?_))))))))⟩);have he:wrE chain (its.map It.v)=0:=by unfold wrE;rw [if_neg (by omega),hne]
       have S90:=S25.sel [5,2] (by decide);have hpl:(cs_ chain (its.map It.v)).length=(bL_ chain (its.map It.v)).bs.length+32:=by unfold cs_;rw [List.length_append,Sha.ai_]
       have S91:=S90.rowc 0 Z (n':=(cs_ chain (its.map It.v)).length) (xs':=bL (cs_ chain (its.map It.v))) (by rw [hpl];omega) (by unfold cs_;unfold bL;rw [List.map_append];rfl);have S92:=S91.rowc 1 Z (n':=(its.map It.v).length) (xs':=(bL_ chain (its.map It.v)).os.flatMap plO) hW.cnt Z;refine ⟨_,rfl,.inr ⟨he,_,_,_,_,?_,S92⟩⟩;rw [hpl,hm18,hW.cnt];rfl
end Pak
namespace Pak
open Go.RowKit Zk Zx
open Sha (N bC_ cu_ cZ_ dN_ dM_)
open Go.Proofs.YtgaklngnfecdaaaGreat.Obj (ad_ bG_ aC_ V_ az_ aL_ zB A_ aI_)
open Oct (vaN rwL rwP rwE rnL rnP rnE be vr tl x_)
open Del (scA opf OP OkO mkV bm_ cy_ ag_ bW_)
open Oct (rdr dC_ ck_)
def enA (x:EV) (q:Part):Array Value := #[.int .i64 x.kind,.int .i64 x.base,.int .i64 (x.fin:Int),.int .u32 (N x.sum),pv q]
theorem bV_ (x:EV) (q:Part):∀ u ∈ (enA x q).toList,u.oneCell'=true:=fun u hu=>by
  simp [enA,pv] at hu
  rcases hu with rfl | rfl | rfl | rfl | rfl <;> rfl
def zA:Array Value := #[.int .i64 0,.int .i64 0,.int .i64 0,.int .u32 0,.slice none 0 0]
def it_ (w0 w:World) (q:Part):Prop:=q.ok w∧∀ ad,0 < q.n→q.A=some ad→w0.heap.size≤ad.block
theorem fresh0 (w0 w:World):it_ w0 w p0:=⟨cd_ (World.ownsRow_nil w 0 5 1),fun ad h=>by cases h⟩
def EntryV (w0 w':World) (r:Int × EV) (u:Value):Prop:=∃ q:Part,u=.tuple #[.agg (enA r.2 q),.int .i64 r.1]∧q.l=r.2.load∧it_ w0 w' q
theorem blkM {w0 w:World} {M:Nat→Prop} {rs:List Res} (S:Zx.St w0 M rs w) {g t:Nat} {cs:Array Value} (h:Blk w0 g t cs) (hM:¬ M g):Blk w g t cs:=(S.old g h.lt hM).trans h
theorem addN {a b:Nat} (h:a+b≤1000000000):IntKind.i64.wrap ((a:Int)+(b:Int))=((a+b:Nat):Int):=by
  exact (z_ (by omega):IntKind.i64.wrap ((a:Int)+(b:Int))=(a:Int)+(b:Int))
theorem rnP_le (l:List UInt8) (p q:Nat) (m:Int) (hp:p≤l.length):rnP l p q m≤l.length:=by
  unfold rnP Oct.rwP
  split
  · exact hp
  · split
    · exact Oct.tkP_le l p _ hp
    · exact hp
theorem rwP_le (l:List UInt8) (p q k:Nat) (hp:p≤l.length):rwP l p q k≤l.length:=by
  unfold Oct.rwP
  split
  · exact Oct.tkP_le l p _ hp
  · exact hp
theorem rbyte1 (g:Nat) (A:Option Addr) (n c:Nat) (l:List UInt8) (p:Nat) (x:UInt8) (w0:World) (hw:(rdr g A n c l p 0).holds w0) (hx:l[p]?=some x) (hn62:n≤4611686018427387904) :
    Calls Tryz.prog 127 #[.pointer (some ⟨g,0,none⟩)] w0 fun e w'=>∃ u,e=.returned u∧u=.int .u8 (x.toNat:Int)∧Turned w0 w' (rdr g A n c l p 0) (rdr g A n c l (p+1) 0):=by
  have hp:=(List.getElem?_eq_some_iff.1 hx).1
  refine (Oct.rbyte g A n c l p 0 w0 hw (by omega) hn62).mono fun e w' ⟨u,h1,h2,h3⟩=>⟨u,h1,?_,?_⟩
  · obtain ⟨y,hy,htk,_⟩:=Oct.tk_one (show 1≤l.length - p by omega)
    rw [hx] at hy
    obtain rfl:=Option.some.inj hy
    rw [h2,Oct.rwL,if_pos Z,htk]
    simp [be]
  · exact Oct.Rdd.turned h3 (by rw [Oct.rwP,if_pos Z,Oct.tkP,if_pos (by omega)]) (by rw [Oct.rwE,if_pos Z,Oct.iX_ (by omega)])
theorem crcN {p:Part} {v:Nat} (h:N (crcP [p])≠(v:Int)):(aU_ p.l).toNat≠v:=fun q=>h (by show ((aU_ p.l).toNat:Int)=_;rw [q])
theorem crcE {p:Part} {v:Nat} (h:¬ N (crcP [p])≠(v:Int)):(aU_ p.l).toNat=v:=by
  have h1:=Classical.not_not.1 h
  have h2:((aU_ p.l).toNat:Int)=(v:Int):=h1
  omega
theorem at9 (g:Nat) (A:Option Addr) (n c:Nat) (l:List UInt8) (p q:Nat) (w0:World) (hw:(rdr g A n c l p q).holds w0) :
    Calls Tryz.prog 130 #[.pointer (some ⟨g,0,none⟩)] w0 fun e w'=>∃ u,e=.returned u∧Like w0 w'∧u=.int .i64 (p:Int):=by
 refine v_ (env:=[(0,.pointer (some ⟨g,0,none⟩))]) [.pointer (some ⟨g,0,none⟩)] Tryz.func130 Z Tryz.ntmps130 Z Z ?_;have S0:=St.start w0 noM;refine a_ fun K1 hK1=>b_ (Lan Z Z (hK1 _ _ (a_ fun K2 hK2=>a_ fun K3 hK3=>Rm Z Z (L_y (eY_ Tryz.underlying172 Z) Z (f_ (hK3 _ _ (aW_ Z (j_ ?_))))))));refine hK2 _ _ (a_ fun K4 hK4=>Rm Z Z (L_y (E_ Z) Z (L_y (g_ 1 Tryz.underlying218 Z sz3 Z Z Z) Z (L_y (t_ Tryz.underlying3 Z Z ((hw.1.cell _).trans (by rfl))) Z ?_))));refine Lan Z Z (hK4 _ _ (l_ (ur (F_ Z Z ?_))));exact ⟨_,rfl,S0.like0,rfl⟩
theorem entry (gc g:Nat) (A:Option Addr) (n c:Nat) (t:List UInt8) (at_:Nat) (deep:Bool) (x:UInt8) (w0:World) (hw:(rdr g A n c t 0 0).holds w0) (hcur:Blk w0 gc 175 #[.pointer (some ⟨g,0,none⟩),.int .i64 (at_:Int)]) (hcg:¬ (rdr g A n c t 0 0).dom gc) (hx:t[0]?=some x) (hn5:n≤100000) (hat:at_≤1000000) :
    Calls Tryz.prog 97 #[.pointer (some ⟨gc,0,none⟩),.bool deep] w0 fun e w'=>∃ u,e=.returned u∧∃ p' q',Turned w0 w' (rdr g A n c t 0 0) (rdr g A n c t p' q')∧EntryV w0 w' (opT t x at_ deep) u:=by
 refine v_ (env:=[(0,.pointer (some ⟨gc,0,none⟩)),(1,.bool deep)]) [.pointer (some ⟨gc,0,none⟩),.bool deep] Tryz.func97 Z Tryz.ntmps97 Z Z ?_;have hx9:=x.toNat_lt;have htl:=(List.getElem?_eq_some_iff.1 hx).1;have hnl:=ck_ hw;have S0:=St.borrow1 (rdr g A n c t 0 0) hw (dC_ hw);refine a_ fun K1 hK1=>b_ (L_o (H_ zz127 S0 Z fun b1 w1 hb1 S1=>Lan Z Z (hK1 _ _ (a_ fun K2 hK2=>Rm Z Z (L_y (E_ Z) Z (L_y (g_ 0 Tryz.underlying175 Z fJ_ Z Z Z) Z (L_y (t_ Tryz.underlying172 Z Z (((blkM S1 hcur hcg).cell _).trans (by rfl))) Z ?_)))))));refine L_o (n_ Tryz.func127 Z Z (rbyte1 g A n c t 0 x w1 (S1.get 0 Z) hx (by omega)) Z Z ?_);rintro e2 w2 ⟨v2,rfl,rfl,T2⟩;refine ⟨_,rfl,(have S2:=S1.turn 0 Z T2;L_y (P_ is5 Tryz.underlying3 Z (z_ (by omega))) Z (L_y (C_ Z (show _=some #[.int .i64 (x.toNat:Int),.int .i64 0,.int .i64 0,.int .u32 0,.slice none 0 0] by kernel_rfl)) Z (L_o (H_ zz127 S2 Z fun b3 w3 hb3 S3=>L_o (G_ S3 2 Z Z Z bD_ (by rfl) (by intro u hu;first | (simp [zA] at hu;rcases hu with rfl | rfl | rfl | rfl | rfl <;> rfl) | (simp at hu;rcases hu with rfl | rfl | rfl | rfl | rfl <;> rfl) | exact bV_ _ _ u hu) fun w4 S4=>?_)))))⟩;refine f_ (hK2 _ _ (a_ fun K3 hK3=>a_ fun K4 hK4=>Rm Z Z (L_y (E_ Z) Z (L_y (g_ 0 Tryz.underlying175 Z fJ_ Z Z Z) Z (L_y (t_ Tryz.underlying172 Z Z (((blkM S4 hcur hcg).cell _).trans (by rfl))) Z ?_)))));refine L_o (n_ Tryz.func128 Z Z (Oct.rerr g A n c t (1) (0)  w4 (S4.get 0 Z) (by omega)) Z Z ?_);rintro e5 w5 ⟨v5,rfl,l5,rfl⟩;refine ⟨_,rfl,(have S5:=S4.like l5;Lan Z Z (hK4 _ _ (a_ fun K5 hK5=>Rm Z Z (L_y (ab_ Z Z) Z (f_ (hK5 _ _ ?_))))))⟩;refine o_ Z (fun h23=>?_) (fun h23=>?_)
 ·
  exact absurd Z h23
 ·
  refine j_ (hK3 _ _ (a_ fun K6 hK6=>a_ fun K7 hK7=>b_ (L_y (g_ 0 Tryz.underlying127 Z sz3 Z Z Z) Z (L_y (t_ Tryz.underlying3 Z Z (((S5.blk 2 Z).cell _).trans (by rfl))) Z ?_))));refine L_y (L_ Z Z) Z (Lm Z Z ?_);refine y_ 29 Z (fun h29=>?_) (fun h29=>?_)
  ·
   refine h_ Z Z Z (h_ Z Z Z (h_ Z Z Z (Lp Z Z Z (f_ (hK7 _ _ (W_ Z (a_ fun K8 hK8=>b_ (L_y (C_ Z (show _=some zA by kernel_rfl)) Z (L_o (G_ S5 1 Z Z Z bD_ (by rfl) (by intro u hu;first | (simp [zA] at hu;rcases hu with rfl | rfl | rfl | rfl | rfl <;> rfl) | (simp at hu;rcases hu with rfl | rfl | rfl | rfl | rfl <;> rfl) | exact bV_ _ _ u hu) fun w7 S7=>?_))))))))));refine Lan Z Z (hK8 _ _ (l_ (ur (af_ Z Z Z (S7.blk 1 Z) Tryz.underlying127 Z (by exact bD_) ?_))));have he:opT t x at_ deep=(19,zE):=opT_19 (by omega);exact ⟨_,rfl,_,_,S7.turned1 0 Z,p0,by rw [he];rfl,by rw [he];rfl,fresh0 _ _⟩
  ·
   refine d_ Z Z (L_y (g_ 0 Tryz.underlying127 Z sz3 Z Z Z) Z (d_ Z Z (L_y (t_ Tryz.underlying3 Z Z (((S5.blk 2 Z).cell _).trans (by rfl))) Z ?_)));refine d_ Z Z (L_y (Z_ Z Z) Z (Lp Z Z Z (f_ (hK7 _ _ ?_))));refine o_ Z (fun h33=>?_) (fun h33=>?_)
   ·
    refine a_ fun K9 hK9=>b_ (L_y (C_ Z (show _=some zA by kernel_rfl)) Z (L_o (G_ S5 1 Z Z Z bD_ (by rfl) (by intro u hu;first | (simp [zA] at hu;rcases hu with rfl | rfl | rfl | rfl | rfl <;> rfl) | (simp at hu;rcases hu with rfl | rfl | rfl | rfl | rfl <;> rfl) | exact bV_ _ _ u hu) fun w8 S8=>?_)));refine Lan Z Z (hK9 _ _ (l_ (ur (af_ Z Z Z (S8.blk 1 Z) Tryz.underlying127 Z (by exact bD_) ?_))));have he:opT t x at_ deep=(19,zE):=opT_19 (by omega);exact ⟨_,rfl,_,_,S8.turned1 0 Z,p0,by rw [he];rfl,by rw [he];rfl,fresh0 _ _⟩
   ·
    refine j_ (hK6 _ _ (a_ fun K10 hK10=>Rm Z Z (L_y (E_ Z) Z (L_y (g_ 0 Tryz.underlying175 Z fJ_ Z Z Z) Z (L_y (t_ Tryz.underlying172 Z Z (((blkM S5 hcur hcg).cell _).trans (by rfl))) Z ?_)))));refine L_o (n_ Tryz.func129 Z Z (Oct.rvar g A n c t (1) (0)  4000 w5 (S5.get 0 Z) (by omega) (by omega)) Z Z ?_);rintro e9 w9 ⟨v9,rfl,rfl,T9⟩;refine ⟨_,rfl,(have S9:=S5.turn 0 Z T9;have hv1:=hc_ t 1 0 4000;have hp1:(vaN t 1 0 4000).2.1≤t.length:=Oct.dl_ t 1 0 4000 (by omega);L_y (P_ di_ Tryz.underlying3 Z (z_ (by omega))) Z (Lan Z Z (hK10 _ _ ?_)))⟩;refine T_seqR (fun (e:Env) (w:World)=>∃ (base:Int) (p:Nat) (q:Nat),Sub [(0,.pointer (some ⟨gc,0,none⟩)),(4,.pointer (some ⟨b1,0,none⟩)),(6,.pointer (some ⟨b3,0,none⟩)),(8,.int .i64 ((vaN t 1 0 4000).1:Int))] e∧(opT t x at_ deep=opR t at_ (x.toNat:Int) base (vaN t 1 0 4000).1 p q∧p≤t.length)∧Zx.St w0 (rdr g A n c t 0 0).dom [rdr g A n c t p q,blk b1 127 zA,blk b3 127 #[.int .i64 (x.toNat:Int),.int .i64 base,.int .i64 0,.int .u32 0,.slice none 0 0]] w) ?_ ?_
    ·
     refine a_ fun K12 hK12=>b_ (L_y (g_ 0 Tryz.underlying127 Z sz3 Z Z Z) Z (L_y (t_ Tryz.underlying3 Z Z (((S9.blk 2 Z).cell _).trans (by rfl))) Z ?_));refine L_y (am_ Z Z) Z (f_ (hK12 _ _ ?_));refine o_ Z (fun h43=>?_) (fun h43=>?_)
     ·
      refine a_ fun K13 hK13=>dy_ [0,1,2,3,4,5,6,7,8,9,10,11] 12 [(0,1),(1,1),(2,1),(3,1),(4,1),(5,1),(6,1),(7,1),(8,2),(9,1),(10,1),(11,1),(12,3)] aS_ (by kernel_rfl) fun w10 l10=>have S10:=S9.like l10;ga_ (fun w=>Blk w gc 175 #[.pointer (some ⟨g,0,none⟩),.int .i64 (at_:Int)]) (blkM S10 hcur hcg) (Q_ Z (p_ Z) Z (Q_ Z (E_ Z) Z (Q_ Z (g_ 1 Tryz.underlying175 Z sz3 Z Z Z) Z (Q_ Z (eZ_ fun w hw=>t_ Tryz.underlying3 Z Z ((hw.cell _).trans (by rfl))) Z ?_))));refine Q_ Z (p_ Z) Z (Q_ Z (E_ Z) Z (Q_ Z (g_ 0 Tryz.underlying175 Z fJ_ Z Z Z) Z (Q_ Z (eZ_ fun w hw=>t_ Tryz.underlying172 Z Z ((hw.cell _).trans (by rfl))) Z ?_)));refine fF_ Z (n_ Tryz.func129 Z Z (Oct.rvar g A n c t ((vaN t 1 0 4000).2.1) ((vaN t 1 0 4000).2.2)  1048576 w10 (S10.get 0 Z) hp1 (by omega)) Z Z ?_);rintro e11 w11 ⟨v11,rfl,rfl,T11⟩;refine ⟨_,rfl,(have S11:=S10.turn 0 Z T11;have hv2:=hc_ t (vaN t 1 0 4000).2.1 (vaN t 1 0 4000).2.2 1048576;have hp2:(vaN t (vaN t 1 0 4000).2.1 (vaN t 1 0 4000).2.2 1048576).2.1≤t.length:=Oct.dl_ t _ _ 1048576 hp1;⟨(blkM S11 hcur hcg),(Q_ Z (P_ di_ Tryz.underlying3 Z (z_ (by omega))) Z (Q_ Z (ax_ Z Z (z_ (by omega))) Z (Q_ Z (g_ 1 Tryz.underlying127 Z sz3 Z Z Z) Z (fZ_ Z (ac_ S11 2 Z Z Z Z sz3 (by simp;done) fun w12 S12=>?_)))))⟩)⟩;refine cA_ (hK13 _ _ (a_ fun K14 hK14=>a_ fun K15 hK15=>ak_ [(0,true),(1,true),(2,true),(3,true),(4,false),(5,true),(6,true),(7,true),(8,true),(9,true),(10,true),(11,true),(12,true),(13,true),(14,true),(15,true),(16,true),(17,true),(18,true),(19,true)] aS_ (by kernel_rfl) fun w13 l13=>have S13:=S12.like l13;u_ Z (p_ Z) Z (u_ Z (E_ Z) Z (u_ Z (g_ 0 Tryz.underlying175 Z fJ_ Z Z Z) Z (u_ Z (t_ Tryz.underlying172 Z Z (((blkM S13 hcur hcg).cell _).trans (by rfl))) Z ?_)))));refine eH_ Z (n_ Tryz.func128 Z Z (Oct.rerr g A n c t ((vaN t (vaN t 1 0 4000).2.1 (vaN t 1 0 4000).2.2 1048576).2.1) ((vaN t (vaN t 1 0 4000).2.1 (vaN t 1 0 4000).2.2 1048576).2.2)  w13 (S13.get 0 Z) (by omega)) Z Z ?_);rintro e14 w14 ⟨v14,rfl,l14,rfl⟩;refine ⟨_,rfl,l14,(have S14:=S13.like l14;have q14:=l14;u_ Z (am_ Z Z) Z (u_ Z (p_ Z) Z ?_))⟩;refine ek_ 62 Z (fun h62=>?_) (fun h62=>?_)
      ·
       refine X_ Z Z Z (g_ 1 Tryz.underlying127 Z sz3 Z Z Z) Z (X_ Z Z Z (t_ Tryz.underlying3 Z Z (((S13.blk 2 Z).cell _).trans (by rfl))) Z ?_);refine X_ Z Z Z (p_ Z) Z (X_ Z Z Z (E_ Z) Z (X_ Z Z Z (g_ 1 Tryz.underlying175 Z sz3 Z Z Z) Z (X_ Z Z Z (t_ Tryz.underlying3 Z Z (((blkM S13 hcur hcg).cell _).trans (by rfl))) Z ?_)));refine X_ Z Z Z (cq_ Z Z) Z (X_ Z Z Z (p_ Z) Z ?_);refine ek_ 70 Z (fun h70=>?_) (fun h70=>?_)
       ·
        refine ap_ Z Z Z Z (ap_ Z Z Z Z (ap_ Z Z Z Z (X_ Z Z Z (gH_ Z Z) Z (u_ Z (gH_ Z Z) Z (aH_ (hK15 _ _ (W_ Z (a_ fun K16 hK16=>b_ (L_y (C_ Z (show _=some zA by kernel_rfl)) Z (L_o (G_ S14 1 Z Z Z bD_ (by rfl) (by intro u hu;first | (simp [zA] at hu;rcases hu with rfl | rfl | rfl | rfl | rfl <;> rfl) | (simp at hu;rcases hu with rfl | rfl | rfl | rfl | rfl <;> rfl) | exact bV_ _ _ u hu) fun w15 S15=>?_)))))))))));refine Lan Z Z (hK16 _ _ (l_ (ur (af_ Z Z Z (S15.blk 1 Z) Tryz.underlying127 Z (by exact bD_) ?_))));have he:opT t x at_ deep=(21,zE):=(gD_ (by omega)).trans (opM_21 (by omega) (by omega));exact ⟨_,rfl,_,_,S15.turned1 0 Z,p0,by rw [he];rfl,by rw [he];rfl,fresh0 _ _⟩
       ·
        refine X_ Z Z Z (g_ 1 Tryz.underlying127 Z sz3 Z Z Z) Z (X_ Z Z Z (t_ Tryz.underlying3 Z Z (((S13.blk 2 Z).cell _).trans (by rfl))) Z ?_);refine X_ Z Z Z (L_ Z Z) Z (X_ Z Z Z (gH_ Z Z) Z (u_ Z (gH_ Z Z) Z (aH_ (hK15 _ _ ?_))));refine o_ Z (fun h75=>?_) (fun h75=>?_)
        ·
         refine a_ fun K17 hK17=>b_ (L_y (C_ Z (show _=some zA by kernel_rfl)) Z (L_o (G_ S14 1 Z Z Z bD_ (by rfl) (by intro u hu;first | (simp [zA] at hu;rcases hu with rfl | rfl | rfl | rfl | rfl <;> rfl) | (simp at hu;rcases hu with rfl | rfl | rfl | rfl | rfl <;> rfl) | exact bV_ _ _ u hu) fun w16 S16=>?_)));refine Lan Z Z (hK17 _ _ (l_ (ur (af_ Z Z Z (S16.blk 1 Z) Tryz.underlying127 Z (by exact bD_) ?_))));have he:opT t x at_ deep=(21,zE):=(gD_ (by omega)).trans (opM_21 (by omega) (by omega));exact ⟨_,rfl,_,_,S16.turned1 0 Z,p0,by rw [he];rfl,by rw [he];rfl,fresh0 _ _⟩
        ·
         refine j_ (hK14 _ _ (a_ fun K18 hK18=>Rm Z Z (L_y (E_ Z) Z (L_y (g_ 0 Tryz.underlying175 Z fJ_ Z Z Z) Z (L_y (t_ Tryz.underlying172 Z Z (((blkM S14 hcur hcg).cell _).trans (by rfl))) Z ?_)))));refine L_o (n_ Tryz.func128 Z Z (Oct.rerr g A n c t ((vaN t (vaN t 1 0 4000).2.1 (vaN t 1 0 4000).2.2 1048576).2.1) ((vaN t (vaN t 1 0 4000).2.1 (vaN t 1 0 4000).2.2 1048576).2.2)  w14 (S14.get 0 Z) (by omega)) Z Z ?_);rintro e17 w17 ⟨v17,rfl,l17,rfl⟩;refine ⟨_,rfl,(have S17:=S14.like l17;L_y (am_ Z Z) Z (Lm Z Z ?_))⟩;refine y_ 83 Z (fun h83=>?_) (fun h83=>?_)
         ·
          refine d_ Z Z (Lm Z Z (Lp Z Z Z (f_ (hK18 _ _ ?_))));refine aD_ Z (fun h85=>?_) (fun h85=>?_)
          ·
           refine a_ fun K19 hK19=>b_ (L_y (C_ Z (show _=some zA by kernel_rfl)) Z (L_o (G_ S17 1 Z Z Z bD_ (by rfl) (by intro u hu;first | (simp [zA] at hu;rcases hu with rfl | rfl | rfl | rfl | rfl <;> rfl) | (simp at hu;rcases hu with rfl | rfl | rfl | rfl | rfl <;> rfl) | exact bV_ _ _ u hu) fun w19 S19=>?_)));refine Lan Z Z (hK19 _ _ (l_ (ur (af_ Z Z Z (S19.blk 1 Z) Tryz.underlying127 Z (by exact bD_) ?_))));have he:opT t x at_ deep=(20,zE):=(gD_ (by omega)).trans (opM_20 (by omega) (by omega) h85);exact ⟨_,rfl,_,_,S19.turned1 0 Z,p0,by rw [he];rfl,by rw [he];rfl,fresh0 _ _⟩
          ·
           refine j_ ?_;have g3:(vaN t (vaN t 1 0 4000).2.1 (vaN t 1 0 4000).2.2 1048576).2.2≠0∨¬ ((vaN t (vaN t 1 0 4000).2.1 (vaN t 1 0 4000).2.2 1048576).1=0∨(at_:Int) - (vaN t (vaN t 1 0 4000).2.1 (vaN t 1 0 4000).2.2 1048576).1 < 12):=by omega
           have g4:(vaN t (vaN t 1 0 4000).2.1 (vaN t 1 0 4000).2.2 1048576).2.2≠0∨(¬ ((vaN t (vaN t 1 0 4000).2.1 (vaN t 1 0 4000).2.2 1048576).1=0∨(at_:Int) - (vaN t (vaN t 1 0 4000).2.1 (vaN t 1 0 4000).2.2 1048576).1 < 12)∧deep=false):=by first | exact .inl (by omega) | exact .inr ⟨by omega,h85⟩
           have he0:=(gD_ (deep:=deep) (at_:=at_) (t:=t) (show x.toNat=5 by omega)).trans (jm_ g4);rw [show (5:Int)=(x.toNat:Int) by omega] at he0;exact ⟨_,_,_,(Sc Z (Sc Z (Sc Z (Sc Z (Sub.nil _))))),⟨he0,Oct.dl_ _ _ _ _ hp1⟩,S17⟩
         ·
          refine h_ Z Z Z (Lp Z Z Z (f_ (hK18 _ _ (aW_ Z (j_ ?_)))));have g3:(vaN t (vaN t 1 0 4000).2.1 (vaN t 1 0 4000).2.2 1048576).2.2≠0∨¬ ((vaN t (vaN t 1 0 4000).2.1 (vaN t 1 0 4000).2.2 1048576).1=0∨(at_:Int) - (vaN t (vaN t 1 0 4000).2.1 (vaN t 1 0 4000).2.2 1048576).1 < 12):=by omega
          have g4:(vaN t (vaN t 1 0 4000).2.1 (vaN t 1 0 4000).2.2 1048576).2.2≠0∨(¬ ((vaN t (vaN t 1 0 4000).2.1 (vaN t 1 0 4000).2.2 1048576).1=0∨(at_:Int) - (vaN t (vaN t 1 0 4000).2.1 (vaN t 1 0 4000).2.2 1048576).1 < 12)∧deep=false):=by first | exact .inl (by omega) | exact .inr ⟨by omega,h85⟩
          have he0:=(gD_ (deep:=deep) (at_:=at_) (t:=t) (show x.toNat=5 by omega)).trans (jm_ g4);rw [show (5:Int)=(x.toNat:Int) by omega] at he0;exact ⟨_,_,_,(Sc Z (Sc Z (Sc Z (Sc Z (Sub.nil _))))),⟨he0,Oct.dl_ _ _ _ _ hp1⟩,S17⟩
      ·
       refine ap_ Z Z Z Z (ap_ Z Z Z Z (ap_ Z Z Z Z (ap_ Z Z Z Z (ap_ Z Z Z Z (ap_ Z Z Z Z (ap_ Z Z Z Z (ap_ Z Z Z Z (DL_gnu Z Z Z Z (DL_gnu Z Z Z Z (DL_gnu Z Z Z Z (ap_ Z Z Z Z (u_ Z (gH_ Z Z) Z (aH_ ?_)))))))))))));refine hK15 _ _ (aW_ Z (j_ (hK14 _ _ (a_ fun K20 hK20=>Rm Z Z (L_y (E_ Z) Z (L_y (g_ 0 Tryz.underlying175 Z fJ_ Z Z Z) Z (L_y (t_ Tryz.underlying172 Z Z (((blkM S14 hcur hcg).cell _).trans (by rfl))) Z ?_)))))));refine L_o (n_ Tryz.func128 Z Z (Oct.rerr g A n c t ((vaN t (vaN t 1 0 4000).2.1 (vaN t 1 0 4000).2.2 1048576).2.1) ((vaN t (vaN t 1 0 4000).2.1 (vaN t 1 0 4000).2.2 1048576).2.2)  w14 (S14.get 0 Z) (by omega)) Z Z ?_);rintro e20 w20 ⟨v20,rfl,l20,rfl⟩;refine ⟨_,rfl,(have S20:=S14.like l20;L_y (am_ Z Z) Z (Lm Z Z ?_))⟩;refine y_ 83 Z (fun h83=>?_) (fun h83=>?_)
       ·
        refine d_ Z Z (Lm Z Z (Lp Z Z Z (f_ (hK20 _ _ ?_))));refine aD_ Z (fun h85=>?_) (fun h85=>?_)
        ·
         refine a_ fun K21 hK21=>b_ (L_y (C_ Z (show _=some zA by kernel_rfl)) Z (L_o (G_ S20 1 Z Z Z bD_ (by rfl) (by intro u hu;first | (simp [zA] at hu;rcases hu with rfl | rfl | rfl | rfl | rfl <;> rfl) | (simp at hu;rcases hu with rfl | rfl | rfl | rfl | rfl <;> rfl) | exact bV_ _ _ u hu) fun w22 S22=>?_)));refine Lan Z Z (hK21 _ _ (l_ (ur (af_ Z Z Z (S22.blk 1 Z) Tryz.underlying127 Z (by exact bD_) ?_))));have he:opT t x at_ deep=(20,zE):=(gD_ (by omega)).trans (opM_20 (by omega) (by omega) h85);exact ⟨_,rfl,_,_,S22.turned1 0 Z,p0,by rw [he];rfl,by rw [he];rfl,fresh0 _ _⟩
        ·
         refine j_ ?_;have g3:(vaN t (vaN t 1 0 4000).2.1 (vaN t 1 0 4000).2.2 1048576).2.2≠0∨¬ ((vaN t (vaN t 1 0 4000).2.1 (vaN t 1 0 4000).2.2 1048576).1=0∨(at_:Int) - (vaN t (vaN t 1 0 4000).2.1 (vaN t 1 0 4000).2.2 1048576).1 < 12):=by omega
         have g4:(vaN t (vaN t 1 0 4000).2.1 (vaN t 1 0 4000).2.2 1048576).2.2≠0∨(¬ ((vaN t (vaN t 1 0 4000).2.1 (vaN t 1 0 4000).2.2 1048576).1=0∨(at_:Int) - (vaN t (vaN t 1 0 4000).2.1 (vaN t 1 0 4000).2.2 1048576).1 < 12)∧deep=false):=by first | exact .inl (by omega) | exact .inr ⟨by omega,h85⟩
         have he0:=(gD_ (deep:=deep) (at_:=at_) (t:=t) (show x.toNat=5 by omega)).trans (jm_ g4);rw [show (5:Int)=(x.toNat:Int) by omega] at he0;exact ⟨_,_,_,(Sc Z (Sc Z (Sc Z (Sc Z (Sub.nil _))))),⟨he0,Oct.dl_ _ _ _ _ hp1⟩,S20⟩
       ·
        refine h_ Z Z Z (Lp Z Z Z (f_ (hK20 _ _ (aW_ Z (j_ ?_)))));have g3:(vaN t (vaN t 1 0 4000).2.1 (vaN t 1 0 4000).2.2 1048576).2.2≠0∨¬ ((vaN t (vaN t 1 0 4000).2.1 (vaN t 1 0 4000).2.2 1048576).1=0∨(at_:Int) - (vaN t (vaN t 1 0 4000).2.1 (vaN t 1 0 4000).2.2 1048576).1 < 12):=by omega
        have g4:(vaN t (vaN t 1 0 4000).2.1 (vaN t 1 0 4000).2.2 1048576).2.2≠0∨(¬ ((vaN t (vaN t 1 0 4000).2.1 (vaN t 1 0 4000).2.2 1048576).1=0∨(at_:Int) - (vaN t (vaN t 1 0 4000).2.1 (vaN t 1 0 4000).2.2 1048576).1 < 12)∧deep=false):=by first | exact .inl (by omega) | exact .inr ⟨by omega,h85⟩
        have he0:=(gD_ (deep:=deep) (at_:=at_) (t:=t) (show x.toNat=5 by omega)).trans (jm_ g4);rw [show (5:Int)=(x.toNat:Int) by omega] at he0;exact ⟨_,_,_,(Sc Z (Sc Z (Sc Z (Sc Z (Sub.nil _))))),⟨he0,Oct.dl_ _ _ _ _ hp1⟩,S20⟩
     ·
      refine j_ ?_;have he0:=opT_w (deep:=deep) (at_:=at_) (t:=t) (show ¬ (x.toNat < 1∨5 < x.toNat) by omega) (by omega);exact ⟨_,_,_,(Sc Z (Sc Z (Sc Z (Sc Z (Sub.nil _))))),⟨he0,hp1⟩,S9⟩
    ·
     rintro e23 w23 ⟨base,p,q,hsub,⟨he0,hp0⟩,S23⟩;refine ej_ hsub (a_ fun K22 hK22=>have hp4:=rwP_le t (p) (q) 4 hp0;have hp5:=rnP_le t (rwP t (p) (q) 4) (rwE t (p) (q) 4) ((vaN t 1 0 4000).1:Int) hp4;Rm Z Z (L_y (E_ Z) Z (L_y (g_ 0 Tryz.underlying175 Z fJ_ Z Z Z) Z (L_y (t_ Tryz.underlying172 Z Z (((blkM S23 hcur hcg).cell _).trans (by rfl))) Z ?_))));refine L_o (n_ Tryz.func105 Z Z (Oct.ru32 g A n c t (p) (q)  w23 (S23.get 0 Z) hp0 (by omega)) Z Z ?_);rintro e24 w24 ⟨v24,rfl,rfl,T24⟩;refine ⟨_,rfl,(have S24:=S23.turn 0 Z T24;L_y (g_ 3 Tryz.underlying127 Z bk_ Z Z Z) Z (L_o (ac_ S24 2 Z Z Z Z bk_ (by simp;done) fun w25 S25=>?_)))⟩;refine f_ (hK22 _ _ (a_ fun K23 hK23=>Rm Z Z (L_y (E_ Z) Z (L_y (g_ 0 Tryz.underlying175 Z fJ_ Z Z Z) Z (L_y (t_ Tryz.underlying172 Z Z (((blkM S25 hcur hcg).cell _).trans (by rfl))) Z ?_)))));refine Lm Z Z (L_o (n_ Tryz.func104 Z Z (Oct.rraw g A n c t (rwP t (p) (q) 4) (rwE t (p) (q) 4)  ((vaN t 1 0 4000).1:Int) w25 (S25.get 0 Z) hp4 (by omega) (by omega)) Z Z ?_));rintro e26 w26 ⟨v26,rfl,T26,B26,d26,rfl,hr26,hd26⟩;refine ⟨_,rfl,(have S26:=S25.turn 0 Z T26;have S27:=St.newT S25 0 Z T26 (fun i hi=>hi) hr26 (fun i hi=>⟨hd26 i hi,(World.ownsRow.lt hr26 i hi).2⟩);have hdR:=fun i hi=>Nat.le_trans S25.size (hd26 i hi);L_y (g_ 4 Tryz.underlying127 Z br_ Z Z Z) Z (L_o (ac_ S27 2 Z Z Z Z br_ (by simp;done) fun w28 S28=>?_)))⟩;refine f_ (hK23 _ _ (a_ fun K24 hK24=>a_ fun K25 hK25=>Rm Z Z (L_y (E_ Z) Z (L_y (g_ 0 Tryz.underlying175 Z fJ_ Z Z Z) Z (L_y (t_ Tryz.underlying172 Z Z (((blkM S28 hcur hcg).cell _).trans (by rfl))) Z ?_)))));refine L_o (n_ Tryz.func128 Z Z (Oct.rerr g A n c t (rnP t (rwP t (p) (q) 4) (rwE t (p) (q) 4) ((vaN t 1 0 4000).1:Int)) (rnE t (rwP t (p) (q) 4) (rwE t (p) (q) 4) ((vaN t 1 0 4000).1:Int))  w28 (S28.get 0 Z) (by omega)) Z Z ?_);rintro e29 w29 ⟨v29,rfl,l29,rfl⟩;refine ⟨_,rfl,(have S29:=S28.like l29;Lan Z Z (hK25 _ _ (a_ fun K26 hK26=>Rm Z Z (L_y (ab_ Z Z) Z (f_ (hK26 _ _ ?_))))))⟩;refine o_ Z (fun h106=>?_) (fun h106=>?_)
     ·
      refine a_ fun K27 hK27=>b_ (L_y (C_ Z (show _=some zA by kernel_rfl)) Z (Lm Z Z (L_o (G_ S29 1 Z Z Z bD_ (by rfl) (by intro u hu;first | (simp [zA] at hu;rcases hu with rfl | rfl | rfl | rfl | rfl <;> rfl) | (simp at hu;rcases hu with rfl | rfl | rfl | rfl | rfl <;> rfl) | exact bV_ _ _ u hu) fun w30 S30=>?_))));refine Lan Z Z (hK27 _ _ (l_ (ur (af_ Z Z Z (S30.blk 1 Z) Tryz.underlying127 Z (by exact bD_) ?_))));have he:opT t x at_ deep=((rnE t (rwP t (p) (q) 4) (rwE t (p) (q) 4) ((vaN t 1 0 4000).1:Int):Int),zE):=he0.trans (opR_e (by omega));exact ⟨_,rfl,_,_,S30.turned1 0 Z,p0,by rw [he];rfl,by rw [he];rfl,fresh0 _ _⟩
     ·
      refine j_ (hK24 _ _ (a_ fun K28 hK28=>a_ fun K29 hK29=>ak_ [(0,true),(1,true),(4,true),(5,true),(2,false),(3,false),(6,true)] aS_ (by kernel_rfl) fun w31 l31=>have S31:=S29.like l31;u_ Z (g_ 4 Tryz.underlying127 Z br_ Z Z Z) Z (u_ Z (t_ Tryz.underlying22 Z Z (((S31.blk 2 Z).cell _).trans (by rfl))) Z ?_)));refine u_ Z (g_ 3 Tryz.underlying127 Z bk_ Z Z Z) Z (u_ Z (t_ Tryz.underlying63 Z Z (((S31.blk 2 Z).cell _).trans (by rfl))) Z ?_);refine eH_ Z (eB_ [_] cS_ eW_ S31 Z Z Z Z Z Z Z Z fun b32 w32 l32 S32=>have q32:=l32;⟨q32,(eH_ Z (n_ Tryz.func92 Z Z (of_ _ _ _ [⟨B26,_,d26,(rnL t (rwP t (p) (q) 4) (rwE t (p) (q) 4) ((vaN t 1 0 4000).1:Int))⟩] w32 (S32.row 4 Z) (fun y hy=>by obtain rfl:=List.mem_singleton.1 hy;exact S32.row 3 Z)) Z Z ?_))⟩);rintro e33 w33 ⟨v33,rfl,l33,rfl⟩;refine ⟨_,rfl,(Like.trans q32 l33),(have S33:=S32.like l33;have q33:=(Like.trans q32 l33);u_ Z (ab_ Z Z) Z (aH_ (hK29 _ _ ?_)))⟩;refine o_ Z (fun h115=>?_) (fun h115=>?_)
      ·
       refine a_ fun K30 hK30=>b_ (L_y (C_ Z (show _=some zA by kernel_rfl)) Z (L_o (G_ S33 1 Z Z Z bD_ (by rfl) (by intro u hu;first | (simp [zA] at hu;rcases hu with rfl | rfl | rfl | rfl | rfl <;> rfl) | (simp at hu;rcases hu with rfl | rfl | rfl | rfl | rfl <;> rfl) | exact bV_ _ _ u hu) fun w34 S34=>?_)));refine Lan Z Z (hK30 _ _ (l_ (ur (af_ Z Z Z (S34.blk 1 Z) Tryz.underlying127 Z (by exact bD_) ?_))));have hs1:=crcN h115;have he:opT t x at_ deep=(13,zE):=he0.trans (opR_13 (by omega) hs1);exact ⟨_,rfl,_,_,S34.turned1 0 Z,p0,by rw [he];rfl,by rw [he];rfl,fresh0 _ _⟩
      ·
       refine j_ (hK28 _ _ (a_ fun K31 hK31=>dy_ [0,1,2,3,4,5,6,7,8,9,10] 11 [(0,1),(1,1),(2,1),(3,1),(4,1),(5,1),(6,1),(7,1),(8,2),(9,1),(10,1),(11,3)] aS_ (by kernel_rfl) fun w35 l35=>have S35:=S33.like l35;ga_ (Like w35) (Like.refl _) (Q_ Z (p_ Z) Z (Q_ Z (E_ Z) Z (Q_ Z (g_ 1 Tryz.underlying175 Z sz3 Z Z Z) Z (Q_ Z (t_ Tryz.underlying3 Z Z (((blkM S35 hcur hcg).cell _).trans (by rfl))) Z ?_))))));refine Q_ Z (p_ Z) Z (Q_ Z (E_ Z) Z (Q_ Z (g_ 0 Tryz.underlying175 Z fJ_ Z Z Z) Z (Q_ Z (t_ Tryz.underlying172 Z Z (((blkM S35 hcur hcg).cell _).trans (by rfl))) Z ?_)));refine fF_ Z (n_ Tryz.func130 Z Z (at9 g A n c t (rnP t (rwP t (p) (q) 4) (rwE t (p) (q) 4) ((vaN t 1 0 4000).1:Int)) (rnE t (rwP t (p) (q) 4) (rwE t (p) (q) 4) ((vaN t 1 0 4000).1:Int))  w35 (S35.get 0 Z)) Z Z ?_);rintro e36 w36 ⟨v36,rfl,l36,rfl⟩;refine ⟨_,rfl,l36,(have S36:=S35.like l36;have q36:=l36;Q_ Z (w_ Z Z (addN (by omega))) Z (Q_ Z (g_ 2 Tryz.underlying127 Z sz3 Z Z Z) Z (fZ_ Z (ac_ S36 2 Z Z Z Z sz3 (by simp;done) fun w37 S37=>?_))))⟩;refine cA_ (hK31 _ _ (a_ fun K32 hK32=>b_ (L_y (Y_ Tryz.underlying127 Z bD_ Z (S37.blk 2 Z) ⟨rfl,rfl⟩) Z (L_o (G_ S37 1 Z Z Z bD_ (by rfl) (by intro u hu;first | (simp [zA] at hu;rcases hu with rfl | rfl | rfl | rfl | rfl <;> rfl) | (simp at hu;rcases hu with rfl | rfl | rfl | rfl | rfl <;> rfl) | exact bV_ _ _ u hu) fun w38 S38=>?_)))));refine Lan Z Z (hK32 _ _ (l_ (ur (af_ Z Z Z (S38.blk 1 Z) Tryz.underlying127 Z (by exact bD_) ?_))));have hs1:=crcE h115;have he:opT t x at_ deep=(0,_):=he0.trans (opR_ok (by omega) (fun q=>q hs1));have hsm:((be (rwL t (p) (q) 4):Nat):Int)=N (aU_ (rnL t (rwP t (p) (q) 4) (rwE t (p) (q) 4) ((vaN t 1 0 4000).1:Int))):=by show _=((aU_ _).toNat:Int);rw [hs1]
       refine ⟨_,rfl,_,_,S38.turned1 0 Z,⟨B26,_,d26,(rnL t (rwP t (p) (q) 4) (rwE t (p) (q) 4) ((vaN t 1 0 4000).1:Int))⟩,?_,by rw [he],⟨S38.row 3 Z,fun ad h1 h2=>hdR ad.block (row_dom hr26 h1 ad h2)⟩⟩;rw [he,hsm];rfl
end Pak
namespace Pak
open Go.RowKit Zk Zx
open Sha (N bC_ cu_ cZ_ dN_ dM_)
open Go.Proofs.YtgaklngnfecdaaaGreat.Obj (ad_ bG_ aC_ V_ az_ aL_ zB A_ aI_)
open Oct (vaN rwL rwP rwE rnL rnP rnE be vr tl x_)
open Del (scA opf OP OkO mkV bm_ cy_ ag_ bW_)
open Oct (rdr dC_ ck_)
def OpenV (w0 w':World) (b:List UInt8) (at_:Int) (deep:Bool) (u:Value):Prop:=EntryV w0 w' (opV b at_ deep) u
theorem rd_ne {w0 w:World} {M:Nat→Prop} {rs:List Res} (S:Zx.St w0 M rs w) (i j:Nat) {r:Res} {g t:Nat} {cs:Array Value} (hi:rs[i]?=some r) (hj:rs[j]?=some (Zx.blk g t cs)) (hij:i≠j):¬ r.dom g:=fun hd=>by
  have hap:=List.pairwise_iff_getElem.1 S.apart
  obtain ⟨hil,hie⟩:=List.getElem?_eq_some_iff.1 hi
  obtain ⟨hjl,hje⟩:=List.getElem?_eq_some_iff.1 hj
  rcases Nat.lt_or_gt_of_ne hij with h | h
  · exact hap i j hil hjl h g (by rw [hie];exact hd) (by rw [hje];rfl)
  · exact hap j i hjl hil h g (by rw [hje];rfl) (by rw [hie];exact hd)
theorem open_ (B:Option Addr) (m d:Nat) (b:List UInt8) (at_:Int) (deep:Bool) (w0:World) (hb:Rs w0 1 B m d (bL b)) (hm5:m≤100000) (hat : -9223372036854775808≤at_∧at_≤9223372036854775807) :
    Calls Tryz.prog 66 #[.slice B m d,.int .i64 at_,.bool deep] w0 fun e w'=>∃ u,e=.returned u∧Like w0 w'∧OpenV w0 w' b at_ deep u:=by
  refine v_ (env:=[(0,.slice B m d),(1,.int .i64 at_),(2,.bool deep)]) [.slice B m d,.int .i64 at_,.bool deep] Tryz.func66 Z Tryz.ntmps66 Z Z ?_
  have hl:=hb.lenb;have hcap:=hb.cap;have hmax:=hb.max
  have S0:=St.start w0 noM
  refine a_ fun K1 hK1=>?_
  refine b_ ?_
  refine L_o (H_ zz127 S0 Z fun b1 w1 hb1 S1=>?_)
  refine La Z Z ?_
  refine f_ ?_
  refine hK1 _ _ ?_
  refine a_ fun K2 hK2=>?_
  refine a_ fun K3 hK3=>?_
  refine b_ ?_
  refine Lm Z Z ?_
  refine L_y (I_ Tryz.underlying22 Z) Z ?_
  refine L_y (L_ Z Z) Z ?_
  refine f_ ?_
  refine hK3 _ _ ?_
  refine o_ Z (fun h11=>?_) (fun h11=>?_)
  ·
    refine a_ fun K4 hK4=>?_
    refine b_ ?_
    refine L_y (C_ Z (show _=some zA by kernel_rfl)) Z ?_
    refine L_o (G_ S1 0 Z Z Z bD_ (by rfl) (by intro u hu;first | (simp [zA] at hu;rcases hu with rfl | rfl | rfl | rfl | rfl <;> rfl) | (simp at hu;rcases hu with rfl | rfl | rfl | rfl | rfl <;> rfl) | exact bV_ _ _ u hu) fun w2 S2=>?_)
    refine La Z Z ?_
    refine f_ ?_
    refine hK4 _ _ ?_
    refine l_ ?_
    refine ur ?_
    refine af_ Z Z Z (S2.blk 0 Z) Tryz.underlying127 Z (by exact bD_) ?_
    have he:opV b at_ deep=(10,zE):=opV_10 (by omega)
    exact ⟨_,rfl,S2.like0,p0,by rw [he];rfl,by rw [he];rfl,fresh0 _ _⟩
  ·
    refine j_ ?_
    refine hK2 _ _ ?_
    refine a_ fun K5 hK5=>?_
    refine a_ fun K6 hK6=>?_
    refine b_ ?_
    refine Lm Z Z ?_
    refine L_y (L_ Z Z) Z ?_
    refine Lm Z Z ?_
    refine y_ 15 Z (fun h15=>?_) (fun h15=>?_)
    ·
      refine h_ Z Z Z ?_
      refine h_ Z Z Z ?_
      refine h_ Z Z Z ?_
      refine h_ Z Z Z ?_
      refine h_ Z Z Z ?_
      refine Lp Z Z Z ?_
      refine f_ ?_
      refine hK6 _ _ ?_
      refine W_ Z ?_
      refine a_ fun K7 hK7=>?_
      refine b_ ?_
      refine L_y (C_ Z (show _=some zA by kernel_rfl)) Z ?_
      refine L_o (G_ S1 0 Z Z Z bD_ (by rfl) (by intro u hu;first | (simp [zA] at hu;rcases hu with rfl | rfl | rfl | rfl | rfl <;> rfl) | (simp at hu;rcases hu with rfl | rfl | rfl | rfl | rfl <;> rfl) | exact bV_ _ _ u hu) fun w4 S4=>?_)
      refine La Z Z ?_
      refine f_ ?_
      refine hK7 _ _ ?_
      refine l_ ?_
      refine ur ?_
      refine af_ Z Z Z (S4.blk 0 Z) Tryz.underlying127 Z (by exact bD_) ?_
      have he:opV b at_ deep=(2,zE):=opV_2 (by omega) (by omega)
      exact ⟨_,rfl,S4.like0,p0,by rw [he];rfl,by rw [he];rfl,fresh0 _ _⟩
    ·
      refine d_ Z Z ?_
      refine Lm Z Z ?_
      refine d_ Z Z ?_
      refine Lm Z Z ?_
      refine d_ Z Z ?_
      refine L_y (I_ Tryz.underlying22 Z) Z ?_
      refine d_ Z Z ?_
      refine L_y (ax_ Z Z (z_ (by omega))) Z ?_
      refine d_ Z Z ?_
      refine L_y (cq_ Z Z) Z ?_
      refine Lp Z Z Z ?_
      refine f_ ?_
      refine hK6 _ _ ?_
      refine o_ Z (fun h21=>?_) (fun h21=>?_)
      ·
        refine a_ fun K8 hK8=>?_
        refine b_ ?_
        refine L_y (C_ Z (show _=some zA by kernel_rfl)) Z ?_
        refine L_o (G_ S1 0 Z Z Z bD_ (by rfl) (by intro u hu;first | (simp [zA] at hu;rcases hu with rfl | rfl | rfl | rfl | rfl <;> rfl) | (simp at hu;rcases hu with rfl | rfl | rfl | rfl | rfl <;> rfl) | exact bV_ _ _ u hu) fun w5 S5=>?_)
        refine La Z Z ?_
        refine f_ ?_
        refine hK8 _ _ ?_
        refine l_ ?_
        refine ur ?_
        refine af_ Z Z Z (S5.blk 0 Z) Tryz.underlying127 Z (by exact bD_) ?_
        have he:opV b at_ deep=(2,zE):=opV_2 (by omega) (by omega)
        exact ⟨_,rfl,S5.like0,p0,by rw [he];rfl,by rw [he];rfl,fresh0 _ _⟩
      ·
        refine j_ ?_
        refine hK5 _ _ ?_
        refine a_ fun K9 hK9=>?_
        obtain ⟨x,hx⟩:∃ x,b[at_.toNat]?=some x:=⟨_,List.getElem?_eq_getElem (by omega)⟩
        have htl:=tailB_len (b:=b) (n:=at_.toNat) (by omega) (by omega)
        have hx0:(dS_ b at_.toNat)[0]?=some x:=by rw [tailB_0 (by omega) (by omega)];exact hx
        have hbt:=hb.cutb (l:=at_.toNat) (u:=m - 32) (by omega) (by omega)
        rw [show (b.drop at_.toNat).take (m - 32 - at_.toNat)=(dS_ b at_.toNat) by unfold dS_;rw [hl]] at hbt
        refine b_ ?_
        refine Lm Z Z ?_
        refine Lm Z Z ?_
        refine Lm Z Z ?_
        refine L_y (I_ Tryz.underlying22 Z) Z ?_
        refine L_y (ax_ Z Z (z_ (by omega))) Z ?_
        refine L_y (en_ Tryz.underlying22 sz5 Z Z Z (Nt.mk (by omega):Nt _ (at_.toNat)) (Nt.mk (by omega):Nt _ (m - 32)) (by omega) (by omega)) Z ?_
        refine L_o (n_ Tryz.func96 Z Z (Oct.rnew _ _ _ (dS_ b at_.toNat) w1 (S1.rd hbt) (by omega)) Z Z ?_)
        rintro e6 w6 ⟨v6,rfl,l6,g1,A1,c1,rfl,hh6,dd6⟩
        refine ⟨_,rfl,?_⟩
        have S6:=S1.new l6 _ hh6 dd6
        refine Lm Z Z ?_
        refine L_y (C_ Z (show _=some #[.pointer (some ⟨g1,0,none⟩),.int .i64 (at_.toNat:Int)] by rw [Int.toNat_of_nonneg (by omega)];kernel_rfl)) Z ?_
        refine L_o (bO_ Z S6 Z fun b7 w7 hb7 S7=>?_)
        refine La Z Z ?_
        refine f_ ?_
        refine hK9 _ _ ?_
        refine a_ fun K10 hK10=>?_
        refine b_ ?_
        refine Lm Z Z ?_
        refine Lm Z Z ?_
        refine L_o (n_ Tryz.func97 Z Z (entry b7 g1 A1 (m - 32 - at_.toNat) c1 (dS_ b at_.toNat) at_.toNat deep x w7 (S7.get 1 Z) (S7.blk 2 Z) (fun hd=>rd_ne (S7) 1 2 Z Z (by decide) hd) hx0 (by omega) (by omega)) Z Z ?_)
        rintro e8 w8 ⟨v8,rfl,p8,q8,T8,hE8⟩
        refine ⟨_,rfl,?_⟩
        have S8:=S7.turn 1 Z T8
        obtain ⟨q9,rfl,hq9,hok9,hfr9⟩:=hE8
        have S9:=St.newT S7 1 Z T8 (fun i hi=>hi) (new:=fixed 1 q9.A q9.n q9.c (bL q9.l)) hok9 (fun i hi=>by obtain ⟨ad,h1,h2,rfl⟩:=hi;exact ⟨hfr9 ad h1 h2,dP_ hok9 h1 h2⟩)
        have hf9:=fun ad h1 h2=>Nat.le_trans S7.size (hfr9 ad h1 h2)
        refine L_y (m_ Z Z) Z ?_
        refine L_y (m_ Z Z) Z ?_
        refine L_o (G_ S9 0 Z Z Z bD_ (by rfl) (by intro u hu;first | (simp [zA] at hu;rcases hu with rfl | rfl | rfl | rfl | rfl <;> rfl) | (simp at hu;rcases hu with rfl | rfl | rfl | rfl | rfl <;> rfl) | exact bV_ _ _ u hu) fun w10 S10=>?_)
        refine La Z Z ?_
        refine f_ ?_
        refine hK10 _ _ ?_
        refine l_ ?_
        refine ur ?_
        refine af_ Z Z Z (S10.blk 0 Z) Tryz.underlying127 Z (by exact bD_) ?_
        have he:opV b at_ deep=opT (dS_ b at_.toNat) x at_.toNat deep:=opV_t (by omega) (by omega) hx
        refine ⟨_,rfl,S10.like0,q9,?_,?_,?_⟩
        · rw [he];rfl
        · rw [he];exact hq9
        · exact ⟨S10.fix 3 Z,hf9⟩
end Pak
namespace Del
open Go.RowKit Zk Zx Oct
theorem preadH (B:Option Addr) (m d:Nat) (l:List UInt8) (w0:World) (hb:Rs w0 1 B m d (bL l)) (hm5:m≤10000) :
    Calls Tryz.prog 98 #[.slice B m d] w0 fun e w'=>∃ u,e=.returned u∧Like w0 w'∧∃ A' c' qs,∃ R:Res,u=.tuple #[.agg (scA (ag_ l).1 (ag_ l).2.1 A' qs.length c'),.int .i64 (ag_ l).2.2.2]∧R.holds w'∧(∀ i,R.dom i→w0.heap.size≤i∧i < w'.heap.size)∧(∀ W,R.holds W→Rs W 4 A' qs.length c' (qs.flatMap opf)∧OkO W qs)∧qs.map OP.v=(ag_ l).2.2.1:=by
 refine v_ (env:=[(0,.slice B m d)]) [.slice B m d] Tryz.func98 Z Tryz.ntmps98 Z Z ?_;have hnl:=hb.lenb;have hcap:=hb.cap;have hmax:=hb.max;have S0:=St.start w0 noM;refine a_ fun K1 hK1=>b_ (L_o (H_ iM_ S0 Z fun b1 w1 hb1 S1=>Lan Z Z (hK1 _ _ (a_ fun K2 hK2=>Rm Z Z (L_o (n_ Tryz.func96 Z Z (rnew B m d l w1 (S1.rd hb) (by omega)) Z Z ?_))))));rintro e2 w2 ⟨v2,rfl,l2,g,A,c,rfl,hh2,hd2⟩;refine ⟨_,rfl,(have S2:=S1.new l2 _ hh2 hd2;Lan Z Z (hK2 _ _ (a_ fun K3 hK3=>Rm Z Z (L_o (n_ Tryz.func129 Z Z (rvar g A m c l 0 0 4000 w2 (S2.get 1 Z) (by omega) (by omega)) Z Z ?_)))))⟩;rintro e3 w3 ⟨v3,rfl,rfl,T3⟩;refine ⟨_,rfl,(have S3:=S2.turn 1 Z T3;have hF:=dl_ l 0 0 4000 (by omega);have hFm:=hc_ l 0 0 4000;L_y (P_ di_ Tryz.underlying3 Z (z_ (by omega))) Z (Lm Z Z (L_o (n_ Tryz.func129 Z Z (rvar g A m c l _ _ 4000 w3 (S3.get 1 Z) (by omega) (by omega)) Z Z ?_))))⟩;rintro e4 w4 ⟨v4,rfl,rfl,T4⟩;refine ⟨_,rfl,(have S4:=S3.turn 1 Z T4;have hG:=dl_ l (vaN l 0 0 4000).2.1 (vaN l 0 0 4000).2.2 4000 (by omega);have hGm:=hc_ l (vaN l 0 0 4000).2.1 (vaN l 0 0 4000).2.2 4000;L_y (P_ di_ Tryz.underlying3 Z (z_ (by omega))) Z (L_y (C_ Z (show _=some (scA ((vaN l 0 0 4000).1:Int) ((vaN l (vaN l 0 0 4000).2.1 (vaN l 0 0 4000).2.2 4000).1:Int) none 0 0) by kernel_rfl)) Z ?_))⟩;refine L_o (H_ iM_ S4 Z fun b5 w5 hb5 S5=>L_o (G_ S5 2 Z Z Z cr_ Z (cY_ _ _ _ _ _) fun w6 S6=>f_ (hK3 _ _ (a_ fun K4 hK4=>a_ fun K5 hK5=>Rm Z Z (L_o (n_ Tryz.func128 Z Z (rerr g A m c l _ _ w6 (S6.get 1 Z) (by omega)) Z Z ?_))))));rintro e7 w7 ⟨v7,rfl,l7,rfl⟩;refine ⟨_,rfl,(have S7:=S6.like l7;Lan Z Z (hK5 _ _ (a_ fun K6 hK6=>Rm Z Z (L_y (ab_ Z Z) Z (f_ (hK6 _ _ ?_))))))⟩;refine o_ Z (fun h22=>?_) (fun h22=>?_)
 ·
  refine a_ fun K7 hK7=>b_ (L_y (C_ Z (show _=some (scA 0 0 none 0 0) by kernel_rfl)) Z (Lm Z Z (L_o (G_ S7 0 Z Z Z cr_ Z (cY_ _ _ _ _ _) fun w8 S8=>Lan Z Z (hK7 _ _ (l_ (ur (af_ Z Z Z (S8.blk 0 Z) Tryz.underlying179 Z (by exact cr_) ?_))))))));exact ⟨_,rfl,S8.like0,none,0,[],sepL [],by rw [read_e1 (by omega)];rfl,⟨fun r hr=>(List.not_mem_nil hr).elim,List.Pairwise.nil⟩,(fun i ⟨r,hr,_⟩=>(List.not_mem_nil hr).elim),(fun W _=>⟨Rs.nil _ 4,fun o ho=>(List.not_mem_nil ho).elim⟩),by rw [read_e1 (by omega)];rfl⟩
 ·
  have hq0:(vaN l (vaN l 0 0 4000).2.1 (vaN l 0 0 4000).2.2 4000).2.2=0:=by omega
  rw [hq0] at S7;refine j_ (hK4 _ _ (a_ fun K8 hK8=>b_ (L_y (g_ 1 Tryz.underlying179 Z sz3 Z Z Z) Z (L_y (t_ Tryz.underlying3 Z Z (((S7.blk 2 Z).cell _).trans (by rfl))) Z ?_))));refine Lan Z Z (hK8 _ _ (a_ fun K9 hK9=>r_ ?_));refine gw_ [(2,_),(4,_),(5,_)] (fun (p:Nat) (left:Int) (A1:Option Addr) (c1:Nat) (ops:List OP) (ps:List Part)=>[(7,.int .i64 left)]) (fun (p:Nat) (left:Int) (A1:Option Addr) (c1:Nat) (ops:List OP) (ps:List Part)=>m - p) (fun (p:Nat) (left:Int) (A1:Option Addr) (c1:Nat) (ops:List OP) (ps:List Part) (w:World)=>(p≤m∧0≤left∧(ops.length:Int)+left≤4000∧InP ops ps∧RDI l ((vaN l 0 0 4000).1:Int) p left (ops.map OP.v) (rdR l))∧St w0 noM [blk b1 179 #[.int .i64 0,.int .i64 0,.slice none 0 0],rdr g A m c l p 0,blk b5 179 (scA ((vaN l 0 0 4000).1:Int) ((vaN l (vaN l 0 0 4000).2.1 (vaN l 0 0 4000).2.2 4000).1:Int) A1 ops.length c1),row 221 4 A1 ops.length c1 (ops.flatMap opf),fam (ps.map bE_)] w) (vaN l (vaN l 0 0 4000).2.1 (vaN l 0 0 4000).2.2 4000).2.1 ((vaN l (vaN l 0 0 4000).2.1 (vaN l 0 0 4000).2.2 4000).1:Int) none 0 [] [] (Sc Z (Sub.nil _)) (Sub.cons Z Z (Sub.cons Z Z (Sub.cons Z Z (Sub.nil _)))) ?_ ?_
  ·
   have S9:=((S7.nilrow 221 4).fam0);exact ⟨⟨by omega,by omega,by show (0:Int)+_≤4000;omega,(fun o ho=>(List.not_mem_nil ho).elim),RDI.start l ((vaN l 0 0 4000).1:Int) (vaN l (vaN l 0 0 4000).2.1 (vaN l 0 0 4000).2.2 4000).2.1 ((vaN l (vaN l 0 0 4000).2.1 (vaN l 0 0 4000).2.2 4000).1:Int)⟩,S9⟩
  ·
   intro p left A1 c1 ops ps w9 hrel;obtain ⟨⟨hk,hl0,hol,hin,hrd⟩,S9⟩:=hrel;refine a_ fun K10 hK10=>a_ fun K11 hK11=>Rm Z Z (L_o (n_ Tryz.func131 Z Z (rleft g A m c l _ _ w9 (S9.get 1 Z) (by omega)) Z Z ?_));rintro e10 w10 ⟨v10,rfl,l10,rfl⟩;refine ⟨_,rfl,(have S10:=S9.like l10;L_y (Z_ Z Z) Z (f_ (hK11 _ _ ?_)))⟩;refine o_ Z (fun h29=>?_) (fun h29=>?_)
   ·
    obtain ⟨x,hx⟩:∃ x,l[p]?=some x:=⟨_,List.getElem?_eq_getElem (by omega)⟩;refine j_ (hK10 _ _ (r_ (a_ fun K12 hK12=>Rm Z Z (L_y (g_ 0 Tryz.underlying179 Z sz3 Z Z Z) Z (L_y (t_ Tryz.underlying3 Z Z (((S10.blk 2 Z).cell _).trans (by rfl))) Z ?_)))));refine L_o (n_ Tryz.func132 Z Z (rop g A m c l p x ((vaN l 0 0 4000).1:Int) w10 (S10.get 1 Z) hx (by omega) (by omega)) Z Z ?_);rintro e11 w11 ⟨v11,rfl,T11,o,rfl,hov,hr11,hd11⟩;refine ⟨_,rfl,(have S11:=S10.turn 1 Z T11;have S12:=St.newT S10 1 Z T11 (fun i hi=>hi) hr11 (fun i hi=>⟨hd11 i hi,(World.ownsRow.lt hr11 i hi).2⟩);Lm Z Z (L_y (m_ Z Z) Z (L_y (m_ Z Z) Z (L_o (H_ gU_ S12 Z fun b13 w13 hb13 S13=>L_o (G_ S13 6 Z Z Z bq_ Z (bp_ o) fun w14 S14=>Lan Z Z (hK12 _ _ (a_ fun K13 hK13=>a_ fun K14 hK14=>b_ ?_))))))))⟩;refine Lm Z Z (L_y (ab_ Z Z) Z (f_ (hK14 _ _ ?_)));refine o_ Z (fun h38=>?_) (fun h38=>?_)
    ·
     refine a_ fun K15 hK15=>b_ (L_y (C_ Z (show _=some (scA 0 0 none 0 0) by kernel_rfl)) Z (Lm Z Z (L_o (G_ S14 0 Z Z Z cr_ Z (cY_ _ _ _ _ _) fun w15 S15=>Lan Z Z (hK15 _ _ (l_ (ur (af_ Z Z Z (S15.blk 0 Z) Tryz.underlying179 Z (by exact cr_) ?_))))))));exact ⟨_,rfl,S15.like0,none,0,[],sepL [],by rw [gm_ hq0 (hrd.err hx (by omega)) (by omega)];rfl,⟨fun r hr=>(List.not_mem_nil hr).elim,List.Pairwise.nil⟩,(fun i ⟨r,hr,_⟩=>(List.not_mem_nil hr).elim),(fun W _=>⟨Rs.nil _ 4,fun o ho=>(List.not_mem_nil ho).elim⟩),by rw [gm_ hq0 (hrd.err hx (by omega)) (by omega)];rfl⟩
    ·
     have h380:(rdO l p x ((vaN l 0 0 4000).1:Int)).e=0:=by omega
     obtain ⟨hro1,hro2,hro3,hro4⟩:=rdO_ok hx h380;rw [← hov] at hro4;rw [hro1] at S14;refine j_ (hK13 _ _ (a_ fun K16 hK16=>a_ fun K17 hK17=>b_ (L_y (Y_ Tryz.underlying221 Z bq_ Z (S14.blk 6 Z) (show _=opf o∧_ from ⟨rfl,rfl⟩)) Z (L_o (n_ Tryz.func133 Z Z (osize o w14 (S14.row 5 Z)) Z Z ?_)))));rintro e16 w16 ⟨v16,rfl,l16,rfl⟩;refine ⟨_,rfl,(have S16:=S14.like l16;Lm Z Z (L_y (Z_ Z Z) Z (f_ (hK17 _ _ ?_))))⟩;refine o_ Z (fun h44=>?_) (fun h44=>?_)
     ·
      refine a_ fun K18 hK18=>b_ (L_y (C_ Z (show _=some (scA 0 0 none 0 0) by kernel_rfl)) Z (L_o (G_ S16 0 Z Z Z cr_ Z (cY_ _ _ _ _ _) fun w17 S17=>Lan Z Z (hK18 _ _ (l_ (ur (af_ Z Z Z (S17.blk 0 Z) Tryz.underlying179 Z (by exact cr_) ?_)))))));exact ⟨_,rfl,S17.like0,none,0,[],sepL [],by rw [gm_ hq0 (hrd.long hx h380 (by rw [← hov];omega)) (by decide)];rfl,⟨fun r hr=>(List.not_mem_nil hr).elim,List.Pairwise.nil⟩,(fun i ⟨r,hr,_⟩=>(List.not_mem_nil hr).elim),(fun W _=>⟨Rs.nil _ 4,fun o ho=>(List.not_mem_nil ho).elim⟩),by rw [gm_ hq0 (hrd.long hx h380 (by rw [← hov];omega)) (by decide)];rfl⟩
     ·
      refine j_ (hK16 _ _ (a_ fun K19 hK19=>Rm Z Z (L_y (Y_ Tryz.underlying221 Z bq_ Z (S16.blk 6 Z) (show _=opf o∧_ from ⟨rfl,rfl⟩)) Z (L_o (n_ Tryz.func133 Z Z (osize o w16 (S16.row 5 Z)) Z Z ?_)))));rintro e18 w18 ⟨v18,rfl,l18,rfl⟩;refine ⟨_,rfl,(have S18:=S16.like l18;L_y (ax_ Z Z (z_ (by omega))) Z (Lan Z Z (hK19 _ _ (b_ (L_y (g_ 2 Tryz.underlying179 Z fA_ Z Z Z) Z (L_y (t_ Tryz.underlying177 Z Z (((S18.blk 2 Z).cell _).trans (by rfl))) Z ?_))))))⟩;refine L_y (Y_ Tryz.underlying221 Z bq_ Z (S18.blk 6 Z) (show _=opf o∧_ from ⟨rfl,rfl⟩)) Z (L_o (ah_ (opf o) te177 gU_ S18 Z Z Z Z Z Z Z Z fun b19 w19 S19=>L_o (ay_ te177 S19 3 Z Z Z (by first | exact S19.row 3 Z | exact S19.fix 4 Z | exact S19.row 5 Z | exact S19.row 7 Z) (bp_ o) Z (by omega) (by omega) fun A20 c20 w20 S20=>?_)));have S20d:=S20.drop (rs':=[_,_,_,_,_,_,_]) (.cons_cons _ (.cons_cons _ (.cons_cons _ (.cons_cons _ (.cons_cons _ (.cons_cons _ (.cons_cons _ (.cons _ (.refl _)))))))));refine L_y (g_ 2 Tryz.underlying179 Z fA_ Z Z Z) Z (L_o (ac_ S20d 2 Z Z Z Z fA_ (by show 2 < 3;decide) fun w21 S21=>?_));refine f_ ?_;have S91:=S21.blkc 2 Z ((kD_ ((vaN l 0 0 4000).1:Int) ((vaN l (vaN l 0 0 4000).2.1 (vaN l 0 0 4000).2.2 4000).1:Int) A1 ops.length c1 A20 (ops.length+1) c20).trans (show _=scA ((vaN l 0 0 4000).1:Int) ((vaN l (vaN l 0 0 4000).2.1 (vaN l 0 0 4000).2.2 4000).1:Int) A20 (ops++[o]).length c20 from by rw [List.length_append];rfl));have S92:=S91.rowc 3 Z (n':=(ops++[o]).length) (xs':=(ops++[o]).flatMap opf) (by rw [List.length_append];rfl) (by rw [List.flatMap_append];simp);have S93:=(S92.still 5 Z).sel [0,1,2,3,4,5] (by decide);have S94:=famAdd (rs:=[_,_,_,_,fam (ps.map bE_)]) (ps:=ps) (p:=o.p) S93 4 Z;refine ⟨(rdO l p x ((vaN l 0 0 4000).1:Int)).p,left - szV o.v,A20,c20,ops++[o],ps++[o.p],by omega,⟨⟨by omega,by omega,by rw [List.length_append,List.length_singleton];omega,hin.add,by rw [List.map_append,List.map_singleton,hov];exact hrd.next hx h380 (by rw [← hov];omega)⟩,S94⟩,?_⟩;exact (Sc Z (Sub.cons Z Z (Sub.cons Z Z (Sub.cons Z Z (Sub.nil _)))))
   ·
    refine K_ (hK9 _ _ (a_ fun K20 hK20=>a_ fun K21 hK21=>Rm Z Z (L_y (Z_ Z Z) Z (f_ (hK21 _ _ ?_)))));refine o_ Z (fun h57=>?_) (fun h57=>?_)
    ·
     refine a_ fun K22 hK22=>b_ (L_y (C_ Z (show _=some (scA 0 0 none 0 0) by kernel_rfl)) Z (L_o (G_ S10 0 Z Z Z cr_ Z (cY_ _ _ _ _ _) fun w22 S22=>Lan Z Z (hK22 _ _ (l_ (ur (af_ Z Z Z (S22.blk 0 Z) Tryz.underlying179 Z (by exact cr_) ?_)))))));have hst:=hrd.stop (by omega);rw [if_pos (by omega)] at hst;exact ⟨_,rfl,S22.like0,none,0,[],sepL [],by rw [gm_ hq0 hst (by decide)];rfl,⟨fun r hr=>(List.not_mem_nil hr).elim,List.Pairwise.nil⟩,(fun i ⟨r,hr,_⟩=>(List.not_mem_nil hr).elim),(fun W _=>⟨Rs.nil _ 4,fun o ho=>(List.not_mem_nil ho).elim⟩),by rw [gm_ hq0 hst (by decide)];rfl⟩
    ·
     refine j_ (hK20 _ _ (a_ fun K23 hK23=>b_ (L_y (Y_ Tryz.underlying179 Z cr_ Z (S10.blk 2 Z) (show _=(scA ((vaN l 0 0 4000).1:Int) ((vaN l (vaN l 0 0 4000).2.1 (vaN l 0 0 4000).2.2 4000).1:Int) A1 ops.length c1).toList∧_ from ⟨rfl,rfl⟩)) Z (L_o (G_ S10 0 Z Z Z cr_ Z (cY_ _ _ _ _ _) fun w23 S23=>Lan Z Z (hK23 _ _ (l_ (ur (af_ Z Z Z (S23.blk 0 Z) Tryz.underlying179 Z (by exact cr_) ?_)))))))));have hst:=hrd.stop (by omega);rw [if_neg (by omega)] at hst;have S24:Zx.St w0 noM [row 221 4 A1 ops.length c1 (ops.flatMap opf),fam (ps.map bE_)] w23:=S23.sel [3,4] (by decide);exact ⟨_,rfl,S23.like0,A1,c1,ops,sepL [row 221 4 A1 ops.length c1 (ops.flatMap opf),fam (ps.map bE_)],by rw [kE_ hq0 hst],S24.getAll,(fun i hi=>by obtain ⟨r,hr,hd⟩:=hi;have h:=(S24.res r hr).2 i hd;exact ⟨h.2.resolve_right (fun q=>q),h.1⟩),(fun W h=>⟨cd_ (h.1 (row 221 4 A1 ops.length c1 (ops.flatMap opf)) (List.mem_cons_self ..)).1,okO_of hin (h.1 (fam (ps.map bE_)) (List.mem_cons_of_mem _ (List.mem_cons_self ..))).1⟩),by rw [kE_ hq0 hst]⟩
end Del
namespace Pak
open Go.RowKit Zk Zx
open Sha (N bC_ cu_ cZ_ dN_ dM_)
open Go.Proofs.YtgaklngnfecdaaaGreat.Obj (ad_ bG_ aC_ V_ az_ aL_ zB A_ aI_)
open Oct (vaN rwL rwP rwE rnL rnP rnE be vr tl x_)
open Del (scA opf OP OkO mkV bm_ cy_ ag_ bW_)
def newR (w0:World) (p:Part):Res where
  dom i:=∃ ad,0 < p.n∧p.A=some ad∧ad.block=i∧w0.heap.size≤i
  holds w:=(∀ ad,0 < p.n→p.A=some ad→w0.heap.size≤ad.block)→p.ok w
  stable w w' h hh:=fun hn=>(fixed 1 p.A p.n p.c (bL p.l)).stable w w' (fun i ⟨ad,h1,h2,h3⟩=>h i ⟨ad,h1,h2,h3,h3 ▸ hn ad h1 h2⟩) (hh hn)
def NP (w0:World) (p:Part):Prop:=p.ok w0∨∀ ad,0 < p.n→p.A=some ad→w0.heap.size≤ad.block
section
variable {w0 w w' : World} {rs : List Res} {p : Part}
theorem NP.ok (h:NP w0 p) (S:Zx.St w0 noM rs w) (hr:(newR w0 p).holds w):p.ok w:=h.elim (fun h=>S.rd h) hr
theorem addOld (S:Zx.St w0 noM rs w) (h:p.ok w0):Zx.St w0 noM (rs++[newR w0 p]) w :=
  S.new (Like.refl w) _ (fun _=>S.rd h) fun i ⟨ad,h1,h2,h3,h4⟩=>by
    have:=dP_ h h1 h2
    omega
theorem addNew (S:Zx.St w0 noM rs w) (l:Like w w') (h:it_ w w' p):Zx.St w0 noM (rs++[newR w0 p]) w' :=
  S.new l _ (fun _=>h.1) fun i ⟨ad,h1,h2,h3,h4⟩=>by
    subst h3
    exact ⟨h.2 ad h1 h2,dP_ h.1 h1 h2⟩
theorem NP.new (S:Zx.St w0 noM rs w) (h:it_ w w' p):NP w0 p:=.inr fun ad h1 h2=>Nat.le_trans S.size (h.2 ad h1 h2)
theorem it_.own {A:Option Addr} {n c:Nat} {l:List UInt8} (h:w'.ownsRow w.heap.size 5 1 (.slice A n c) n (bL l)):it_ w w' ⟨A,n,c,l⟩:=by
  have h1:=Fr.of_own h
  exact ⟨h1.1,h1.2⟩
end
def WholeV (w0 w':World) (r:Int × List UInt8 × Int) (u:Value):Prop:=∃ A c,u=.tuple #[.int .i64 r.1,.slice A r.2.1.length c,.int .i64 r.2.2]∧w'.ownsRow w0.heap.size 5 1 (.slice A r.2.1.length c) r.2.1.length (bL r.2.1)
theorem hb_ {w0 w':World} {r:Int × List UInt8 × Int} {e:Int} (h:r=(0,[],e)):WholeV w0 w' r (.tuple #[.int .i64 0,.slice none 0 0,.int .i64 e]):=by
  subst h
  exact ⟨none,0,rfl,World.ownsRow_nil _ _ _ _⟩
def loads (ps:List Part):List (List UInt8):=ps.map Part.l
theorem fl_ (ps:List Part) (p:Part):loads (ps++[p])=loads ps++[p.l]:=by simp [loads]
theorem beq8 (n:Nat) (h:n≤8):decide ((n:Int)=8)=((8 - n:Nat) == 0):=by
  by_cases e:n=8
  · subst e;rfl
  · have h1:((8 - n:Nat) == 0)=false:=by
      cases hb:((8 - n:Nat) == 0) with
      | false=>rfl
      | true=>have:=of_decide_eq_true hb;omega
    rw [h1]
    exact decide_eq_false (by omega)
theorem rest_next {b:List UInt8} {n:Nat} {x:EV} (h8:n < 8) (hk:x.kind=5) (h:(opV b x.base ((8 - (n+1):Nat) == 0)).1=0):rest b (7 - n) x=ft_ x.load (rest b (7 - (n+1)) (opV b x.base ((8 - (n+1):Nat) == 0)).2):=by
  have e:7 - n=8 - (n+1):=by omega
  conv=>lhs;unfold rest
  rw [if_pos hk,e,rdF_ok h,show 8 - (n+1) - 1=7 - (n+1) by omega]
theorem rest_err {b:List UInt8} {n:Nat} {x:EV} {e:Int} (h8:n < 8) (hk:x.kind=5) (h:(opV b x.base ((8 - (n+1):Nat) == 0)).1=e) (he:e≠0):rest b (7 - n) x=(0,[],e):=by
  have e1:7 - n=8 - (n+1):=by omega
  unfold rest
  rw [if_pos hk,e1,rdF_e h he]
  exact aplO_1 Z he
theorem hJ_ {α:Type} {l:List α} {k:Nat} {x : α} (h:l[l.length - 1 - k]?=some x) (hk:k < l.length):l.take (l.length - k)=l.take (l.length - (k+1))++[x]:=by
  have e:l.length - k=(l.length - (k+1))+1:=by omega
  rw [e,List.take_add_one,show l.length - (k+1)=l.length - 1 - k by omega,h]
  rfl
theorem fam_ok {w0 w:World} {rs:List Res} {ps:List Part} {p:Part} (h:NP w0 p) (S:Zx.St w0 noM rs w) (hf:(fam (ps.map (newR w0))).holds w) (hm:p ∈ ps):p.ok w:=h.ok S (hf.1 (newR w0 p) (List.mem_map.2 ⟨p,hm,rfl⟩))
theorem aplR_len (a:List UInt8) (b t:Int) (l:List Del.OV):(bW_ a b t l).1.length≤4000:=by
  by_cases h:Del.eb_ b t l=0
  · by_cases h2:(a.length:Int)=b
    · rw [Del.ev_ h h2]
      obtain ⟨h3,h4⟩:=Del.eT_ h
      rw [← h2] at h4
      have h5:=((Del.hC_ (a:=a) l t).1 h4).2
      show (Del.fs_ a l).length≤4000
      omega
    · rw [Del.dq_ h h2];simp
  · rw [Del.eh_ h];simp
theorem whole (B:Option Addr) (m d:Nat) (b:List UInt8) (x0:EV) (q0:Part) (a0:Int) (w0:World) (hb:Rs w0 1 B m d (bL b)) (hm5:m≤100000) (hq0:q0.ok w0) (hql:q0.l=x0.load) (hx0:EOk a0 false x0) (ha:a0≤1000000) :
    Calls Tryz.prog 67 #[.slice B m d,.agg (enA x0 q0)] w0 fun e w'=>∃ u,e=.returned u∧Like w0 w'∧WholeV w0 w' (rest b 7 x0) u:=by
 refine v_ (env:=[(0,.slice B m d),(1,.agg (enA x0 q0))]) [.slice B m d,.agg (enA x0 q0)] Tryz.func67 Z Tryz.ntmps67 Z Z ?_;have hl:=hb.lenb;have hcap:=hb.cap;have hmax:=hb.max;have S0:=St.start w0 noM;refine a_ fun K1 hK1=>b_ (L_o (bO_ Z S0 Z fun b1 w1 hb1 S1=>La Z Z (La Z Z (Lan Z Z (hK1 _ _ (a_ fun K2 hK2=>b_ (have S2:=S1.nilrow 22 1;Lan Z Z (hK2 _ _ ?_))))))));refine a_ fun K3 hK3=>r_ ?_;refine gw_ [(0,_),(3,_)] (fun (ps:List Part) (x:EV) (q:Part) (a:Int) (A1:Option Addr) (c1:Nat)=>[(7,.slice A1 ps.length c1)]) (fun (ps:List Part) (x:EV) (q:Part) (a:Int) (A1:Option Addr) (c1:Nat)=>8 - ps.length) (fun (ps:List Part) (x:EV) (q:Part) (a:Int) (A1:Option Addr) (c1:Nat) (w:World)=>(ps.length≤8∧(rest b 7 x0)=(loads ps).foldr ft_ (rest b (7 - ps.length) x)∧EOk a (8 - ps.length == 0) x∧a≤1000000∧q.l=x.load∧NP w0 q∧(∀ p ∈ ps,NP w0 p∧p.l.length≤4000))∧Zx.St w0 noM [blk b1 127 (enA x q),row 22 1 A1 ps.length c1 (ps.map pv),fam (ps.map (newR w0)),newR w0 q] w) [] x0 q0 a0 none 0 (Sc Z (Sub.nil _)) (Sub.cons Z Z (Sub.cons Z Z (Sub.nil _))) ?_ ?_
 ·
  have S3:=(S2.nilrow 22 1).fam0;have S3b:=addOld S3 hq0;have S3c:=S3b.sel [0,1,3,4] (by decide);exact ⟨⟨by simp,rfl,hx0,ha,hql,.inl hq0,fun p hp=>(List.not_mem_nil hp).elim⟩,S3c⟩
 ·
  intro ps x q a A1 c1 w4 hrel;obtain ⟨⟨hpl,hR,hxe,ha,hqv,hqn,hps⟩,S4⟩:=hrel;refine a_ fun K4 hK4=>a_ fun K5 hK5=>b_ (L_y (g_ 0 Tryz.underlying127 Z sz3 Z Z Z) Z (L_y (t_ Tryz.underlying3 Z Z (((S4.blk 0 Z).cell _).trans (by rfl))) Z ?_));refine L_y (am_ Z Z) Z (f_ (hK5 _ _ ?_));refine o_ Z (fun h16=>?_) (fun h16=>?_)
  ·
   obtain ⟨hb1,hb2,hb3⟩:=hxe.base h16;have hp8:ps.length≠8:=fun e=>by rw [e] at hb3;cases hb3
   refine j_ (hK4 _ _ (r_ (a_ fun K6 hK6=>Rm Z Z (L_y (g_ 4 Tryz.underlying127 Z br_ Z Z Z) Z (L_y (t_ Tryz.underlying22 Z Z (((S4.blk 0 Z).cell _).trans (by rfl))) Z ?_)))));refine L_o (ah_ [pv q] cS_ eW_ S4 Z Z Z Z Z Z Z Z fun b5 w5 S5=>L_o (ay_ cS_ S5 1 Z Z Z (by first | exact S5.row 1 Z | exact S5.fix 2 Z | exact S5.row 4 Z) (by intro u hu;obtain rfl:=List.mem_singleton.1 hu;rfl) Z (by omega) (by omega) fun A6 c6 w6 S6=>?_));have S6d:=S6.drop (rs':=[_,_,_,_]) (.cons_cons _ (.cons_cons _ (.cons_cons _ (.cons_cons _ (.cons _ (.refl _))))));refine Lan Z Z (hK6 _ _ (a_ fun K7 hK7=>Rm Z Z (L_y (g_ 1 Tryz.underlying127 Z sz3 Z Z Z) Z (L_y (t_ Tryz.underlying3 Z Z (((S6d.blk 0 Z).cell _).trans (by rfl))) Z ?_))));refine Lm Z Z (L_y (I_ Tryz.underlying155 Z) Z (L_y (am_ Z Z) Z (L_o (n_ Tryz.func66 Z Z (open_ B m d b x.base _ w6 (S6d.rd hb) hm5 (by omega)) Z Z ?_))));rintro e7 w7 ⟨v7,rfl,l7,hO7⟩;refine ⟨_,rfl,?_⟩;have S7:=S6d.like l7;rw [beq8 (ps.length+1) (by omega)] at hO7;obtain ⟨q2,rfl,hq2,hf2⟩:=hO7;have S8:=addNew S6d l7 hf2;have hn2:=NP.new S6d hf2;refine Lm Z Z (L_y (m_ Z Z) Z (L_y (m_ Z Z) Z (L_o (H_ zz127 S8 Z fun b9 w9 hb9 S9=>L_o (G_ S9 5 Z Z Z bD_ (by rfl) (bV_ _ _) fun w10 S10=>?_)))));refine Lan Z Z (hK7 _ _ (a_ fun K8 hK8=>a_ fun K9 hK9=>Rm Z Z (L_y (ab_ Z Z) Z (f_ (hK9 _ _ ?_)))));refine o_ Z (fun h33=>?_) (fun h33=>?_)
   ·
    refine a_ fun K10 hK10=>Rm Z Z (La Z Z (La Z Z (Lan Z Z (hK10 _ _ (l_ (ur (cN_ Z Z Z Z (⟨_,rfl,S10.like0,hb_ ?_⟩))))))));rw [hR,rest_err (by omega) h16 Z h33];exact hZ_ _ h33
   ·
    refine j_ (hK8 _ _ (b_ (L_y (Y_ Tryz.underlying127 Z bD_ Z (S10.blk 5 Z) (show _=(enA (opV b x.base (8 - (ps.length+1) == 0)).2 q2).toList∧_ from ⟨rfl,rfl⟩)) Z (L_o (G_ S10 0 Z Z Z bD_ (by rfl) (fun u hu=>bV_ _ _ u hu) fun w11 S11=>?_)))));refine f_ ?_;have S90:=S11.sel [0,1,4,2,3] (by decide);have S91:Zx.St w0 noM ([_,_,_]++[fam (ps.map (newR w0)++[]),newR w0 q]) w11:=S90.cast (by rw [List.append_nil];rfl);have S92:=St.famIn S91;have S93:=S92.sel [0,1,3,2] (by decide);have hx2:=(opV_ok (b:=b) (at_:=x.base) (deep:=(8 - (ps.length+1) == 0)) (Classical.not_not.1 h33)).1;have S94:Zx.St w0 noM [blk b1 127 (enA (opV b x.base (8 - (ps.length+1) == 0)).2 q2),row 22 1 A6 (ps++[q]).length c6 ((ps++[q]).map pv),fam ((ps++[q]).map (newR w0)),newR w0 q2] w11:=S93.cast (by simp only [List.length_append,List.map_append,List.length_singleton,List.map_cons,List.map_nil];rfl);refine ⟨ps++[q],(opV b x.base (8 - (ps.length+1) == 0)).2,q2,x.base,A6,c6,by simp only [List.length_append,List.length_singleton];omega,⟨⟨by simp only [List.length_append,List.length_singleton];omega,by rw [fl_,fo_,hR,rest_next (by omega) h16 (Classical.not_not.1 h33),hqv,List.length_append];rfl,by rw [List.length_append];exact hx2,by omega,hq2,hn2,fun p hp=>by rcases List.mem_append.1 hp with hp | hp;exact hps p hp;(obtain rfl:=List.mem_singleton.1 hp);exact ⟨hqn,by rw [hqv];exact hxe.len⟩⟩,S94⟩,?_⟩;exact (Sub.cons Z (by rw [List.length_append];rfl) (Sub.cons Z Z (Sub.cons Z Z (Sub.nil _))))
  ·
   have hR1:rest b (7 - ps.length) x=(x.kind,x.load,0):=by unfold rest;rw [if_neg h16]
   rw [hR1, ← hqv] at hR;have hql4:q.l.length≤4000:=by rw [hqv];exact hxe.len
   refine K_ (hK3 _ _ (a_ fun K11 hK11=>b_ (L_y (g_ 4 Tryz.underlying127 Z br_ Z Z Z) Z (L_y (t_ Tryz.underlying22 Z Z (((S4.blk 0 Z).cell _).trans (by rfl))) Z ?_))));refine Lan Z Z (hK11 _ _ (a_ fun K12 hK12=>a_ fun K13 hK13=>Rm Z Z (L_y (I_ Tryz.underlying155 Z) Z (Lm Z Z (f_ (hK13 _ _ (r_ ?_)))))));refine bX_ [(3,_),(7,_),(39,_)] (fun (k:Nat) (bp:Part)=>[(40,.int .i64 (k:Int)),(10,pv bp)]) (fun (k:Nat) (bp:Part)=>ps.length - k) (fun (k:Nat) (bp:Part) (w:World)=>(k≤ps.length∧(rest b 7 x0)=(loads (ps.take (ps.length - k))).foldr ft_ (x.kind,bp.l,0)∧NP w0 bp∧bp.l.length≤4000)∧Zx.St w0 noM [blk b1 127 (enA x q),row 22 1 A1 ps.length c1 (ps.map pv),fam (ps.map (newR w0)),newR w0 bp] w) 0 q (Sc Z (Sc Z (Sub.nil _))) (Sub.cons Z Z (Sub.cons Z Z (Sub.cons Z Z (Sub.nil _)))) ?_ ?_
   ·
    exact ⟨⟨by omega,by rw [Nat.sub_zero,List.take_length];exact hR,hqn,hql4⟩,S4⟩
   ·
    intro k bp w12 hrel;obtain ⟨⟨hk,hR2,hbn,hb4⟩,S12⟩:=hrel;refine a_ fun K14 hK14=>b_ (L_y (L_ Z Z) Z (f_ (hK14 _ _ (a_ fun K15 hK15=>?_))));refine o_ Z (fun h41=>?_) (fun h41=>?_)
    ·
     obtain ⟨p,hp⟩:∃ p,ps[ps.length - 1 - k]?=some p:=⟨_,List.getElem?_eq_getElem (by omega)⟩;have hpm:=List.mem_of_getElem? hp;obtain ⟨hpn,hp4⟩:=hps p hpm;have hpo:=fam_ok hpn S12 (S12.get 2 Z) hpm;have hpo2:=hpo.lenb;refine j_ (hK15 _ _ (a_ fun K16 hK16=>r_ (a_ fun K17 hK17=>Rm Z Z (Lan Z Z (hK17 _ _ (a_ fun K18 hK18=>Rm Z Z (Lm Z Z ?_)))))));refine L_y (I_ Tryz.underlying155 Z) Z (L_y (ax_ Z Z (z_ (by omega))) Z (Lm Z Z (L_y (ax_ Z Z (z_ (by omega))) Z (L_y (T_ Tryz.underlying155 br_ Z Z (S12.row 1 Z) (Nt.mk (by omega):Nt _ (ps.length - 1 - k)) (by omega)) Z (L_y (cj_ Tryz.underlying22 Z Z (S12.row 1 Z) (getP hp)) Z (L_o (n_ Tryz.func98 Z Z (Del.preadH _ _ _ p.l w12 hpo (by omega)) Z Z ?_)))))));rintro e13 w13 ⟨v13,rfl,l13,A13,c13,ops13,R13,rfl,hh13,dd13,hr13,hv13⟩;refine ⟨_,rfl,(have S13:=S12.new l13 _ hh13 dd13;Lm Z Z (L_y (m_ Z Z) Z (L_y (m_ Z Z) Z (L_o (H_ iM_ S13 Z fun b14 w14 hb14 S14=>L_o (G_ S14 5 Z Z Z cr_ (by rfl) (by intro u hu;simp [scA] at hu;rcases hu with rfl | rfl | rfl <;> rfl) fun w15 S15=>?_))))))⟩;refine Lan Z Z (hK18 _ _ (a_ fun K19 hK19=>a_ fun K20 hK20=>Rm Z Z (L_y (ab_ Z Z) Z (f_ (hK20 _ _ ?_)))));refine o_ Z (fun h56=>?_) (fun h56=>?_)
     ·
      refine a_ fun K21 hK21=>Rm Z Z (La Z Z (La Z Z (Lan Z Z (hK21 _ _ (l_ (ur (cN_ Z Z Z Z (⟨_,rfl,S15.like0,hb_ ?_⟩))))))));rw [hR2,hJ_ hp (by omega),fl_,fo_,aplO_2 Z h56];exact hZ_ _ h56
     ·
      refine j_ (hK19 _ _ (a_ fun K22 hK22=>Rm Z Z (L_y (Y_ Tryz.underlying179 Z cr_ Z (S15.blk 5 Z) (show _=(scA (ag_ p.l).1 (ag_ p.l).2.1 _ _ _).toList∧_ from ⟨rfl,rfl⟩)) Z (L_o (n_ Tryz.func99 Z Z (Del.papply bp.A bp.n bp.c bp.l _ _ _ ops13 _ _ w15 (hbn.ok S15 (S15.get 3 Z)) (hr13 _ (S15.get 4 Z)).1 (hr13 _ (S15.get 4 Z)).2) Z Z ?_)))));rintro e16 w16 ⟨v16,rfl,l16,A16,c16,rfl,O16⟩;refine ⟨_,rfl,?_⟩;have S16:=S15.like l16;rw [hv13] at O16;rw [hv13];have S17:=addNew S15 l16 (it_.own O16);have hn3:=NP.new S15 (it_.own O16);refine Lm Z Z (L_y (m_ Z Z) Z (L_y (m_ Z Z) Z (La Z Z (Lan Z Z (hK22 _ _ (a_ fun K23 hK23=>Rm Z Z (L_y (ab_ Z Z) Z (f_ (hK23 _ _ ?_)))))))));refine o_ Z (fun h65=>?_) (fun h65=>?_)
      ·
       refine a_ fun K24 hK24=>Rm Z Z (La Z Z (La Z Z (Lan Z Z (hK24 _ _ (l_ (ur (cN_ Z Z Z Z (⟨_,rfl,S17.like0,hb_ ?_⟩))))))));rw [hR2,hJ_ hp (by omega),fl_,fo_,aplO_3 Z (Classical.not_not.1 h56) h65];exact hZ_ _ h65
      ·
       refine j_ (hK16 _ _ (b_ (L_y (w_ Z Z (z_ (by omega))) Z (Lm Z Z (f_ (have S90:=S17.sel [0,1,2,6] (by decide);⟨k+1,⟨A16,(bW_ bp.l (ag_ p.l).1 (ag_ p.l).2.1 (ag_ p.l).2.2.1).1.length,c16,(bW_ bp.l (ag_ p.l).1 (ag_ p.l).2.1 (ag_ p.l).2.2.1).1⟩,by omega,⟨⟨by omega,by rw [hR2,hJ_ hp (by omega),fl_,fo_,aplO_4 Z (Classical.not_not.1 h56) (Classical.not_not.1 h65)],hn3,aplR_len _ _ _ _⟩,S90⟩,?_⟩))))));exact (Sc Z (Sc Z (Sub.cons Z Z (Sub.cons Z Z (Sub.cons Z Z (Sub.nil _))))))
    ·
     have hbo:=hbn.ok S12 (S12.get 3 Z);have hbpl:=hbo.lenb;refine K_ (hK12 _ _ (a_ fun K25 hK25=>ak_ [(0,true),(1,true),(2,true),(3,false),(4,true),(5,true),(6,true)] aS_ (by kernel_rfl) fun w18 l18=>have S18:=S12.like l18;u_ Z (g_ 0 Tryz.underlying127 Z sz3 Z Z Z) Z (u_ Z (t_ Tryz.underlying3 Z Z (((S18.blk 0 Z).cell _).trans (by rfl))) Z ?_)));refine u_ Z (p_ Z) Z (eH_ Z (n_ Tryz.func48 Z Z (Obj.clone bp.A bp.n bp.c bp.l w18 (hbn.ok S18 (S18.get 3 Z)) (by omega)) Z Z ?_));rintro e19 w19 ⟨v19,rfl,l19,A19,c19,rfl,O19⟩;refine ⟨_,rfl,l19,(have S19:=S18.adopt l19 O19;have q19:=l19;u_ Z (J_ Z) Z (u_ Z (J_ Z) Z (u_ Z (J_ Z) Z (aH_ (hK25 _ _ (l_ (ur (cN_ Z Z Z Z ?_))))))))⟩;obtain rfl:k=ps.length:=by omega
     rw [Nat.sub_self,List.take_zero] at hR2;have hR3:(rest b 7 x0)=(x.kind,bp.l,0):=hR2;rw [hR3];have hO:=S19.own 4 Z;rw [← hbpl] at hO;exact ⟨_,rfl,S19.like0,A19,c19,by rw [hbpl];rfl,hO⟩
theorem read_ (B:Option Addr) (m d:Nat) (b:List UInt8) (at_:Int) (w0:World) (hb:Rs w0 1 B m d (bL b)) (hm5:m≤100000) (hat : -9223372036854775808≤at_∧at_≤9223372036854775807) :
    Calls Tryz.prog 32 #[.slice B m d,.int .i64 at_] w0 fun e w'=>∃ u,e=.returned u∧Like w0 w'∧WholeV w0 w' (readP b at_) u:=by
 refine v_ (env:=[(0,.slice B m d),(1,.int .i64 at_)]) [.slice B m d,.int .i64 at_] Tryz.func32 Z Tryz.ntmps32 Z Z ?_;have hl:=hb.lenb;have hcap:=hb.cap;have hmax:=hb.max;have S0:=St.start w0 noM;refine a_ fun K1 hK1=>b_ (La Z Z (La Z Z (Lan Z Z (hK1 _ _ (a_ fun K2 hK2=>Rm Z Z (Lm Z Z (L_o (n_ Tryz.func66 Z Z (open_ B m d b at_ false w0 (S0.rd hb) hm5 hat) Z Z ?_))))))));rintro e1 w1 ⟨v1,rfl,l1,hO1⟩;refine ⟨_,rfl,?_⟩;have S1:=S0.like l1;obtain ⟨q1,rfl,hq1,hf1⟩:=hO1;have S2:=addNew S0 l1 hf1;have hn1:=NP.new S0 hf1;refine Lm Z Z (L_y (m_ Z Z) Z (L_y (m_ Z Z) Z (L_o (H_ zz127 S2 Z fun b3 w3 hb3 S3=>L_o (G_ S3 1 Z Z Z bD_ (by rfl) (bV_ _ _) fun w4 S4=>?_)))));refine Lan Z Z (hK2 _ _ (a_ fun K3 hK3=>a_ fun K4 hK4=>Rm Z Z (L_y (ab_ Z Z) Z (f_ (hK4 _ _ ?_)))));refine o_ Z (fun h16=>?_) (fun h16=>?_)
 ·
  refine a_ fun K5 hK5=>Rm Z Z (La Z Z (La Z Z (Lan Z Z (hK5 _ _ (l_ (ur (cN_ Z Z Z Z (⟨_,rfl,S4.like0,hb_ ?_⟩))))))));exact rdF_e (f:=8) Z h16
 ·
  obtain ⟨hok,hk12,hkl,_⟩:=opV_ok (b:=b) (at_:=at_) (deep:=false) (Classical.not_not.1 h16);refine j_ (hK3 _ _ (a_ fun K6 hK6=>Rm Z Z (L_y (Y_ Tryz.underlying127 Z bD_ Z (S4.blk 1 Z) (show _=(enA (opV b at_ false).2 q1).toList∧_ from ⟨rfl,rfl⟩)) Z (L_o (n_ Tryz.func67 Z Z (whole B m d b (opV b at_ false).2 q1 at_ w4 (S4.rd hb) hm5 (hn1.ok S4 (S4.get 0 Z)) hq1 hok (by omega)) Z Z ?_)))));rintro e5 w5 ⟨v5,rfl,l5,hW5⟩;refine ⟨_,rfl,?_⟩;have S5:=S4.like l5;obtain ⟨A5,c5,rfl,O5⟩:=hW5;have S6:=S4.adopt l5 O5;refine L_y (m_ Z Z) Z (L_y (m_ Z Z) Z (L_y (m_ Z Z) Z (La Z Z (La Z Z (Lan Z Z (hK6 _ _ (l_ (ur (cN_ Z Z Z Z ?_)))))))));have hr9:readP b at_=rest b 7 (opV b at_ false).2:=rdF_ok (f:=8) (Classical.not_not.1 h16);rw [hr9];exact ⟨_,rfl,S6.like0,_,_,rfl,S6.own 2 Z⟩
end Pak
namespace Pak
open Go.RowKit Zk Zx
open Sha (N bC_ cu_ cZ_ dN_ dM_)
open Go.Proofs.YtgaklngnfecdaaaGreat.Obj (ad_ bG_ aC_ V_ az_ aL_ zB A_ aI_)
open Oct (vaN rwL rwP rwE rnL rnP rnE be vr tl x_)
open Del (scA opf OP OkO mkV bm_ cy_ ag_ bW_)
def gc_ (its:List It):Prop:=its.length≤24∧∀ x ∈ its,x.p.n≤300
theorem write_ {A:Option Addr} {n c:Nat} {its:List It} {chain:Int} {w0:World} (hits:Rs w0 2 A n c (its.flatMap itf)) (hok:OkI w0 its) (hs:gc_ its) :
    Calls Tryz.prog 28 #[.slice A n c,.int .i64 chain] w0 fun e w'=>∃ u,e=.returned u∧WriteV w0 w' chain (its.map It.v) u:=by
  by_cases h:cf_ (its.map It.v)=0
  · exact write1 A n c its chain w0 hits hok hs.2 hs.1 h
  · exact write0 A n c its chain w0 hits hok hs.2 hs.1 h
def hiB:List UInt8:=[104,105]
def hiI (p:Part):It:=⟨1,p⟩
theorem hi_ok:ad_ 1 hiB=0:=by unfold ad_ hiB;rfl
theorem hi_name:cf_ [(1,hiB)]=0:=kR_ (by unfold nmE;rw [if_neg (fun q=>q hi_ok)];rfl) (by simp [eR_])
theorem hi_wr:wrE 2 [(1,hiB)]=0:=by unfold wrE;rw [if_neg (by omega)];exact hi_name
theorem fn_:Written 2 [(1,hiB)]:=written (by omega) (by simp) (fun x hx=>by obtain rfl:=List.mem_singleton.1 hx;decide) (fun x hx=>by obtain rfl:=List.mem_singleton.1 hx;exact hi_ok)
theorem hi_os:∃ o,(bL_ 2 [(1,hiB)]).os[0]?=some o∧o.at_=12:=by
  have h1:=fn_.cnt
  obtain ⟨o,ho⟩:∃ o,(bL_ 2 [(1,hiB)]).os[0]?=some o:=⟨_,List.getElem?_eq_getElem (by rw [h1];simp)⟩
  refine ⟨o,ho,?_⟩
  have h2:(bL_ 2 [(1,hiB)]).os[0]?.elim (bL_ 2 [(1,hiB)]).bs.length Ob.at_=12:=first_at
  rwa [ho] at h2
theorem hi_read:readP (cs_ 2 [(1,hiB)]) 12=(1,hiB,0):=by
  obtain ⟨o,ho,h12⟩:=hi_os
  have h:=fn_.read ho
  rw [h12] at h
  have hi:=fn_.item ho
  have h2:(1,hiB)=(o.kind,o.l):=Option.some.inj hi
  have e1:o.kind=1:=(congrArg Prod.fst h2).symm
  have e2:o.l=hiB:=(congrArg Prod.snd h2).symm
  rw [e1,e2] at h
  exact h
theorem hi_len:(cs_ 2 [(1,hiB)]).length≤100000:=by
  have:=fn_.hi
  unfold cs_
  rw [List.length_append,Sha.ai_]
  omega
theorem jU_ {w0 w':World} {chain:Int} {l:List IV} {u:Value} (h:WriteV w0 w' chain l u) (he:wrE chain l=0):∃ A c A2 c2,u=.tuple #[.slice A (cs_ chain l).length c,.slice A2 l.length c2,.int .i64 0]∧Zx.St w0 noM [row 5 1 A (cs_ chain l).length c (bL (cs_ chain l)),row 67 34 A2 l.length c2 ((bL_ chain l).os.flatMap plO)] w':=by
  rcases h with ⟨h,_⟩ | ⟨_,h⟩
  · exact absurd he h
  · exact h
theorem hi_str (l:List UInt8) (h:l=hiB):decide ((⟨l.toArray⟩:ByteArray)=⟨#[104,105]⟩)=true:=by subst h;rfl
theorem small (A:Option Addr) (n c:Nat) (its:List It) (w0:World) (hits:Rs w0 2 A n c (its.flatMap itf)) :
    Calls Tryz.prog 26 #[.slice A n c] w0 fun e w'=>∃ u,e=.returned u∧Like w0 w'∧∃ b,u=.bool b∧(b=true↔gc_ its):=by
 refine v_ (env:=[(0,.slice A n c)]) [.slice A n c] Tryz.func26 Z Tryz.ntmps26 Z Z ?_;have hn:=cL_ hits;have hcap:=hits.cap;have hmax:=hits.max;have S0:=St.start w0 noM;refine a_ fun K1 hK1=>b_ (Lan Z Z (hK1 _ _ (a_ fun K2 hK2=>a_ fun K3 hK3=>b_ (Lan Z Z (hK3 _ _ (r_ ?_))))));refine an_ [(0,_)] (fun (k:Nat)=>[(3,.int .i64 (k:Int))]) (fun (k:Nat)=>n - k) (fun (k:Nat) (w:World)=>(k≤n∧k≤24∧∀ x ∈ its.take k,x.p.n≤300)∧Zx.St w0 noM [] w) 0 (Sc Z (Sub.nil _)) (Sub.cons Z Z (Sub.nil _)) ?_ ?_
 ·
  exact ⟨⟨by omega,by omega,fun x hx=>by simp at hx⟩,S0⟩
 ·
  intro k w1 hrel;obtain ⟨⟨hk,hk2,hall⟩,S1⟩:=hrel;refine a_ fun K4 hK4=>a_ fun K5 hK5=>Rm Z Z (Lm Z Z (L_y (I_ Tryz.underlying48 Z) Z (L_y (L_ Z Z) Z (f_ (hK5 _ _ ?_)))));refine o_ Z (fun h7=>?_) (fun h7=>?_)
  ·
   obtain ⟨x,hx⟩:∃ x,its[k]?=some x:=⟨_,List.getElem?_eq_getElem (by omega)⟩;have hxm:=List.mem_of_getElem? hx;refine j_ (hK4 _ _ (a_ fun K6 hK6=>r_ (a_ fun K7 hK7=>Rm Z Z (L_y (cq_ Z Z) Z (Lm Z Z ?_)))));refine y_ 12 Z (fun h12=>?_) (fun h12=>?_)
   ·
    refine h_ Z Z Z (h_ Z Z Z (h_ Z Z Z (h_ Z Z Z (h_ Z Z Z (h_ Z Z Z (h_ Z Z Z (Lp Z Z Z (f_ (hK7 _ _ (W_ Z (a_ fun K8 hK8=>b_ (La Z Z ?_))))))))))));refine f_ (hK8 _ _ (l_ (ur (F_ Z Z ?_))));exact ⟨_,rfl,S1.like0,_,rfl,by constructor;(intro q;cases q);(intro q;have q1:=q.1;have q2:=q.2 x hxm;omega)⟩
   ·
    refine d_ Z Z (Lm Z Z (d_ Z Z (Lm Z Z (d_ Z Z (L_y (T_ Tryz.underlying48 gx_ Z Z (S1.rd hits) inferInstance (by omega)) Z (d_ Z Z (L_y (aE_ 1 Tryz.underlying65 Z br_ Z Z (S1.rd hits) (by omega) Z) Z (d_ Z Z (L_y (cl_ Tryz.underlying22 Z Z (S1.rd hits) (by omega) ((by_ itf 2 bU_ its k x hx 1 (by omega)).trans (by rfl))) Z ?_)))))))));refine d_ Z Z (L_y (I_ Tryz.underlying22 Z) Z (d_ Z Z (L_y (Z_ Z Z) Z (Lp Z Z Z (f_ (hK7 _ _ ?_))))));refine o_ Z (fun h20=>?_) (fun h20=>?_)
    ·
     refine a_ fun K9 hK9=>b_ (Lan Z Z (hK9 _ _ (l_ (ur (F_ Z Z ?_)))));exact ⟨_,rfl,S1.like0,_,rfl,by constructor;(intro q;cases q);(intro q;have q1:=q.1;have q2:=q.2 x hxm;omega)⟩
    ·
     refine j_ (hK6 _ _ (Rm Z Z (L_y (w_ Z Z (z_ (by omega))) Z (Lan Z Z (⟨k+1,by omega,⟨⟨by omega,by omega,fun y hy=>by rw [take1i hx] at hy;rcases List.mem_append.1 hy with q | q;exact hall y q;(obtain rfl:=List.mem_singleton.1 q);omega⟩,S1⟩,?_⟩)))));exact (Sc Z (Sub.cons Z Z (Sub.nil _)))
  ·
   refine K_ (hK2 _ _ (a_ fun K10 hK10=>b_ (Lan Z Z (hK10 _ _ (l_ (ur (F_ Z Z ?_)))))));exact ⟨_,rfl,S1.like0,_,rfl,⟨fun _=>⟨by omega,fun y hy=>hall y (by rw [List.take_of_length_le (by omega)];exact hy)⟩,fun _=>rfl⟩⟩
theorem works  (w0:World)  :
    Calls Tryz.prog 27 #[] w0 fun e w'=>∃ u,e=.returned u∧Like w0 w'∧u=.bool true:=by
 refine v_ (env:=[]) [] Tryz.func27 Z Tryz.ntmps27 Z Z ?_;have S0:=St.start w0 noM;refine a_ fun K1 hK1=>?_;obtain ⟨o,ho,h12⟩:=hi_os;refine b_ (Lan Z Z (hK1 _ _ (a_ fun K2 hK2=>b_ (L_o (ah_ [_,_] ba_ zz5 S0 Z Z Z Z Z Z Z Z fun b1 w1 S1=>L_o (jr_ S1 0 Z Tryz.underlying22 Tryz.underlying5 Z (by omega) Z fun w2 S2=>L_y (C_ Z (show _=some #[.int .i64 1,.slice (some ⟨b1,0,none⟩) 2 2] by kernel_rfl)) Z (L_o (ah_ (itf (hiI ⟨some ⟨b1,0,none⟩,2,2,hiB⟩)) te48 zz65 S2 Z Z Z Z Z Z Z Z fun b3 w3 S3=>L_o (n_ Tryz.func28 Z Z (write_ (its:=[hiI ⟨some ⟨b1,0,none⟩,2,2,hiB⟩]) (S3.row 1 Z) (fun x hx=>by obtain rfl:=List.mem_singleton.1 hx;exact S3.fix 0 Z) ⟨by simp,fun x hx=>by obtain rfl:=List.mem_singleton.1 hx;show 2≤300;omega⟩) Z Z ?_)))))))));rintro e4 w4 ⟨v4,rfl,hW4⟩;refine ⟨_,rfl,?_⟩;have S4:=S3;obtain ⟨Ap,cp,Aq,cq,rfl,T4⟩:=jU_ hW4 hi_wr;have S5:=S3.adoptS T4;refine Lm Z Z (L_y (m_ Z Z) Z (L_y (m_ Z Z) Z (L_y (m_ Z Z) Z (La Z Z (La Z Z (Lan Z Z (hK2 _ _ (a_ fun K3 hK3=>a_ fun K4 hK4=>Rm Z Z (L_y (ab_ Z Z) Z ?_)))))))));refine Lm Z Z ?_;refine y_ 18 Z (fun h18=>?_) (fun h18=>?_)
 ·
  exact absurd Z h18
 ·
  refine d_ Z Z (Lm Z Z (d_ Z Z (L_y (I_ Tryz.underlying50 Z) Z (d_ Z Z (L_y (ab_ Z Z) Z (Lp Z Z Z (Lm Z Z ?_)))))));refine y_ 23 Z (fun h23=>?_) (fun h23=>?_)
  ·
   exact absurd Z h23
  ·
   refine d_ Z Z (Lm Z Z (d_ Z Z (L_y (T_ Tryz.underlying50 sz67 Z Z (S5.row 3 Z) inferInstance (by omega)) Z (d_ Z Z (L_y (aE_ 32 Tryz.underlying67 Z sz3 Z Z (S5.row 3 Z) (by omega) Z) Z (d_ Z Z (L_y (cl_ Tryz.underlying3 Z Z (S5.row 3 Z) (by omega) ((by_ plO 34 es_ _ 0 o ho 32 (by omega)).trans ((jk_ o).trans (show _=some (Value.int .i64 12) by rw [h12];rfl)))) Z ?_)))))));refine d_ Z Z (L_y (ab_ Z Z) Z (Lp Z Z Z (f_ (hK4 _ _ ?_))));refine o_ Z (fun h29=>?_) (fun h29=>?_)
   ·
    exact absurd Z h29
   ·
    refine j_ (hK3 _ _ (a_ fun K5 hK5=>Rm Z Z (L_o (n_ Tryz.func32 Z Z (read_ _ _ _ (cs_ 2 [(1,hiB)]) 12 w4 (S5.row 2 Z) hi_len (by omega)) Z Z ?_))));rintro e8 w8 ⟨v8,rfl,l8,hW8⟩;refine ⟨_,rfl,?_⟩;have S8:=S5.like l8;rw [hi_read] at hW8;obtain ⟨A8,c8,rfl,O8⟩:=hW8;have S9:=S5.adopt l8 O8;refine Lm Z Z (L_y (m_ Z Z) Z (L_y (m_ Z Z) Z (L_y (m_ Z Z) Z (La Z Z (La Z Z (Lan Z Z (hK5 _ _ (a_ fun K6 hK6=>Rm Z Z (L_y (am_ Z Z) Z (Lm Z Z ?_))))))))));refine y_ 38 Z (fun h38=>?_) (fun h38=>?_)
    ·
     refine d_ Z Z (Lm Z Z (d_ Z Z (L_y (am_ Z Z) Z (Lp Z Z Z (Lm Z Z ?_)))));refine y_ 42 Z (fun h42=>?_) (fun h42=>?_)
     ·
      refine d_ Z Z (Lm Z Z (d_ Z Z (L_y (co_ Tryz.underlying22 Tryz.underlying5 Tryz.underlying9 Z (by first | exact S9.fix 0 Z | exact S9.row 1 Z | exact S9.row 4 Z)) Z ?_)));refine d_ Z Z (L_y (cW_ Z Z) Z (Lp Z Z Z (Lan Z Z (hK6 _ _ (l_ (ur (F_ Z Z ?_)))))));exact ⟨_,rfl,S9.like0,congrArg Value.bool (hi_str _ Z)⟩
     ·
      exact absurd Z h42
    ·
     exact absurd Z h38
end Pak
namespace Pak
open Go.RowKit Zk Zx
open Sha (N bC_ cu_ cZ_ dN_ dM_)
open Go.Proofs.YtgaklngnfecdaaaGreat.Obj (ad_ bG_ aC_ V_ az_ aL_ zB A_ aI_)
open Oct (vaN rwL rwP rwE rnL rnP rnE be vr tl x_)
open Del (scA opf OP OkO mkV bm_ cy_ ag_ bW_)
end Pak
end Go.Proofs.YtgaklngnfecdaaaGreat
