import Derived.Test.YtgaklngnfecdaaaGreatMgPScans10
import Derived.Test.YtgaklngnfecdaaaGreatMgPScans8
import Derived.Test.YtgaklngnfecdaaaGreatMgPScans9
import Derived.Test.YtgaklngnfecdaaaGreatMgPScans3
set_option linter.unusedSimpArgs false
set_option linter.unusedVariables false
set_option maxRecDepth 100000
set_option maxHeartbeats 8000000
namespace Go.Proofs.YtgaklngnfecdaaaGreat
namespace Pak
open Go.RowKit Zk Zx
open Sha (N bO_ cO_ dS_ fz_ fy_)
open Go.Proofs.YtgaklngnfecdaaaGreat.Obj (ai_ bV_ aT_ Z_ aN_ be_ zB C_ aR_)
open Oct (vaN rwL rwP rwE rnL rnP rnE be vr tl N_)
open Del (scA opf OP OkO mkV bR_ dG_ aj_ bW_)
def newR (w0:World) (p:Part):Res where
  dom i:=∃ ad,0 < p.n∧p.A=some ad∧ad.block=i∧w0.heap.size≤i
  holds w:=(∀ ad,0 < p.n→p.A=some ad→w0.heap.size≤ad.block)→p.ok w
  stable w w' h hh:=fun hn=>(fixed 1 p.A p.n p.c (bL p.l)).stable w w' (fun i ⟨ad,h1,h2,h3⟩=>h i ⟨ad,h1,h2,h3,h3 ▸ hn ad h1 h2⟩) (hh hn)
def NP (w0:World) (p:Part):Prop:=p.ok w0∨∀ ad,0 < p.n→p.A=some ad→w0.heap.size≤ad.block
section
variable {w0 w w' : World} {rs : List Res} {p : Part}
theorem NP.ok (h:NP w0 p) (S:Zx.St w0 noM rs w) (hr:(newR w0 p).holds w):p.ok w:=h.elim (fun h=>S.rd h) hr
theorem addOld (S:Zx.St w0 noM rs w) (h:p.ok w0):Zx.St w0 noM (rs++[newR w0 p]) w :=
  S.new (Like.refl w) _ (fun _=>S.rd h) fun i ⟨ad,h1,h2,h3,h4⟩=>by
    have:=bT_ h h1 h2
    omega
theorem fu_ (S:Zx.St w0 noM rs w) (l:Like w w') (h:dQ_ w w' p):Zx.St w0 noM (rs++[newR w0 p]) w' :=
  S.new l _ (fun _=>h.1) fun i ⟨ad,h1,h2,h3,h4⟩=>by
    subst h3
    exact ⟨h.2 ad h1 h2,bT_ h.1 h1 h2⟩
theorem NP.new (S:Zx.St w0 noM rs w) (h:dQ_ w w' p):NP w0 p:=.inr fun ad h1 h2=>Nat.le_trans S.size (h.2 ad h1 h2)
theorem dQ_.own {A:Option Addr} {n c:Nat} {l:List UInt8} (h:w'.ownsRow w.heap.size 5 1 (.slice A n c) n (bL l)):dQ_ w w' ⟨A,n,c,l⟩:=by
  have h1:=Fr.of_own h
  exact ⟨h1.1,h1.2⟩
end
def WholeV (w0 w':World) (r:Int × List UInt8 × Int) (u:Value):Prop:=∃ A c,u=.tuple #[.int .i64 r.1,.slice A r.2.1.length c,.int .i64 r.2.2]∧w'.ownsRow w0.heap.size 5 1 (.slice A r.2.1.length c) r.2.1.length (bL r.2.1)
theorem gY_ {w0 w':World} {r:Int × List UInt8 × Int} {e:Int} (h:r=(0,[],e)):WholeV w0 w' r (.tuple #[.int .i64 0,.slice none 0 0,.int .i64 e]):=by
  subst h
  exact ⟨none,0,rfl,World.ownsRow_nil _ _ _ _⟩
def loads (ps:List Part):List (List UInt8):=ps.map Part.l
theorem fm_ (ps:List Part) (p:Part):loads (ps++[p])=loads ps++[p.l]:=by simp [loads]
theorem beq8 (n:Nat) (h:n≤8):decide ((n:Int)=8)=((8 - n:Nat) == 0):=by
  by_cases e:n=8
  · subst e;rfl
  · have h1:((8 - n:Nat) == 0)=false:=by
      cases hb:((8 - n:Nat) == 0) with
      | false=>rfl
      | true=>have:=of_decide_eq_true hb;omega
    rw [h1]
    exact decide_eq_false (by omega)
theorem rest_next {b:List UInt8} {n:Nat} {x:EV} (h8:n < 8) (hk:x.kind=5) (h:(opV b x.base ((8 - (n+1):Nat) == 0)).1=0):rest b (7 - n) x=eG_ x.load (rest b (7 - (n+1)) (opV b x.base ((8 - (n+1):Nat) == 0)).2):=by
  have e:7 - n=8 - (n+1):=by omega
  conv=>lhs;unfold rest
  rw [if_pos hk,e,gJ_ h,show 8 - (n+1) - 1=7 - (n+1) by omega]
theorem rest_err {b:List UInt8} {n:Nat} {x:EV} {e:Int} (h8:n < 8) (hk:x.kind=5) (h:(opV b x.base ((8 - (n+1):Nat) == 0)).1=e) (he:e≠0):rest b (7 - n) x=(0,[],e):=by
  have e1:7 - n=8 - (n+1):=by omega
  unfold rest
  rw [if_pos hk,e1,rdF_e h he]
  exact aplO_1 Z he
theorem hP_ {α:Type} {l:List α} {k:Nat} {x : α} (h:l[l.length - 1 - k]?=some x) (hk:k < l.length):l.take (l.length - k)=l.take (l.length - (k+1))++[x]:=by
  have e:l.length - k=(l.length - (k+1))+1:=by omega
  rw [e,List.take_add_one,show l.length - (k+1)=l.length - 1 - k by omega,h]
  rfl
theorem fam_ok {w0 w:World} {rs:List Res} {ps:List Part} {p:Part} (h:NP w0 p) (S:Zx.St w0 noM rs w) (hf:(fam (ps.map (newR w0))).holds w) (hm:p ∈ ps):p.ok w:=h.ok S (hf.1 (newR w0 p) (List.mem_map.2 ⟨p,hm,rfl⟩))
theorem aplR_len (a:List UInt8) (b t:Int) (l:List Del.OV):(bW_ a b t l).1.length≤4000:=by
  by_cases h:Del.ee_ b t l=0
  · by_cases h2:(a.length:Int)=b
    · rw [Del.cy_ h h2]
      obtain ⟨h3,h4⟩:=Del.eV_ h
      rw [← h2] at h4
      have h5:=((Del.hH_ (a:=a) l t).1 h4).2
      show (Del.eX_ a l).length≤4000
      omega
    · rw [Del.bH_ h h2];simp
  · rw [Del.ci_ h];simp
theorem whole (B:Option Addr) (m d:Nat) (b:List UInt8) (x0:EV) (q0:Part) (a0:Int) (w0:World) (hb:Rs w0 1 B m d (bL b)) (hm5:m≤100000) (hq0:q0.ok w0) (hql:q0.l=x0.load) (hx0:EOk a0 false x0) (ha:a0≤1000000) :
    Calls Tryz.prog 67 #[.slice B m d,.agg (enA x0 q0)] w0 fun e w'=>∃ u,e=.returned u∧Like w0 w'∧WholeV w0 w' (rest b 7 x0) u:=by
 refine w_ (env:=[(0,.slice B m d),(1,.agg (enA x0 q0))]) [.slice B m d,.agg (enA x0 q0)] Tryz.func67 Z Tryz.ntmps67 Z Z ?_;have hl:=hb.lenb;have hcap:=hb.cap;have hmax:=hb.max;have S0:=St.start w0 noM;refine a_ fun K1 hK1=>b_ (L_o (bB_ Z S0 Z fun b1 w1 hb1 S1=>La Z Z (La Z Z (Lan Z Z (hK1 _ _ (a_ fun K2 hK2=>b_ (have S2:=S1.nilrow 22 1;Lan Z Z (hK2 _ _ ?_))))))));refine a_ fun K3 hK3=>u_ ?_;refine fw_ [(0,_),(3,_)] (fun (ps:List Part) (x:EV) (q:Part) (a:Int) (A1:Option Addr) (c1:Nat)=>[(7,.slice A1 ps.length c1)]) (fun (ps:List Part) (x:EV) (q:Part) (a:Int) (A1:Option Addr) (c1:Nat)=>8 - ps.length) (fun (ps:List Part) (x:EV) (q:Part) (a:Int) (A1:Option Addr) (c1:Nat) (w:World)=>(ps.length≤8∧(rest b 7 x0)=(loads ps).foldr eG_ (rest b (7 - ps.length) x)∧EOk a (8 - ps.length == 0) x∧a≤1000000∧q.l=x.load∧NP w0 q∧(∀ p ∈ ps,NP w0 p∧p.l.length≤4000))∧Zx.St w0 noM [blk b1 127 (enA x q),row 22 1 A1 ps.length c1 (ps.map pv),fam (ps.map (newR w0)),newR w0 q] w) [] x0 q0 a0 none 0 (Sc Z (Sub.nil _)) (Sub.cons Z Z (Sub.cons Z Z (Sub.nil _))) ?_ ?_
 ·
  have S3:=(S2.nilrow 22 1).fam0;have S3b:=addOld S3 hq0;have S3c:=S3b.sel [0,1,3,4] (by decide);exact ⟨⟨by simp,rfl,hx0,ha,hql,.inl hq0,fun p hp=>(List.not_mem_nil hp).elim⟩,S3c⟩
 ·
  intro ps x q a A1 c1 w4 hrel;obtain ⟨⟨hpl,hR,hxe,ha,hqv,hqn,hps⟩,S4⟩:=hrel;refine a_ fun K4 hK4=>a_ fun K5 hK5=>b_ (L_y (d_ 0 Tryz.underlying127 Z sz3 Z Z Z) Z (L_y (p_ Tryz.underlying3 Z Z (((S4.blk 0 Z).cell _).trans (by rfl))) Z ?_));refine L_y (ah_ Z Z) Z (f_ (hK5 _ _ ?_));refine m_ Z (fun h16=>?_) (fun h16=>?_)
  ·
   obtain ⟨hb1,hb2,hb3⟩:=hxe.base h16;have hp8:ps.length≠8:=fun e=>by rw [e] at hb3;cases hb3
   refine j_ (hK4 _ _ (u_ (a_ fun K6 hK6=>Rm Z Z (L_y (d_ 4 Tryz.underlying127 Z bi_ Z Z Z) Z (L_y (p_ Tryz.underlying22 Z Z (((S4.blk 0 Z).cell _).trans (by rfl))) Z ?_)))));refine L_o (aY_ [pv q] ip_ zz22 S4 Z Z Z Z Z Z Z Z fun b5 w5 S5=>L_o (aL_ ip_ S5 1 Z Z Z (by first | exact S5.row 1 Z | exact S5.fix 2 Z | exact S5.row 4 Z) (by intro u hu;obtain rfl:=List.mem_singleton.1 hu;rfl) Z (by omega) (by omega) fun A6 c6 w6 S6=>?_));have S6d:=S6.drop (rs':=[_,_,_,_]) (.cons_cons _ (.cons_cons _ (.cons_cons _ (.cons_cons _ (.cons _ (.refl _))))));refine Lan Z Z (hK6 _ _ (a_ fun K7 hK7=>Rm Z Z (L_y (d_ 1 Tryz.underlying127 Z sz3 Z Z Z) Z (L_y (p_ Tryz.underlying3 Z Z (((S6d.blk 0 Z).cell _).trans (by rfl))) Z ?_))));refine Lm Z Z (L_y (J_ Tryz.underlying155 Z) Z (L_y (ah_ Z Z) Z (L_o (o_ Tryz.func66 Z Z (open_ B m d b x.base _ w6 (S6d.rd hb) hm5 (by omega)) Z Z ?_))));rintro e7 w7 ⟨v7,rfl,l7,hO7⟩;refine ⟨_,rfl,?_⟩;have S7:=S6d.like l7;rw [beq8 (ps.length+1) (by omega)] at hO7;obtain ⟨q2,rfl,hq2,hf2⟩:=hO7;have S8:=fu_ S6d l7 hf2;have hn2:=NP.new S6d hf2;refine Lm Z Z (L_y (n_ Z Z) Z (L_y (n_ Z Z) Z (L_o (E_ zz127 S8 Z fun b9 w9 hb9 S9=>L_o (B_ S9 5 Z Z Z bs_ (by rfl) (ax_ _ _) fun w10 S10=>?_)))));refine Lan Z Z (hK7 _ _ (a_ fun K8 hK8=>a_ fun K9 hK9=>Rm Z Z (L_y (V_ Z Z) Z (f_ (hK9 _ _ ?_)))));refine m_ Z (fun h33=>?_) (fun h33=>?_)
   ·
    refine a_ fun K10 hK10=>Rm Z Z (La Z Z (La Z Z (Lan Z Z (hK10 _ _ (l_ (ur (cn_ Z Z Z Z (⟨_,rfl,S10.like0,gY_ ?_⟩))))))));rw [hR,rest_err (by omega) h16 Z h33];exact ii_ _ h33
   ·
    refine j_ (hK8 _ _ (b_ (L_y (W_ Tryz.underlying127 Z bs_ Z (S10.blk 5 Z) (show _=(enA (opV b x.base (8 - (ps.length+1) == 0)).2 q2).toList∧_ from ⟨rfl,rfl⟩)) Z (L_o (B_ S10 0 Z Z Z bs_ (by rfl) (fun u hu=>ax_ _ _ u hu) fun w11 S11=>?_)))));refine f_ ?_;have S90:=S11.sel [0,1,4,2,3] (by decide);have S91:Zx.St w0 noM ([_,_,_]++[fam (ps.map (newR w0)++[]),newR w0 q]) w11:=S90.cast (by rw [List.append_nil];rfl);have S92:=St.famIn S91;have S93:=S92.sel [0,1,3,2] (by decide);have hx2:=(gM_ (b:=b) (at_:=x.base) (deep:=(8 - (ps.length+1) == 0)) (Classical.not_not.1 h33)).1;have S94:Zx.St w0 noM [blk b1 127 (enA (opV b x.base (8 - (ps.length+1) == 0)).2 q2),row 22 1 A6 (ps++[q]).length c6 ((ps++[q]).map pv),fam ((ps++[q]).map (newR w0)),newR w0 q2] w11:=S93.cast (by simp only [List.length_append,List.map_append,List.length_singleton,List.map_cons,List.map_nil];rfl);refine ⟨ps++[q],(opV b x.base (8 - (ps.length+1) == 0)).2,q2,x.base,A6,c6,by simp only [List.length_append,List.length_singleton];omega,⟨⟨by simp only [List.length_append,List.length_singleton];omega,by rw [fm_,fp_,hR,rest_next (by omega) h16 (Classical.not_not.1 h33),hqv,List.length_append];rfl,by rw [List.length_append];exact hx2,by omega,hq2,hn2,fun p hp=>by rcases List.mem_append.1 hp with hp | hp;exact hps p hp;(obtain rfl:=List.mem_singleton.1 hp);exact ⟨hqn,by rw [hqv];exact hxe.len⟩⟩,S94⟩,?_⟩;exact (Sub.cons Z (by rw [List.length_append];rfl) (Sub.cons Z Z (Sub.cons Z Z (Sub.nil _))))
  ·
   have hR1:rest b (7 - ps.length) x=(x.kind,x.load,0):=by unfold rest;rw [if_neg h16]
   rw [hR1, ← hqv] at hR;have hql4:q.l.length≤4000:=by rw [hqv];exact hxe.len
   refine P_ (hK3 _ _ (a_ fun K11 hK11=>b_ (L_y (d_ 4 Tryz.underlying127 Z bi_ Z Z Z) Z (L_y (p_ Tryz.underlying22 Z Z (((S4.blk 0 Z).cell _).trans (by rfl))) Z ?_))));refine Lan Z Z (hK11 _ _ (a_ fun K12 hK12=>a_ fun K13 hK13=>Rm Z Z (L_y (J_ Tryz.underlying155 Z) Z (Lm Z Z (f_ (hK13 _ _ (u_ ?_)))))));refine bN_ [(3,_),(7,_),(39,_)] (fun (k:Nat) (bp:Part)=>[(40,.int .i64 (k:Int)),(10,pv bp)]) (fun (k:Nat) (bp:Part)=>ps.length - k) (fun (k:Nat) (bp:Part) (w:World)=>(k≤ps.length∧(rest b 7 x0)=(loads (ps.take (ps.length - k))).foldr eG_ (x.kind,bp.l,0)∧NP w0 bp∧bp.l.length≤4000)∧Zx.St w0 noM [blk b1 127 (enA x q),row 22 1 A1 ps.length c1 (ps.map pv),fam (ps.map (newR w0)),newR w0 bp] w) 0 q (Sc Z (Sc Z (Sub.nil _))) (Sub.cons Z Z (Sub.cons Z Z (Sub.cons Z Z (Sub.nil _)))) ?_ ?_
   ·
    exact ⟨⟨by omega,by rw [Nat.sub_zero,List.take_length];exact hR,hqn,hql4⟩,S4⟩
   ·
    intro k bp w12 hrel;obtain ⟨⟨hk,hR2,hbn,hb4⟩,S12⟩:=hrel;refine a_ fun K14 hK14=>b_ (L_y (H_ Z Z) Z (f_ (hK14 _ _ (a_ fun K15 hK15=>?_))));refine m_ Z (fun h41=>?_) (fun h41=>?_)
    ·
     obtain ⟨p,hp⟩:∃ p,ps[ps.length - 1 - k]?=some p:=⟨_,List.getElem?_eq_getElem (by omega)⟩;have hpm:=List.mem_of_getElem? hp;obtain ⟨hpn,hp4⟩:=hps p hpm;have hpo:=fam_ok hpn S12 (S12.get 2 Z) hpm;have hpo2:=hpo.lenb;refine j_ (hK15 _ _ (a_ fun K16 hK16=>u_ (a_ fun K17 hK17=>Rm Z Z (Lan Z Z (hK17 _ _ (a_ fun K18 hK18=>Rm Z Z (Lm Z Z ?_)))))));refine L_y (J_ Tryz.underlying155 Z) Z (L_y (am_ Z Z (z_ (by omega))) Z (Lm Z Z (L_y (am_ Z Z (z_ (by omega))) Z (L_y (ab_ Tryz.underlying155 bi_ Z Z (S12.row 1 Z) (Nt.mk (by omega):Nt _ (ps.length - 1 - k)) (by omega)) Z (L_y (ck_ Tryz.underlying22 Z Z (S12.row 1 Z) (getP hp)) Z (L_o (o_ Tryz.func98 Z Z (Del.preadH _ _ _ p.l w12 hpo (by omega)) Z Z ?_)))))));rintro e13 w13 ⟨v13,rfl,l13,A13,c13,ops13,R13,rfl,hh13,dd13,hr13,hv13⟩;refine ⟨_,rfl,(have S13:=S12.new l13 _ hh13 dd13;Lm Z Z (L_y (n_ Z Z) Z (L_y (n_ Z Z) Z (L_o (E_ iT_ S13 Z fun b14 w14 hb14 S14=>L_o (B_ S14 5 Z Z Z cx_ (by rfl) (by intro u hu;simp [scA] at hu;rcases hu with rfl | rfl | rfl <;> rfl) fun w15 S15=>?_))))))⟩;refine Lan Z Z (hK18 _ _ (a_ fun K19 hK19=>a_ fun K20 hK20=>Rm Z Z (L_y (V_ Z Z) Z (f_ (hK20 _ _ ?_)))));refine m_ Z (fun h56=>?_) (fun h56=>?_)
     ·
      refine a_ fun K21 hK21=>Rm Z Z (La Z Z (La Z Z (Lan Z Z (hK21 _ _ (l_ (ur (cn_ Z Z Z Z (⟨_,rfl,S15.like0,gY_ ?_⟩))))))));rw [hR2,hP_ hp (by omega),fm_,fp_,aplO_2 Z h56];exact ii_ _ h56
     ·
      refine j_ (hK19 _ _ (a_ fun K22 hK22=>Rm Z Z (L_y (W_ Tryz.underlying179 Z cx_ Z (S15.blk 5 Z) (show _=(scA (aj_ p.l).1 (aj_ p.l).2.1 _ _ _).toList∧_ from ⟨rfl,rfl⟩)) Z (L_o (o_ Tryz.func99 Z Z (Del.papply bp.A bp.n bp.c bp.l _ _ _ ops13 _ _ w15 (hbn.ok S15 (S15.get 3 Z)) (hr13 _ (S15.get 4 Z)).1 (hr13 _ (S15.get 4 Z)).2) Z Z ?_)))));rintro e16 w16 ⟨v16,rfl,l16,A16,c16,rfl,O16⟩;refine ⟨_,rfl,?_⟩;have S16:=S15.like l16;rw [hv13] at O16;rw [hv13];have S17:=fu_ S15 l16 (dQ_.own O16);have hn3:=NP.new S15 (dQ_.own O16);refine Lm Z Z (L_y (n_ Z Z) Z (L_y (n_ Z Z) Z (La Z Z (Lan Z Z (hK22 _ _ (a_ fun K23 hK23=>Rm Z Z (L_y (V_ Z Z) Z (f_ (hK23 _ _ ?_)))))))));refine m_ Z (fun h65=>?_) (fun h65=>?_)
      ·
       refine a_ fun K24 hK24=>Rm Z Z (La Z Z (La Z Z (Lan Z Z (hK24 _ _ (l_ (ur (cn_ Z Z Z Z (⟨_,rfl,S17.like0,gY_ ?_⟩))))))));rw [hR2,hP_ hp (by omega),fm_,fp_,aplO_3 Z (Classical.not_not.1 h56) h65];exact ii_ _ h65
      ·
       refine j_ (hK16 _ _ (b_ (L_y (v_ Z Z (z_ (by omega))) Z (Lm Z Z (f_ (have S90:=S17.sel [0,1,2,6] (by decide);⟨k+1,⟨A16,(bW_ bp.l (aj_ p.l).1 (aj_ p.l).2.1 (aj_ p.l).2.2.1).1.length,c16,(bW_ bp.l (aj_ p.l).1 (aj_ p.l).2.1 (aj_ p.l).2.2.1).1⟩,by omega,⟨⟨by omega,by rw [hR2,hP_ hp (by omega),fm_,fp_,aplO_4 Z (Classical.not_not.1 h56) (Classical.not_not.1 h65)],hn3,aplR_len _ _ _ _⟩,S90⟩,?_⟩))))));exact (Sc Z (Sc Z (Sub.cons Z Z (Sub.cons Z Z (Sub.cons Z Z (Sub.nil _))))))
    ·
     have hbo:=hbn.ok S12 (S12.get 3 Z);have hbpl:=hbo.lenb;refine P_ (hK12 _ _ (a_ fun K25 hK25=>ad_ [(0,true),(1,true),(2,true),(3,false),(4,true),(5,true),(6,true)] aJ_ (by kernel_rfl) fun w18 l18=>have S18:=S12.like l18;t_ Z (d_ 0 Tryz.underlying127 Z sz3 Z Z Z) Z (t_ Z (p_ Tryz.underlying3 Z Z (((S18.blk 0 Z).cell _).trans (by rfl))) Z ?_)));refine t_ Z (r_ Z) Z (dB_ Z (o_ Tryz.func48 Z Z (Obj.clone bp.A bp.n bp.c bp.l w18 (hbn.ok S18 (S18.get 3 Z)) (by omega)) Z Z ?_));rintro e19 w19 ⟨v19,rfl,l19,A19,c19,rfl,O19⟩;refine ⟨_,rfl,l19,(have S19:=S18.adopt l19 O19;have q19:=l19;t_ Z (I_ Z) Z (t_ Z (I_ Z) Z (t_ Z (I_ Z) Z (av_ (hK25 _ _ (l_ (ur (cn_ Z Z Z Z ?_))))))))⟩;obtain rfl:k=ps.length:=by omega
     rw [Nat.sub_self,List.take_zero] at hR2;have hR3:(rest b 7 x0)=(x.kind,bp.l,0):=hR2;rw [hR3];have hO:=S19.own 4 Z;rw [← hbpl] at hO;exact ⟨_,rfl,S19.like0,A19,c19,by rw [hbpl];rfl,hO⟩
theorem read_ (B:Option Addr) (m d:Nat) (b:List UInt8) (at_:Int) (w0:World) (hb:Rs w0 1 B m d (bL b)) (hm5:m≤100000) (hat : -9223372036854775808≤at_∧at_≤9223372036854775807) :
    Calls Tryz.prog 32 #[.slice B m d,.int .i64 at_] w0 fun e w'=>∃ u,e=.returned u∧Like w0 w'∧WholeV w0 w' (readP b at_) u:=by
 refine w_ (env:=[(0,.slice B m d),(1,.int .i64 at_)]) [.slice B m d,.int .i64 at_] Tryz.func32 Z Tryz.ntmps32 Z Z ?_;have hl:=hb.lenb;have hcap:=hb.cap;have hmax:=hb.max;have S0:=St.start w0 noM;refine a_ fun K1 hK1=>b_ (La Z Z (La Z Z (Lan Z Z (hK1 _ _ (a_ fun K2 hK2=>Rm Z Z (Lm Z Z (L_o (o_ Tryz.func66 Z Z (open_ B m d b at_ false w0 (S0.rd hb) hm5 hat) Z Z ?_))))))));rintro e1 w1 ⟨v1,rfl,l1,hO1⟩;refine ⟨_,rfl,?_⟩;have S1:=S0.like l1;obtain ⟨q1,rfl,hq1,hf1⟩:=hO1;have S2:=fu_ S0 l1 hf1;have hn1:=NP.new S0 hf1;refine Lm Z Z (L_y (n_ Z Z) Z (L_y (n_ Z Z) Z (L_o (E_ zz127 S2 Z fun b3 w3 hb3 S3=>L_o (B_ S3 1 Z Z Z bs_ (by rfl) (ax_ _ _) fun w4 S4=>?_)))));refine Lan Z Z (hK2 _ _ (a_ fun K3 hK3=>a_ fun K4 hK4=>Rm Z Z (L_y (V_ Z Z) Z (f_ (hK4 _ _ ?_)))));refine m_ Z (fun h16=>?_) (fun h16=>?_)
 ·
  refine a_ fun K5 hK5=>Rm Z Z (La Z Z (La Z Z (Lan Z Z (hK5 _ _ (l_ (ur (cn_ Z Z Z Z (⟨_,rfl,S4.like0,gY_ ?_⟩))))))));exact rdF_e (f:=8) Z h16
 ·
  obtain ⟨hok,hk12,hkl,_⟩:=gM_ (b:=b) (at_:=at_) (deep:=false) (Classical.not_not.1 h16);refine j_ (hK3 _ _ (a_ fun K6 hK6=>Rm Z Z (L_y (W_ Tryz.underlying127 Z bs_ Z (S4.blk 1 Z) (show _=(enA (opV b at_ false).2 q1).toList∧_ from ⟨rfl,rfl⟩)) Z (L_o (o_ Tryz.func67 Z Z (whole B m d b (opV b at_ false).2 q1 at_ w4 (S4.rd hb) hm5 (hn1.ok S4 (S4.get 0 Z)) hq1 hok (by omega)) Z Z ?_)))));rintro e5 w5 ⟨v5,rfl,l5,hW5⟩;refine ⟨_,rfl,?_⟩;have S5:=S4.like l5;obtain ⟨A5,c5,rfl,O5⟩:=hW5;have S6:=S4.adopt l5 O5;refine L_y (n_ Z Z) Z (L_y (n_ Z Z) Z (L_y (n_ Z Z) Z (La Z Z (La Z Z (Lan Z Z (hK6 _ _ (l_ (ur (cn_ Z Z Z Z ?_)))))))));have hr9:readP b at_=rest b 7 (opV b at_ false).2:=gJ_ (f:=8) (Classical.not_not.1 h16);rw [hr9];exact ⟨_,rfl,S6.like0,_,_,rfl,S6.own 2 Z⟩
end Pak
namespace Pak
open Go.RowKit Zk Zx
open Sha (N bO_ cO_ dS_ fz_ fy_)
open Go.Proofs.YtgaklngnfecdaaaGreat.Obj (ai_ bV_ aT_ Z_ aN_ be_ zB C_ aR_)
open Oct (vaN rwL rwP rwE rnL rnP rnE be vr tl N_)
open Del (scA opf OP OkO mkV bR_ dG_ aj_ bW_)
def ev_ (b:List UInt8):List UInt8:=if b.length < 44 then zB else b.drop (b.length - 32)
theorem bl_ (b:List UInt8):(ev_ b).length=32:=by
  unfold ev_
  split
  · exact C_
  · rw [List.length_drop];omega
def hN_ (b:List UInt8):Int:=if b.length < 44 then 10 else 0
theorem eM_ {b:List UInt8} (h:b.length < 44):ev_ b=zB∧hN_ b=10:=⟨if_pos h,if_pos h⟩
theorem eL_ {b:List UInt8} (h:¬ b.length < 44):ev_ b=b.drop (b.length - 32)∧hN_ b=0:=⟨if_neg h,if_neg h⟩
theorem iA_ (b:List UInt8):((bA (ev_ b)).toList.drop 0).take 32=bL (ev_ b)∧(bL (ev_ b)).length=32:=by
  have h:(bL (ev_ b)).length=32:=by rw [length_bL,bl_]
  exact ⟨by rw [List.drop_zero];exact List.take_of_length_le (Nat.le_of_eq h),h⟩
theorem eq_ (l:List UInt8):((⟨l.toArray⟩:ByteArray)≠⟨#[80,65,67,75]⟩)↔l≠[80,65,67,75]:=by
  constructor
  · intro h e;exact h (by rw [e])
  · intro h e
    have e2:l.toArray = #[80,65,67,75]:=congrArg ByteArray.data e
    exact h (by have:=congrArg Array.toList e2;simpa using this)
theorem head4 (b:List UInt8):((b.take 12).drop 0).take 4=b.take 4:=by rw [List.drop_zero,List.take_take];rfl
theorem head8 (b:List UInt8):((b.take 12).drop 4).take 4=(b.drop 4).take 4:=by rw [List.drop_take,List.take_take];rfl
theorem head12 (b:List UInt8):((b.take 12).drop 8).take 4=(b.drop 8).take 4:=by rw [List.drop_take,List.take_take];rfl
theorem rw_ok {l:List UInt8} {p k:Nat} (h:p+k≤l.length):rwL l p 0 k=(l.drop p).take k∧rwP l p 0 k=p+k∧rwE l p 0 k=0:=by
  have h2:k≤l.length - p:=by omega
  exact ⟨by rw [Oct.rwL,if_pos Z,Oct.tkL,if_pos h2],by rw [Oct.rwP,if_pos Z,Oct.tkP,if_pos h2],by rw [Oct.rwE,if_pos Z,Oct.fM_ h2]⟩
theorem be4 (l:List UInt8) (h:l.length≤4):be l < 4294967296:=by
  have h1:=Oct.be_lt l
  have h2:256 ^ l.length≤256 ^ 4:=Nat.pow_le_pow_right (by omega) h
  omega
def cntE (b:List UInt8):Int:=if cc_ b=0 then (cv_ b:Int) else 0
theorem trailer (B:Option Addr) (m d:Nat) (b:List UInt8) (w0:World) (hb:Rs w0 1 B m d (bL b)) :
    Calls Tryz.prog 36 #[.slice B m d] w0 fun e w'=>∃ u,e=.returned u∧Like w0 w'∧u=.tuple #[.agg (bA (ev_ b)),.int .i64 (hN_ b)]:=by
 refine w_ (env:=[(0,.slice B m d)]) [.slice B m d] Tryz.func36 Z Tryz.ntmps36 Z Z ?_;have hl:=hb.lenb;have hcap:=hb.cap;have hmax:=hb.max;have S0:=St.start w0 noM;refine a_ fun K1 hK1=>b_ (L_o (E_ dm_ S0 Z fun b1 w1 hb1 S1=>have S2:=S1.blkc 0 Z (cs':=bA zB) (by kernel_rfl);Lan Z Z (hK1 _ _ (a_ fun K2 hK2=>a_ fun K3 hK3=>Rm Z Z (L_y (J_ Tryz.underlying22 Z) Z (L_y (H_ Z Z) Z (f_ ?_)))))));refine hK3 _ _ ?_;refine m_ Z (fun h6=>?_) (fun h6=>?_)
 ·
  refine a_ fun K4 hK4=>b_ (L_y (y_ Z (show _=some (bA zB) by kernel_rfl)) Z (L_o (B_ S2 0 Z Z Z (by first | exact af_ | (rw [size_bA,e32l];exact af_)) (by first | rfl | (rw [size_bA,size_bA,e32l];rfl)) (Sha.cw_ _) fun w3 S3=>?_)));refine Lan Z Z (hK4 _ _ (l_ (ur (X_ Z Z Z (S3.blk 0 Z) Tryz.underlying41 Z (by first | exact af_ | (rw [size_bA,e32l];exact af_)) ?_))));obtain ⟨t1,t2⟩:=eM_ (b:=b) (by omega);exact ⟨_,rfl,S3.like0,by rw [t1,t2]⟩
 ·
  have e32:(b.drop (m - 32)).take 32=b.drop (m - 32):=List.take_of_length_le (by rw [List.length_drop];omega);have e32l:((b.drop (m - 32)).take 32).length=32:=by rw [e32,List.length_drop];omega
  refine j_ (hK2 _ _ (a_ fun K5 hK5=>Rm Z Z (Lm Z Z (L_y (J_ Tryz.underlying22 Z) Z (L_y (am_ Z Z (z_ (by omega))) Z (L_y (cr_ Tryz.underlying22 sz5 Z Z (Nt.mk (by omega):Nt _ (m - 32)) (by omega)) Z (L_y (kK_ Tryz.underlying41 Z (by omega)) Z (L_y (kJ_ Tryz.underlying41 af_ Z (aR_ (m - 32) (S2.rd hb) (by omega)) (by omega) (by omega)) Z (L_o (B_ S2 0 Z Z Z (by first | exact af_ | (rw [size_bA,e32l];exact af_)) (by first | rfl | (rw [size_bA,size_bA,e32l];rfl)) (Sha.cw_ _) fun w4 S4=>?_))))))))));refine Lan Z Z (hK5 _ _ (l_ (ur (X_ Z Z Z (S4.blk 0 Z) Tryz.underlying41 Z (by first | exact af_ | (rw [size_bA,e32l];exact af_)) ?_))));obtain ⟨t1,t2⟩:=eL_ (b:=b) (by omega);exact ⟨_,rfl,S4.like0,by rw [t1,t2,hl,e32]⟩
theorem count (B:Option Addr) (m d:Nat) (b:List UInt8) (w0:World) (hb:Rs w0 1 B m d (bL b)) (hm5:m≤100000) :
    Calls Tryz.prog 71 #[.slice B m d] w0 fun e w'=>∃ u,e=.returned u∧Like w0 w'∧u=.tuple #[.int .i64 (cntE b),.int .i64 (cc_ b)]:=by
 refine w_ (env:=[(0,.slice B m d)]) [.slice B m d] Tryz.func71 Z Tryz.ntmps71 Z Z ?_;have hl:=hb.lenb;have hcap:=hb.cap;have hmax:=hb.max;have S0:=St.start w0 noM;refine a_ fun K1 hK1=>b_ (La Z Z (Lan Z Z (hK1 _ _ (a_ fun K2 hK2=>a_ fun K3 hK3=>Rm Z Z (L_y (J_ Tryz.underlying22 Z) Z (L_y (aa_ Z Z) Z (f_ (hK3 _ _ ?_))))))));refine m_ Z (fun h10=>?_) (fun h10=>?_)
 ·
  omega
 ·
  refine j_ (hK2 _ _ (a_ fun K4 hK4=>Rm Z Z (L_o (o_ Tryz.func36 Z Z (trailer B m d b w0 (S0.rd hb)) Z Z ?_))));rintro e1 w1 ⟨v1,rfl,l1,rfl⟩;refine ⟨_,rfl,(have S1:=S0.like l1;Lm Z Z (L_y (n_ Z Z) Z (L_y (n_ Z Z) Z (L_o (E_ dm_ S1 Z fun b2 w2 hb2 S2=>have S3:=S2.blkc 0 Z (cs':=bA zB) (by kernel_rfl);L_o (B_ S3 0 Z Z Z (by first | exact af_ | (rw [size_bA,bl_];exact af_)) (by first | rfl | (rw [size_bA,size_bA,bl_];rfl)) (Sha.cw_ _) fun w4 S4=>?_))))))⟩;refine Lan Z Z (hK4 _ _ (a_ fun K5 hK5=>a_ fun K6 hK6=>Rm Z Z (L_y (V_ Z Z) Z (f_ (hK6 _ _ ?_)))));refine m_ Z (fun h17=>?_) (fun h17=>?_)
  ·
   refine a_ fun K7 hK7=>Rm Z Z (La Z Z (Lan Z Z (hK7 _ _ (l_ (ur (aB_ Z Z Z ?_))))));have hlt:b.length < 44:=by by_cases h:b.length < 44;exact h;exact absurd (eL_ h).2 h17
   obtain ⟨q1,q2⟩:=eM_ hlt;have he:=jI_ hlt;exact ⟨_,rfl,S4.like0,by unfold cntE;rw [he];show Value.tuple #[.int .i64 0,.int .i64 (hN_ b)]=_;rw [q2];rfl⟩
  ·
   have h44:¬ b.length < 44:=fun h=>h17 (by rw [(eM_ h).2];decide);obtain ⟨t1,t2⟩:=eL_ h44;refine j_ (hK5 _ _ (a_ fun K8 hK8=>Rm Z Z (L_y (cX_ Tryz.underlying22 sz5 Z Z inferInstance (by omega)) Z (L_o (o_ Tryz.func96 Z Z (Oct.rnew _ _ _ (b.take 12) w4 ((S4.rd hb).cutb (l:=0) (u:=12) (by omega) (by omega)) (by omega)) Z Z ?_)))));rintro e5 w5 ⟨v5,rfl,l5,g1,A1,c1,rfl,hh5,dd5⟩;refine ⟨_,rfl,(have S5:=S4.new l5 _ hh5 dd5;Lan Z Z (hK8 _ _ (a_ fun K9 hK9=>a_ fun K10 hK10=>Rm Z Z (L_o (o_ Tryz.func104 Z Z (Oct.rraw g1 A1 (12 - 0) c1 (b.take 12) 0 0 (4:Nat) w5 (S5.get 1 Z) (by omega) (by omega) (by omega)) Z Z ?_)))))⟩;rintro e6 w6 ⟨v6,rfl,T6,B7,d7,rfl,hr6,hd6⟩;refine ⟨_,rfl,?_⟩;have S6:=S5.turn 1 Z T6;obtain ⟨e1,e2,e3⟩:=Oct.rn_ok (l:=b.take 12) (p:=0) (k:=4) (by rw [List.length_take];omega);rw [e1,head4] at hr6 hd6;rw [e2,e3] at S6;rw [e1,head4];refine L_y (bX_ Tryz.underlying22 Tryz.underlying5 Tryz.underlying9 Z (by first | exact bF_ hr6 | exact S6.row 1 Z)) Z ?_;refine L_y (eZ_ Z Z) Z (Lm Z Z ?_);refine A_ 26 Z (fun h26=>?_) (fun h26=>?_)
   ·
    refine h_ Z Z Z (h_ Z Z Z (h_ Z Z Z (Lp Z Z Z (f_ (hK10 _ _ (U_ Z (a_ fun K11 hK11=>b_ (La Z Z (Lan Z Z (hK11 _ _ (l_ ?_)))))))))));refine ur (aB_ Z Z Z ?_);have he:cc_ b=_:=hy_ (by omega) (by first | exact .inl ((eq_ _).1 h26) | exact .inr (fun q=>h30 (by have h9:be (((b.take 12).drop (0+4)).take 4)=be ((b.drop 4).take 4):=congrArg be (head8 b);omega)));exact ⟨_,rfl,S6.like0,by unfold cntE;rw [he];rfl⟩
   ·
    refine g_ Z Z (Lm Z Z (g_ Z Z (L_o (o_ Tryz.func105 Z Z (Oct.ru32 g1 A1 (12 - 0) c1 (b.take 12) (0+4) 0 w6 (S6.get 1 Z) (by rw [List.length_take];omega) (by omega)) Z Z ?_))));rintro e8 w8 ⟨v8,rfl,rfl,T8⟩;refine ⟨_,rfl,?_⟩;have S8:=S6.turn 1 Z T8;obtain ⟨e1,e2,e3⟩:=rw_ok (l:=b.take 12) (p:=0+4) (k:=4) (by rw [List.length_take];omega);rw [e1];rw [e2,e3] at S8;refine g_ Z Z (L_y (V_ Z Z) Z (Lp Z Z Z (f_ (hK10 _ _ ?_))));refine m_ Z (fun h30=>?_) (fun h30=>?_)
    ·
     refine a_ fun K12 hK12=>b_ (La Z Z (Lan Z Z (hK12 _ _ (l_ (ur (aB_ Z Z Z ?_))))));have he:cc_ b=_:=hy_ (by omega) (by first | exact .inl ((eq_ _).1 h26) | exact .inr (fun q=>h30 (by have h9:be (((b.take 12).drop (0+4)).take 4)=be ((b.drop 4).take 4):=congrArg be (head8 b);omega)));exact ⟨_,rfl,S8.like0,by unfold cntE;rw [he];rfl⟩
    ·
     have hform:¬ (b.take 4≠[80,65,67,75]∨be ((b.drop 4).take 4)≠1):=fun q=>by rcases q with q | q;exact h26 ((eq_ _).2 q);exact q (by have h9:=congrArg be (head8 b);have h8:be (((b.take 12).drop (0+4)).take 4)=be ((b.drop 4).take 4):=h9;omega)
     refine j_ (hK9 _ _ (a_ fun K13 hK13=>a_ fun K14 hK14=>ad_ [(0,true),(1,true),(2,true),(3,true),(4,true),(7,true),(5,false),(6,false),(8,true)] aJ_ (by kernel_rfl) fun w9 l9=>have S9:=S8.like l9;t_ Z (r_ Z) Z (t_ Z (r_ Z) Z (t_ Z (J_ Tryz.underlying22 Z) Z (t_ Z (am_ Z Z (z_ (by omega))) Z (t_ Z (cX_ Tryz.underlying22 sz5 Z Z (Nt.mk (by omega):Nt _ (m - 32)) (by omega)) Z (t_ Z (W_ Tryz.underlying41 Z af_ Z (S9.blk 0 Z) (iA_ b)) Z (dB_ Z (eA_ [_] ip_ zz22 S9 Z Z Z Z Z Z Z Z fun b10 w10 l10 S10=>?_)))))))));have q10:=l10;refine ⟨q10,(dB_ Z (o_ Tryz.func50 Z Z (Sha.shaof [⟨_,_,_,b.take (m - 32)⟩] _ _ _ w10 (S10.row 2 Z) (fun p hp=>by obtain rfl:=List.mem_singleton.1 hp;exact (S10.rd hb).cutb (l:=0) (u:=m - 32) (by omega) (by omega)) (by rw [cat1,List.length_take];omega) (by simp)) Z Z ?_))⟩;rintro e11 w11 ⟨v11,rfl,l11,hu11⟩;refine ⟨_,rfl,(Like.trans q10 l11),?_⟩;have S11:=S10.like l11;rw [cat1] at hu11;subst hu11;have q11:=(Like.trans q10 l11);refine t_ Z (y_neB Tryz.underlying41 Tryz.underlying5 sz5 (by kernel_rfl) Z Z (Sha.ak_ _) (bl_ _)) Z (av_ (hK14 _ _ ?_));refine m_ Z (fun h39=>?_) (fun h39=>?_)
     ·
      have hsum:Sha.ofL (b.take (b.length - 32))≠b.drop (b.length - 32):=by rw [hl];rw [t1,hl] at h39;exact h39
      refine a_ fun K15 hK15=>b_ (La Z Z (Lan Z Z (hK15 _ _ (l_ (ur (aB_ Z Z Z ?_))))));have he:cc_ b=_:=headE_13 (by omega) hform hsum;exact ⟨_,rfl,S11.like0,by unfold cntE;rw [he];rfl⟩
     ·
      have hsum:¬ Sha.ofL (b.take (b.length - 32))≠b.drop (b.length - 32):=by rw [hl];rw [t1,hl] at h39;exact h39
      refine j_ (hK13 _ _ (a_ fun K16 hK16=>Rm Z Z (L_o (o_ Tryz.func105 Z Z (Oct.ru32 g1 A1 (12 - 0) c1 (b.take 12) (0+4+4) 0 w11 (S11.get 1 Z) (by rw [List.length_take];omega) (by omega)) Z Z ?_))));rintro e12 w12 ⟨v12,rfl,rfl,T12⟩;refine ⟨_,rfl,?_⟩;have S12:=S11.turn 1 Z T12;obtain ⟨f1,f2,f3⟩:=rw_ok (l:=b.take 12) (p:=0+4+4) (k:=4) (by rw [List.length_take];omega);rw [f1];have f4:be (((b.take 12).drop (0+4+4)).take 4)=be ((b.drop 8).take 4):=congrArg be (head12 b);rw [f4];have f5:=be4 ((b.drop 8).take 4) (by rw [List.length_take];omega);refine Lan Z Z (hK16 _ _ (a_ fun K17 hK17=>a_ fun K18 hK18=>Rm Z Z (L_y (aa_ Z Z) Z (f_ (hK18 _ _ ?_)))));refine m_ Z (fun h43=>?_) (fun h43=>?_)
      ·
       refine a_ fun K19 hK19=>b_ (La Z Z (Lan Z Z (hK19 _ _ (l_ (ur (aB_ Z Z Z ?_))))));have he:cc_ b=_:=headE_5 (by omega) hform hsum (by show 600 < be _;omega);exact ⟨_,rfl,S12.like0,by unfold cntE;rw [he];rfl⟩
      ·
       refine j_ (hK17 _ _ (a_ fun K20 hK20=>Rm Z Z (L_y (O_ is63 Tryz.underlying3 Z (z_ (by omega))) Z (La Z Z (Lan Z Z (hK20 _ _ (l_ (ur (aB_ Z Z Z ?_)))))))));have he:cc_ b=_:=headE_0 (by omega) hform hsum (by show ¬ 600 < be _;omega);exact ⟨_,rfl,S12.like0,by unfold cntE;rw [he];rfl⟩
end Pak
namespace Pak
open Go.RowKit Zk Zx
open Sha (N bO_ cO_ dS_ fz_ fy_)
open Go.Proofs.YtgaklngnfecdaaaGreat.Obj (ai_ bV_ aT_ Z_ aN_ be_ zB C_ aR_)
open Oct (vaN rwL rwP rwE rnL rnP rnE be vr tl N_)
open Del (scA opf OP OkO mkV bR_ dG_ aj_ bW_)
theorem kX_ {t:List UInt8} {at_:Nat} {kind base:Int} {size p q:Nat} (hp:p≤t.length) (h:(opR t at_ kind base size p q).1=0):at_≤(opR t at_ kind base size p q).2.fin∧(opR t at_ kind base size p q).2.fin≤at_+t.length:=by
  by_cases h1:rnE t (rwP t p q 4) (rwE t p q 4) (size:Int)=0
  · by_cases h2:(bn_ (rnL t (rwP t p q 4) (rwE t p q 4) (size:Int))).toNat≠be (rwL t p q 4)
    · rw [opR_13 h1 h2] at h;exact absurd h (by decide)
    · rw [js_ h1 h2]
      have h3:=rwP_le t p q 4 hp
      have h4:=jm_ t (rwP t p q 4) (rwE t p q 4) (size:Int) h3
      exact ⟨by show at_≤at_+_;omega,by show at_+_≤at_+_;omega⟩
  · rw [opR_e h1] at h
    exact absurd h (by show ((rnE t (rwP t p q 4) (rwE t p q 4) (size:Int):Nat):Int)≠0;omega)
theorem opT_fin {t:List UInt8} {x:UInt8} {at_:Nat} {deep:Bool} (ht:1≤t.length) (h:(opT t x at_ deep).1=0):at_≤(opT t x at_ deep).2.fin∧(opT t x at_ deep).2.fin≤at_+t.length:=by
  have hp1:(vaN t 1 0 4000).2.1≤t.length:=Oct.bP_ t 1 0 4000 ht
  by_cases h1:x.toNat < 1∨5 < x.toNat
  · rw [hZ_ h1] at h;exact absurd h (by decide)
  · by_cases h5:x.toNat=5
    · rw [db_ h5] at h ⊢
      by_cases g1:(vaN t (vaN t 1 0 4000).2.1 (vaN t 1 0 4000).2.2 1048576).2.2=0
      · by_cases g2:(vaN t (vaN t 1 0 4000).2.1 (vaN t 1 0 4000).2.2 1048576).1=0∨(at_:Int) - (vaN t (vaN t 1 0 4000).2.1 (vaN t 1 0 4000).2.2 1048576).1 < 12
        · rw [ia_ g1 g2] at h;exact absurd h (by decide)
        · cases hd:deep with
          | true=>rw [ib_ g1 g2 hd] at h;exact absurd h (by decide)
          | false =>
            rw [hd] at h
            rw [eN_ (.inr ⟨g2,rfl⟩)] at h ⊢
            exact kX_ (Oct.bP_ t _ _ 1048576 hp1) h
      · rw [eN_ (.inl g1)] at h ⊢
        exact kX_ (Oct.bP_ t _ _ 1048576 hp1) h
    · rw [opT_w h1 h5] at h ⊢
      exact kX_ hp1 h
theorem opV_fin {b:List UInt8} {at_:Nat} {deep:Bool} (h:(opV b (at_:Int) deep).1=0):at_≤(opV b (at_:Int) deep).2.fin∧(opV b (at_:Int) deep).2.fin≤b.length:=by
  obtain ⟨_,h12,hlt,h44⟩:=gM_ h
  have hx:b[((at_:Nat):Int).toNat]?=some (b[at_]'(by omega)):=by rw [Int.toNat_natCast];exact List.getElem?_eq_getElem _
  have hl:=hQ_ (b:=b) (n:=at_) h44 (by omega)
  rw [opV_t h44 (by omega) hx,Int.toNat_natCast] at h ⊢
  have h1:=opT_fin (by omega) h
  omega
theorem rest_len {b:List UInt8} {f:Nat} {x:EV} (h:x.load.length≤4000):(rest b f x).2.1.length≤4000:=by
  unfold rest
  split
  · unfold eG_
    repeat' split
    all_goals first | (simp;done) | exact aplR_len _ _ _ _
  · exact h
def ScanR (t:TypeId) (w0 w':World) (r:Int × List Ob) (u:Value):Prop:=∃ A c,u=.tuple #[.slice A r.2.length c,.int .i64 r.1]∧w'.ownsRow w0.heap.size t 34 (.slice A r.2.length c) r.2.length (r.2.flatMap plO)
theorem cm_ {t:TypeId} {w0 w':World} {r:Int × List Ob} {e:Int} (h:r=(e,[])):ScanR t w0 w' r (.tuple #[.slice none 0 0,.int .i64 e]):=by
  subst h
  exact ⟨none,0,rfl,World.ownsRow_nil _ _ _ _⟩
theorem scan (B:Option Addr) (m d:Nat) (b:List UInt8) (w0:World) (hb:Rs w0 1 B m d (bL b)) (hm5:m≤100000) :
    Calls Tryz.prog 34 #[.slice B m d] w0 fun e w'=>∃ u,e=.returned u∧Like w0 w'∧ScanR 67 w0 w' (ep_ b) u:=by
 refine w_ (env:=[(0,.slice B m d)]) [.slice B m d] Tryz.func34 Z Tryz.ntmps34 Z Z ?_;have hl:=hb.lenb;have hcap:=hb.cap;have hmax:=hb.max;have S0:=St.start w0 noM;refine a_ fun K1 hK1=>b_ (La Z Z (Lan Z Z (hK1 _ _ (a_ fun K2 hK2=>Rm Z Z (L_o (o_ Tryz.func71 Z Z (count B m d b w0 (S0.rd hb) hm5) Z Z ?_))))));rintro e1 w1 ⟨v1,rfl,l1,rfl⟩;refine ⟨_,rfl,(have S1:=S0.like l1;Lm Z Z (L_y (n_ Z Z) Z (L_y (n_ Z Z) Z (La Z Z (Lan Z Z (hK2 _ _ (a_ fun K3 hK3=>a_ fun K4 hK4=>Rm Z Z (L_y (V_ Z Z) Z ?_))))))))⟩;refine f_ (hK4 _ _ ?_);refine m_ Z (fun h19=>?_) (fun h19=>?_)
 ·
  refine a_ fun K5 hK5=>Rm Z Z (La Z Z (Lan Z Z (hK5 _ _ (l_ (ur (aB_ Z Z Z (⟨_,rfl,S1.like0,cm_ ?_⟩)))))));exact gk_ h19
 ·
  have hh:cc_ b=0:=Classical.not_not.1 h19;obtain ⟨h44,h600⟩:=headE_ok hh;have hce:cntE b=(cv_ b:Int):=if_pos hh;refine j_ (hK3 _ _ (a_ fun K6 hK6=>b_ (have S2:=S1.nilrow 67 34;Lan Z Z (hK6 _ _ (a_ fun K7 hK7=>b_ (Lan Z Z (hK7 _ _ (a_ fun K8 hK8=>?_))))))));refine a_ fun K9 hK9=>Rm Z Z (Lm Z Z (f_ (hK9 _ _ (u_ ?_))));refine hJ_ [(0,_),(21,_)] (fun (k:Nat) (at9:Nat) (os:List Ob) (A1:Option Addr) (c1:Nat)=>[(22,.int .i64 (k:Int)),(7,.int .i64 (at9:Int)),(6,.slice A1 os.length c1)]) (fun (k:Nat) (at9:Nat) (os:List Ob) (A1:Option Addr) (c1:Nat)=>cv_ b - k) (fun (k:Nat) (at9:Nat) (os:List Ob) (A1:Option Addr) (c1:Nat) (w:World)=>(k≤cv_ b∧os.length=k∧SCI b (cv_ b) k os at9∧12≤at9∧at9≤100000)∧Zx.St w0 noM [row 67 34 A1 os.length c1 (os.flatMap plO)] w) 0 12 [] none 0 (Sc Z (Sc Z (Sc Z (Sub.nil _)))) (Sub.cons Z Z (Sub.cons Z Z (Sub.nil _))) ?_ ?_
  ·
   exact ⟨⟨by omega,rfl,SCI.start b _,by omega,by omega⟩,S2⟩
  ·
   intro k at9 os A1 c1 w3 hrel;obtain ⟨⟨hk,hol,hsc,ha1,ha2⟩,S3⟩:=hrel;refine a_ fun K10 hK10=>b_ (L_y (H_ Z Z) Z (f_ (hK10 _ _ (a_ fun K11 hK11=>?_))));refine m_ Z (fun h23=>?_) (fun h23=>?_)
   ·
    refine j_ (hK11 _ _ (a_ fun K12 hK12=>u_ (a_ fun K13 hK13=>a_ fun K14 hK14=>Rm Z Z (Lm Z Z (L_y (J_ Tryz.underlying22 Z) Z (L_y (am_ Z Z (z_ (by omega))) Z (L_y (ah_ Z Z) Z (f_ (hK14 _ _ ?_)))))))));refine m_ Z (fun h28=>?_) (fun h28=>?_)
    ·
     refine a_ fun K15 hK15=>b_ (La Z Z (Lan Z Z (hK15 _ _ (l_ (ur (aB_ Z Z Z (⟨_,rfl,S3.like0,cm_ ?_⟩)))))));have ho2:opV b (at9:Int) false=(2,zE):=opV_2 h44 (by omega);exact fg_ hh (hsc.err (by rw [show cv_ b - k=cv_ b - k - 1+1 by omega,scan_1 (by rw [ho2];decide),ho2])) (by decide)
    ·
     refine j_ (hK13 _ _ (a_ fun K16 hK16=>Rm Z Z (Lm Z Z (L_o (o_ Tryz.func66 Z Z (open_ B m d b (at9:Int) false w3 (S3.rd hb) hm5 (by omega)) Z Z ?_)))));rintro e4 w4 ⟨v4,rfl,l4,hO4⟩;refine ⟨_,rfl,?_⟩;have S4:=S3.like l4;obtain ⟨q1,rfl,hq1,hf1⟩:=hO4;have S5:=fu_ S3 l4 hf1;have hn1:=NP.new S3 hf1;refine Lm Z Z (L_y (n_ Z Z) Z (L_y (n_ Z Z) Z (L_o (E_ zz127 S5 Z fun b6 w6 hb6 S6=>L_o (B_ S6 2 Z Z Z bs_ (by rfl) (ax_ _ _) fun w7 S7=>?_)))));refine Lan Z Z (hK16 _ _ (a_ fun K17 hK17=>a_ fun K18 hK18=>Rm Z Z (L_y (V_ Z Z) Z (f_ (hK18 _ _ ?_)))));refine m_ Z (fun h36=>?_) (fun h36=>?_)
     ·
      refine a_ fun K19 hK19=>Rm Z Z (La Z Z (Lan Z Z (hK19 _ _ (l_ (ur (aB_ Z Z Z (⟨_,rfl,S7.like0,cm_ ?_⟩)))))));exact fg_ hh (hsc.err (by rw [show cv_ b - k=cv_ b - k - 1+1 by omega,scan_1 h36])) h36
     ·
      obtain ⟨hok,hk12,hkl,_⟩:=gM_ (b:=b) (at_:=(at9:Int)) (deep:=false) (Classical.not_not.1 h36);refine j_ (hK17 _ _ (a_ fun K20 hK20=>Rm Z Z (L_y (W_ Tryz.underlying127 Z bs_ Z (S7.blk 2 Z) (show _=(enA (opV b (at9:Int) false).2 q1).toList∧_ from ⟨rfl,rfl⟩)) Z (L_o (o_ Tryz.func67 Z Z (whole B m d b (opV b (at9:Int) false).2 q1 (at9:Int) w7 (S7.rd hb) hm5 (hn1.ok S7 (S7.get 1 Z)) hq1 hok (by omega)) Z Z ?_)))));rintro e8 w8 ⟨v8,rfl,l8,hW8⟩;refine ⟨_,rfl,?_⟩;have S8:=S7.like l8;obtain ⟨A8,c8,rfl,O8⟩:=hW8;have S9:=S7.adopt l8 O8;refine Lm Z Z (L_y (n_ Z Z) Z (L_y (n_ Z Z) Z (L_y (n_ Z Z) Z (La Z Z (La Z Z (Lan Z Z (hK20 _ _ (a_ fun K21 hK21=>a_ fun K22 hK22=>Rm Z Z (L_y (V_ Z Z) Z ?_)))))))));refine f_ (hK22 _ _ ?_);refine m_ Z (fun h46=>?_) (fun h46=>?_)
      ·
       refine a_ fun K23 hK23=>Rm Z Z (La Z Z (Lan Z Z (hK23 _ _ (l_ (ur (aB_ Z Z Z (⟨_,rfl,S9.like0,cm_ ?_⟩)))))));exact fg_ hh (hsc.err (by rw [show cv_ b - k=cv_ b - k - 1+1 by omega,scan_2 (Classical.not_not.1 h36) h46])) h46
      ·
       refine j_ (hK21 _ _ (a_ fun K24 hK24=>Rm Z Z (Lm Z Z (L_o (o_ Tryz.func23 Z Z (name_ (rest b 7 (opV b (at9:Int) false).2).1 _ _ _ (rest b 7 (opV b (at9:Int) false).2).2.1 w8 (S9.row 3 Z) (Nat.le_trans (rest_len hok.len) (by omega))) Z Z ?_)))));rintro e10 w10 ⟨v10,rfl,l10,rfl⟩;refine ⟨_,rfl,(have S10:=S9.like l10;Lm Z Z (L_y (n_ Z Z) Z (L_y (n_ Z Z) Z (L_o (E_ dm_ S10 Z fun b11 w11 hb11 S11=>have S12:=S11.blkc 4 Z (cs':=bA zB) (by kernel_rfl);L_o (B_ S12 4 Z Z Z (by first | exact af_ | (rw [size_bA,Z_];exact af_)) (by first | rfl | (rw [size_bA,size_bA,Z_];rfl)) (Sha.cw_ _) fun w13 S13=>?_))))))⟩;refine Lan Z Z (hK24 _ _ (a_ fun K25 hK25=>a_ fun K26 hK26=>Rm Z Z (L_y (V_ Z Z) Z (f_ (hK26 _ _ ?_)))));refine m_ Z (fun h55=>?_) (fun h55=>?_)
       ·
        refine a_ fun K27 hK27=>Rm Z Z (La Z Z (Lan Z Z (hK27 _ _ (l_ (ur (aB_ Z Z Z (⟨_,rfl,S13.like0,cm_ ?_⟩)))))));exact fg_ hh (hsc.err (by rw [show cv_ b - k=cv_ b - k - 1+1 by omega,scan_3 (Classical.not_not.1 h36) (Classical.not_not.1 h46) h55])) h55
       ·
        refine j_ (hK25 _ _ (a_ fun K28 hK28=>Rm Z Z (L_y (W_ Tryz.underlying41 Z af_ Z (S13.blk 4 Z) (gr_ ((rest b 7 (opV b (at9:Int) false).2).1,(rest b 7 (opV b (at9:Int) false).2).2.1))) Z (Lm Z Z (L_y (d_ 3 Tryz.underlying127 Z aV_ Z Z Z) Z (L_y (p_ Tryz.underlying63 Z Z (((S13.blk 2 Z).cell _).trans (by rfl))) Z ?_))))));refine L_y (y_ Z (jT_ (Z_ _ _) _ _)) Z (L_o (aY_ (plO (⟨(rest b 7 (opV b (at9:Int) false).2).1,(rest b 7 (opV b (at9:Int) false).2).2.1,0,at9,(opV b (at9:Int) false).2.sum⟩:Ob)) te50 zz67 S13 Z Z Z (by simp [Value.cells,length_bL,Z_]) (by simp [Value.cells,plO,Ob.id]) Z Z Z fun b14 w14 S14=>?_));refine L_o (aL_ te50 S14 0 Z Z Z (by first | exact S14.row 0 Z | exact S14.row 3 Z | exact S14.row 5 Z) (fun u hu=>iI_ _ u hu) Z (by omega) (by omega) fun A15 c15 w15 S15=>?_);have S15d:=S15.drop (rs':=[_,_,_,_,_]) (.cons_cons _ (.cons_cons _ (.cons_cons _ (.cons_cons _ (.cons_cons _ (.cons _ (.refl _)))))));refine Lan Z Z (hK28 _ _ (b_ (L_y (d_ 2 Tryz.underlying127 Z sz3 Z Z Z) Z (L_y (p_ Tryz.underlying3 Z Z (((S15d.blk 2 Z).cell _).trans (by rfl))) Z ?_))));refine Lan Z Z (hK12 _ _ (b_ (L_y (v_ Z Z (z_ (by omega))) Z (Lm Z Z (f_ ?_)))));have hfi:=opV_fin (Classical.not_not.1 h36);have S91:=(S15d.sel [0] (by decide)).rowc 0 Z (n':=(os++[(⟨(rest b 7 (opV b (at9:Int) false).2).1,(rest b 7 (opV b (at9:Int) false).2).2.1,0,at9,(opV b (at9:Int) false).2.sum⟩:Ob)]).length) (xs':=(os++[(⟨(rest b 7 (opV b (at9:Int) false).2).1,(rest b 7 (opV b (at9:Int) false).2).2.1,0,at9,(opV b (at9:Int) false).2.sum⟩:Ob)]).flatMap plO) (by simp) (by simp);refine ⟨k+1,(opV b (at9:Int) false).2.fin,os++[(⟨(rest b 7 (opV b (at9:Int) false).2).1,(rest b 7 (opV b (at9:Int) false).2).2.1,0,at9,(opV b (at9:Int) false).2.sum⟩:Ob)],_,_,by omega,⟨⟨by omega,by simp [hol],hsc.next (by omega) (scan_4 (Classical.not_not.1 h36) (Classical.not_not.1 h46) (Classical.not_not.1 h55)),by omega,by omega⟩,S91⟩,?_⟩;exact (Sc Z (Sc Z (Sub.cons Z (by rw [List.length_append];rfl) (Sub.cons Z Z (Sub.cons Z Z (Sub.nil _))))))
   ·
    obtain rfl:k=cv_ b:=by omega
    refine P_ (hK8 _ _ (a_ fun K29 hK29=>a_ fun K30 hK30=>Rm Z Z (Lm Z Z (L_y (J_ Tryz.underlying22 Z) Z (L_y (am_ Z Z (z_ (by omega))) Z (L_y (H_ Z Z) Z (f_ (hK30 _ _ ?_))))))));refine m_ Z (fun h72=>?_) (fun h72=>?_)
    ·
     refine a_ fun K31 hK31=>b_ (La Z Z (Lan Z Z (hK31 _ _ (l_ (ur (aB_ Z Z Z (⟨_,rfl,S3.like0,cm_ ?_⟩)))))));exact scanV_11 hh hsc.done (by omega)
    ·
     refine j_ (hK29 _ _ (a_ fun K32 hK32=>Rm Z Z (La Z Z (Lan Z Z (hK32 _ _ (l_ (ur (aB_ Z Z Z ?_))))))));have hv:ep_ b=(0,os):=scanV_0 hh hsc.done (by omega);rw [hv];exact ⟨_,rfl,S3.like0,A1,c1,rfl,S3.own 0 Z⟩
end Pak
namespace Pak
open Go.RowKit Zk Zx
open Sha (N bO_ cO_ dS_ fz_ fy_)
open Go.Proofs.YtgaklngnfecdaaaGreat.Obj (ai_ bV_ aT_ Z_ aN_ be_ zB C_ aR_)
open Oct (vaN rwL rwP rwE rnL rnP rnE be vr tl N_)
open Del (scA opf OP OkO mkV bR_ dG_ aj_ bW_)
open Oct (xr xr_lt)
section
variable {d t : List UInt8} {a : Nat}
theorem xvarS (g:Nat) (A:Option Addr) (n c:Nat) (ht:t=d.drop a) (p q m:Nat) (w0:World) (hw:(xr g A n c (a+p) q).holds w0) (hb:Rs w0 1 A n c (bL d)) (hp:a+p≤d.length) (hn62:n≤70368744177664) (hbg:∀ ad,0 < n→A=some ad→ad.block≠g) :
    Calls Tryz.prog 101 #[.pointer (some ⟨g,0,none⟩),.int .u64 (m:Int)] w0 fun e w'=>∃ u,e=.returned u∧u=.int .u64 ((vaN t p q m).1:Int)∧Turned w0 w' (xr g A n c (a+p) q) (xr g A n c (a+(vaN t p q m).2.1) (vaN t p q m).2.2):=by
  have h:=Oct.xvar g A n c d (a+p) q m w0 hw hb hp hn62 hbg
  rw [vaN_shift ht] at h
  exact h
theorem xbigS (g:Nat) (A:Option Addr) (n c:Nat) (ht:t=d.drop a) (p q j:Nat) (w0:World) (hw:(xr g A n c (a+p) q).holds w0) (hb:Rs w0 1 A n c (bL d)) (hp:a+p≤d.length) (hn62:n≤70368744177664) (hbg:∀ ad,0 < n→A=some ad→ad.block≠g) (hj:j≤8) :
    Calls Tryz.prog 100 #[.pointer (some ⟨g,0,none⟩),.int .i64 (j:Int)] w0 fun e w'=>∃ u,e=.returned u∧u=.int .u64 (be (rwL t p q j):Int)∧Turned w0 w' (xr g A n c (a+p) q) (xr g A n c (a+rwP t p q j) (rwE t p q j)):=by
  have h:=Oct.xbig g A n c d (a+p) q j w0 hw hb hp hn62 hbg hj
  obtain ⟨e1,e2,e3⟩:=rw_shift ht p q j
  rw [e1,e2,e3] at h
  exact h
theorem xrawS (g:Nat) (A:Option Addr) (n c:Nat) (ht:t=d.drop a) (p q:Nat) (m:Int) (w0:World) (hw:(xr g A n c (a+p) q).holds w0) (hb:Rs w0 1 A n c (bL d)) (hp:a+p≤d.length) (hn62:n≤70368744177664) (hbg:∀ ad,0 < n→A=some ad→ad.block≠g) (hm:m≤9223372036854775807) :
    Calls Tryz.prog 102 #[.pointer (some ⟨g,0,none⟩),.int .i64 m] w0 fun e w'=>∃ u,e=.returned u∧Turned w0 w' (xr g A n c (a+p) q) (xr g A n c (a+rnP t p q m) (rnE t p q m))∧∃ B c2,u=.slice B (rnL t p q m).length c2∧(row 5 1 B (rnL t p q m).length c2 (bL (rnL t p q m))).holds w'∧∀ i,(row 5 1 B (rnL t p q m).length c2 (bL (rnL t p q m))).dom i→w0.heap.size≤i:=by
  have h:=Oct.xraw g A n c d (a+p) q m w0 hw hb hp hn62 hbg hm
  obtain ⟨e1,e2,e3⟩:=rn_shift ht p q m
  rw [e1,e2,e3] at h
  exact h
end
theorem be1 {t:List UInt8} {x:UInt8} (h:t[0]?=some x):be (rwL t 0 0 1)=x.toNat∧rwP t 0 0 1=1∧rwE t 0 0 1=0:=by
  have h1:1≤t.length:=(List.getElem?_eq_some_iff.1 h).1
  obtain ⟨y,hy,htk,_⟩:=Oct.hO_ (l:=t) (p:=0) (show 1≤t.length - 0 by omega)
  rw [h] at hy
  obtain rfl:=Option.some.inj hy
  refine ⟨?_,?_,?_⟩
  · rw [Oct.rwL,if_pos Z,htk];simp [be]
  · rw [Oct.rwP,if_pos Z,Oct.tkP,if_pos (by omega)]
  · rw [Oct.rwE,if_pos Z,Oct.fM_ (by omega)]
theorem gf_ {t:List UInt8} (p q m:Nat) (h:p≤t.length):(vaN t p q m).2.1≤t.length:=Oct.bP_ t p q m h
theorem w32n {l:List UInt8} (h:l.length≤4):IntKind.u32.wrap (be l:Int)=(be l:Int):=by
  have h1:=Oct.be_lt l
  have h2:256 ^ l.length≤256 ^ 4:=Nat.pow_le_pow_right (by omega) h
  rw [IntKind.wrap_u32]
  omega
theorem crcN1 {l:List UInt8} {v:Nat} (h:N (bn_ l)≠(v:Int)):(bn_ l).toNat≠v:=fun q=>h (by show ((bn_ l).toNat:Int)=_;rw [q])
theorem crcE1 {l:List UInt8} {v:Nat} (h:¬ N (bn_ l)≠(v:Int)):(bn_ l).toNat=v:=by
  have h1:=Classical.not_not.1 h
  have h2:((bn_ l).toNat:Int)=(v:Int):=h1
  omega
theorem rwL_len {t:List UInt8} {p q k:Nat}:(rwL t p q k).length≤k:=Oct.rw_le t p q k
theorem ropen (B:Option Addr) (m d:Nat) (b:List UInt8) (at_:Int) (f:Nat) (w0:World) (hb:Rs w0 1 B m d (bL b)) (hm5:m≤100000) (hat : -9223372036854775808≤at_∧at_≤9223372036854775807) (hf:f≤8) :
    Calls Tryz.prog 68 #[.slice B m d,.int .i64 at_,.int .i64 (8 - (f:Int))] w0 fun e w'=>∃ u,e=.returned u∧Like w0 w'∧OpenV w0 w' b at_ (f == 0) u:=by
 refine w_ (env:=[(0,.slice B m d),(1,.int .i64 at_),(2,.int .i64 (8 - (f:Int)))]) [.slice B m d,.int .i64 at_,.int .i64 (8 - (f:Int))] Tryz.func68 Z Tryz.ntmps68 Z Z ?_;have hl:=hb.lenb;have hcap:=hb.cap;have hmax:=hb.max;have S0:=St.start w0 noM;refine a_ fun K1 hK1=>b_ (L_o (E_ zz132 S0 Z fun b1 w1 hb1 S1=>Lan Z Z (hK1 _ _ (a_ fun K2 hK2=>a_ fun K3 hK3=>Rm Z Z (L_y (J_ Tryz.underlying22 Z) Z (L_y (H_ Z Z) Z (f_ (hK3 _ _ ?_))))))));refine m_ Z (fun h14=>?_) (fun h14=>?_)
 ·
  refine a_ fun K4 hK4=>b_ (L_y (y_ Z (show _=some zA by kernel_rfl)) Z (L_o (B_ S1 0 Z Z Z ca_ (by rfl) (by intro u hu;first | (simp [zA] at hu;rcases hu with rfl | rfl | rfl | rfl | rfl <;> rfl) | (simp at hu;rcases hu with rfl | rfl | rfl | rfl | rfl <;> rfl) | exact ax_ _ _ u hu) fun w2 S2=>?_)));refine Lan Z Z (hK4 _ _ (l_ (ur (X_ Z Z Z (S2.blk 0 Z) Tryz.underlying132 Z (by exact ca_) ?_))));have he:opV b at_ (f == 0)=(10,zE):=opV_10 (by omega);exact ⟨_,rfl,S2.like0,p0,by rw [he];rfl,by rw [he];rfl,fresh0 _ _⟩
 ·
  refine j_ (hK2 _ _ (a_ fun K5 hK5=>a_ fun K6 hK6=>Rm Z Z (L_y (H_ Z Z) Z (Lm Z Z ?_))));refine A_ 18 Z (fun h18=>?_) (fun h18=>?_)
  ·
   refine h_ Z Z Z (h_ Z Z Z (h_ Z Z Z (h_ Z Z Z (h_ Z Z Z (Lp Z Z Z (f_ (hK6 _ _ (U_ Z (a_ fun K7 hK7=>b_ (L_y (y_ Z (show _=some zA by kernel_rfl)) Z (L_o (B_ S1 0 Z Z Z ca_ (by rfl) (by intro u hu;first | (simp [zA] at hu;rcases hu with rfl | rfl | rfl | rfl | rfl <;> rfl) | (simp at hu;rcases hu with rfl | rfl | rfl | rfl | rfl <;> rfl) | exact ax_ _ _ u hu) fun w4 S4=>?_))))))))))));refine Lan Z Z (hK7 _ _ (l_ (ur (X_ Z Z Z (S4.blk 0 Z) Tryz.underlying132 Z (by exact ca_) ?_))));have he:opV b at_ (f == 0)=(2,zE):=opV_2 (by omega) (by omega);exact ⟨_,rfl,S4.like0,p0,by rw [he];rfl,by rw [he];rfl,fresh0 _ _⟩
  ·
   refine g_ Z Z (Lm Z Z (g_ Z Z (Lm Z Z (g_ Z Z (L_y (J_ Tryz.underlying22 Z) Z (g_ Z Z (L_y (am_ Z Z (z_ (by omega))) Z (g_ Z Z (L_y (cF_ Z Z) Z (Lp Z Z Z (f_ (hK6 _ _ ?_))))))))))));refine m_ Z (fun h24=>?_) (fun h24=>?_)
   ·
    refine a_ fun K8 hK8=>b_ (L_y (y_ Z (show _=some zA by kernel_rfl)) Z (L_o (B_ S1 0 Z Z Z ca_ (by rfl) (by intro u hu;first | (simp [zA] at hu;rcases hu with rfl | rfl | rfl | rfl | rfl <;> rfl) | (simp at hu;rcases hu with rfl | rfl | rfl | rfl | rfl <;> rfl) | exact ax_ _ _ u hu) fun w5 S5=>?_)));refine Lan Z Z (hK8 _ _ (l_ (ur (X_ Z Z Z (S5.blk 0 Z) Tryz.underlying132 Z (by exact ca_) ?_))));have he:opV b at_ (f == 0)=(2,zE):=opV_2 (by omega) (by omega);exact ⟨_,rfl,S5.like0,p0,by rw [he];rfl,by rw [he];rfl,fresh0 _ _⟩
   ·
    refine j_ (hK5 _ _ (a_ fun K9 hK9=>?_));obtain ⟨x,hx⟩:∃ x,b[at_.toNat]?=some x:=⟨_,List.getElem?_eq_getElem (by omega)⟩;have hx9:=x.toNat_lt;have htl:=hQ_ (b:=b) (n:=at_.toNat) (by omega) (by omega);have hx0:(Q_ b at_.toNat)[0]?=some x:=by rw [tailB_0 (by omega) (by omega)];exact hx
    have heV:opV b at_ (f == 0)=opT (Q_ b at_.toNat) x at_.toNat (f == 0):=opV_t (by omega) (by omega) hx;have hbt:=hb.cutb (l:=0) (u:=m - 32) (by omega) (by omega);rw [List.drop_zero] at hbt;have htd:Q_ b at_.toNat=(b.take (m - 32 - 0)).drop at_.toNat:=by rw [kf_,hl];rfl
    have hdl:(b.take (m - 32 - 0)).length=m - 32:=by rw [List.length_take];omega
    obtain ⟨ob1,ob2,ob3⟩:=be1 hx0;refine Rm Z Z (Lm Z Z (L_y (J_ Tryz.underlying22 Z) Z (L_y (am_ Z Z (z_ (by omega))) Z (L_y (cX_ Tryz.underlying22 sz5 Z Z (Nt.mk (by omega):Nt _ (m - 32)) (by omega)) Z (Lm Z Z (L_y (y_ Z (show _=some #[.slice (bS_ B d 0 1) (m - 32 - 0) (d - 0),.int .i64 (at_.toNat:Int),.int .i64 0] by rw [Int.toNat_of_nonneg (by omega)];kernel_rfl)) Z ?_))))));refine L_o (bB_ Z S1 Z fun b6 w6 hb6 S6=>have S6x:Zx.St w0 noM [blk b1 132 zA,xr b6 (bS_ B d 0 1) (m - 32 - 0) (d - 0) (at_.toNat+0) 0] w6:=S6;Lan Z Z (hK9 _ _ (a_ fun K10 hK10=>Rm Z Z (L_o (o_ Tryz.func100 Z Z (xbigS b6 (bS_ B d 0 1) (m - 32 - 0) (d - 0) htd (0) (0) 1 w6 (S6x.get 1 Z) (S6x.rd hbt) (by omega) (by omega) (fun ad h1 h2 e=>by have h9:=bT_ hbt h1 h2;omega) (by omega)) Z Z ?_)))));rintro e7 w7 ⟨v7,rfl,rfl,T7⟩;refine ⟨_,rfl,?_⟩;have S7:=S6x.turn 1 Z T7;rw [ob1];rw [ob2,ob3] at S7;refine L_y (O_ cl_ Tryz.underlying3 Z (z_ (by omega))) Z (L_y (y_ Z (show _=some #[.int .i64 (x.toNat:Int),.int .i64 0,.int .i64 0,.int .u32 0,.slice none 0 0] by kernel_rfl)) Z (L_o (E_ zz132 S7 Z fun b8 w8 hb8 S8=>L_o (B_ S8 2 Z Z Z ca_ (by rfl) (by intro u hu;first | (simp [zA] at hu;rcases hu with rfl | rfl | rfl | rfl | rfl <;> rfl) | (simp at hu;rcases hu with rfl | rfl | rfl | rfl | rfl <;> rfl) | exact ax_ _ _ u hu) fun w9 S9=>?_))));refine f_ (hK10 _ _ (a_ fun K11 hK11=>a_ fun K12 hK12=>b_ (L_y (d_ 0 Tryz.underlying132 Z sz3 Z Z Z) Z (L_y (p_ Tryz.underlying3 Z Z (((S9.blk 2 Z).cell _).trans (by rfl))) Z ?_))));refine L_y (H_ Z Z) Z (Lm Z Z ?_);refine A_ 41 Z (fun h41=>?_) (fun h41=>?_)
    ·
     refine h_ Z Z Z (h_ Z Z Z (h_ Z Z Z (Lp Z Z Z (f_ (hK12 _ _ (U_ Z (a_ fun K13 hK13=>b_ (L_y (y_ Z (show _=some zA by kernel_rfl)) Z (L_o (B_ S9 0 Z Z Z ca_ (by rfl) (by intro u hu;first | (simp [zA] at hu;rcases hu with rfl | rfl | rfl | rfl | rfl <;> rfl) | (simp at hu;rcases hu with rfl | rfl | rfl | rfl | rfl <;> rfl) | exact ax_ _ _ u hu) fun w11 S11=>?_))))))))));refine Lan Z Z (hK13 _ _ (l_ (ur (X_ Z Z Z (S11.blk 0 Z) Tryz.underlying132 Z (by exact ca_) ?_))));have he:opV b at_ (f == 0)=(19,zE):=heV.trans (hZ_ (by omega));exact ⟨_,rfl,S11.like0,p0,by rw [he];rfl,by rw [he];rfl,fresh0 _ _⟩
    ·
     refine g_ Z Z (L_y (d_ 0 Tryz.underlying132 Z sz3 Z Z Z) Z (g_ Z Z (L_y (p_ Tryz.underlying3 Z Z (((S9.blk 2 Z).cell _).trans (by rfl))) Z ?_)));refine g_ Z Z (L_y (aa_ Z Z) Z (Lp Z Z Z (f_ (hK12 _ _ ?_))));refine m_ Z (fun h45=>?_) (fun h45=>?_)
     ·
      refine a_ fun K14 hK14=>b_ (L_y (y_ Z (show _=some zA by kernel_rfl)) Z (L_o (B_ S9 0 Z Z Z ca_ (by rfl) (by intro u hu;first | (simp [zA] at hu;rcases hu with rfl | rfl | rfl | rfl | rfl <;> rfl) | (simp at hu;rcases hu with rfl | rfl | rfl | rfl | rfl <;> rfl) | exact ax_ _ _ u hu) fun w12 S12=>?_)));refine Lan Z Z (hK14 _ _ (l_ (ur (X_ Z Z Z (S12.blk 0 Z) Tryz.underlying132 Z (by exact ca_) ?_))));have he:opV b at_ (f == 0)=(19,zE):=heV.trans (hZ_ (by omega));exact ⟨_,rfl,S12.like0,p0,by rw [he];rfl,by rw [he];rfl,fresh0 _ _⟩
     ·
      refine j_ (hK11 _ _ (a_ fun K15 hK15=>Rm Z Z (L_o (o_ Tryz.func101 Z Z (xvarS b6 (bS_ B d 0 1) (m - 32 - 0) (d - 0) htd (1) (0) 4000 w9 (S9.get 1 Z) (S9.rd hbt) (by omega) (by omega) (fun ad h1 h2 e=>by have h9:=bT_ hbt h1 h2;omega)) Z Z ?_))));rintro e13 w13 ⟨v13,rfl,rfl,T13⟩;refine ⟨_,rfl,(have S13:=S9.turn 1 Z T13;have hv1:=dJ_ (Q_ b at_.toNat) 1 0 4000;have hp1:(vaN (Q_ b at_.toNat) 1 0 4000).2.1≤(Q_ b at_.toNat).length:=gf_ 1 0 4000 (by omega);L_y (O_ cl_ Tryz.underlying3 Z (z_ (by omega))) Z (Lan Z Z (hK15 _ _ ?_)))⟩;refine T_seqR (fun (e:Env) (w:World)=>∃ (base:Int) (p:Nat) (q:Nat),Sub [(6,.pointer (some ⟨b1,0,none⟩)),(8,.pointer (some ⟨b6,0,none⟩)),(9,.pointer (some ⟨b8,0,none⟩)),(10,.int .i64 ((vaN (Q_ b at_.toNat) 1 0 4000).1:Int))] e∧(opT (Q_ b at_.toNat) x at_.toNat (f == 0)=opR (Q_ b at_.toNat) at_.toNat (x.toNat:Int) base (vaN (Q_ b at_.toNat) 1 0 4000).1 p q∧p≤(Q_ b at_.toNat).length)∧Zx.St w0 noM [blk b1 132 zA,xr b6 (bS_ B d 0 1) (m - 32 - 0) (d - 0) (at_.toNat+p) q,blk b8 132 #[.int .i64 (x.toNat:Int),.int .i64 base,.int .i64 0,.int .u32 0,.slice none 0 0]] w) ?_ ?_
      ·
       refine a_ fun K17 hK17=>b_ (L_y (d_ 0 Tryz.underlying132 Z sz3 Z Z Z) Z (L_y (p_ Tryz.underlying3 Z Z (((S13.blk 2 Z).cell _).trans (by rfl))) Z ?_));refine L_y (ah_ Z Z) Z (f_ (hK17 _ _ ?_));refine m_ Z (fun h52=>?_) (fun h52=>?_)
       ·
        refine a_ fun K18 hK18=>Rm Z Z (L_o (o_ Tryz.func101 Z Z (xvarS b6 (bS_ B d 0 1) (m - 32 - 0) (d - 0) htd ((vaN (Q_ b at_.toNat) 1 0 4000).2.1) ((vaN (Q_ b at_.toNat) 1 0 4000).2.2) 1048576 w13 (S13.get 1 Z) (S13.rd hbt) (by omega) (by omega) (fun ad h1 h2 e=>by have h9:=bT_ hbt h1 h2;omega)) Z Z ?_));rintro e14 w14 ⟨v14,rfl,rfl,T14⟩;refine ⟨_,rfl,(have S14:=S13.turn 1 Z T14;have hv2:=dJ_ (Q_ b at_.toNat) (vaN (Q_ b at_.toNat) 1 0 4000).2.1 (vaN (Q_ b at_.toNat) 1 0 4000).2.2 1048576;have hp2:(vaN (Q_ b at_.toNat) (vaN (Q_ b at_.toNat) 1 0 4000).2.1 (vaN (Q_ b at_.toNat) 1 0 4000).2.2 1048576).2.1≤(Q_ b at_.toNat).length:=gf_ _ _ 1048576 hp1;L_y (O_ cl_ Tryz.underlying3 Z (z_ (by omega))) Z (Lan Z Z (hK18 _ _ (a_ fun K19 hK19=>a_ fun K20 hK20=>Rm Z Z (L_y (x_ Z) Z (L_y (d_ 2 Tryz.underlying185 Z sz3 Z Z Z) Z ?_))))))⟩;refine L_y (p_ Tryz.underlying3 Z Z (((S14.blk 1 Z).cell _).trans Z)) Z (L_y (ah_ Z Z) Z (Lm Z Z ?_));refine A_ 61 Z (fun h61=>?_) (fun h61=>?_)
        ·
         refine g_ Z Z (Lm Z Z (g_ Z Z (L_y (ah_ Z Z) Z (g_ Z Z (Lm Z Z ?_)))));refine A_ 64 Z (fun h64=>?_) (fun h64=>?_)
         ·
          refine h_ Z Z Z (h_ Z Z Z (h_ Z Z Z (h_ Z Z Z (g_ Z Z (Lp Z Z Z (Lp Z Z Z (f_ (hK20 _ _ (U_ Z (a_ fun K21 hK21=>b_ (L_y (y_ Z (show _=some zA by kernel_rfl)) Z (L_o (B_ S14 0 Z Z Z ca_ (by rfl) (by intro u hu;first | (simp [zA] at hu;rcases hu with rfl | rfl | rfl | rfl | rfl <;> rfl) | (simp at hu;rcases hu with rfl | rfl | rfl | rfl | rfl <;> rfl) | exact ax_ _ _ u hu) fun w17 S17=>?_)))))))))))));refine Lan Z Z (hK21 _ _ (l_ (ur (X_ Z Z Z (S17.blk 0 Z) Tryz.underlying132 Z (by exact ca_) ?_))));have he:opV b at_ (f == 0)=(21,zE):=heV.trans ((db_ (by omega)).trans (ia_ (by omega) (by omega)));exact ⟨_,rfl,S17.like0,p0,by rw [he];rfl,by rw [he];rfl,fresh0 _ _⟩
         ·
          refine g_ Z Z (Lm Z Z (g_ Z Z (Lm Z Z (g_ Z Z (L_y (am_ Z Z (z_ (by omega))) Z (g_ Z Z (L_y (H_ Z Z) Z (g_ Z Z (Lp Z Z Z (Lp Z Z Z (f_ (hK20 _ _ ?_))))))))))));refine m_ Z (fun h70=>?_) (fun h70=>?_)
          ·
           refine a_ fun K22 hK22=>b_ (L_y (y_ Z (show _=some zA by kernel_rfl)) Z (L_o (B_ S14 0 Z Z Z ca_ (by rfl) (by intro u hu;first | (simp [zA] at hu;rcases hu with rfl | rfl | rfl | rfl | rfl <;> rfl) | (simp at hu;rcases hu with rfl | rfl | rfl | rfl | rfl <;> rfl) | exact ax_ _ _ u hu) fun w18 S18=>?_)));refine Lan Z Z (hK22 _ _ (l_ (ur (X_ Z Z Z (S18.blk 0 Z) Tryz.underlying132 Z (by exact ca_) ?_))));have he:opV b at_ (f == 0)=(21,zE):=heV.trans ((db_ (by omega)).trans (ia_ (by omega) (by omega)));exact ⟨_,rfl,S18.like0,p0,by rw [he];rfl,by rw [he];rfl,fresh0 _ _⟩
          ·
           refine j_ (hK19 _ _ (a_ fun K23 hK23=>a_ fun K24 hK24=>Rm Z Z (L_y (x_ Z) Z (L_y (d_ 2 Tryz.underlying185 Z sz3 Z Z Z) Z (L_y (p_ Tryz.underlying3 Z Z (((S14.blk 1 Z).cell _).trans Z)) Z (L_y (ah_ Z Z) Z (Lm Z Z ?_)))))));refine A_ 77 Z (fun h77=>?_) (fun h77=>?_)
           ·
            refine g_ Z Z (Lm Z Z (g_ Z Z (L_y (ah_ Z Z) Z (Lp Z Z Z (f_ (hK24 _ _ ?_))))));refine m_ Z (fun h80=>?_) (fun h80=>?_)
            ·
             refine a_ fun K25 hK25=>b_ (L_y (y_ Z (show _=some zA by kernel_rfl)) Z (L_o (B_ S14 0 Z Z Z ca_ (by rfl) (by intro u hu;first | (simp [zA] at hu;rcases hu with rfl | rfl | rfl | rfl | rfl <;> rfl) | (simp at hu;rcases hu with rfl | rfl | rfl | rfl | rfl <;> rfl) | exact ax_ _ _ u hu) fun w20 S20=>?_)));refine Lan Z Z (hK25 _ _ (l_ (ur (X_ Z Z Z (S20.blk 0 Z) Tryz.underlying132 Z (by exact ca_) ?_))));have he:opV b at_ (f == 0)=(20,zE):=heV.trans ((db_ (by omega)).trans (ib_ (by omega) (by omega) (by (have q9:f=0:=(by omega));simp [q9])));exact ⟨_,rfl,S20.like0,p0,by rw [he];rfl,by rw [he];rfl,fresh0 _ _⟩
            ·
             refine j_ (hK23 _ _ (Rm Z Z (Lm Z Z (L_y (am_ Z Z (z_ (by omega))) Z (L_y (d_ 1 Tryz.underlying132 Z sz3 Z Z Z) Z (L_o (Y_ S14 2 Z Z Z Z sz3 (by simp;done) fun w21 S21=>?_)))))));refine f_ ?_;have g4:(vaN (Q_ b at_.toNat) (vaN (Q_ b at_.toNat) 1 0 4000).2.1 (vaN (Q_ b at_.toNat) 1 0 4000).2.2 1048576).2.2≠0∨(¬ ((vaN (Q_ b at_.toNat) (vaN (Q_ b at_.toNat) 1 0 4000).2.1 (vaN (Q_ b at_.toNat) 1 0 4000).2.2 1048576).1=0∨((at_.toNat:Nat):Int) - (vaN (Q_ b at_.toNat) (vaN (Q_ b at_.toNat) 1 0 4000).2.1 (vaN (Q_ b at_.toNat) 1 0 4000).2.2 1048576).1 < 12)∧(f == 0)=false):=by first | exact .inl (by omega) | exact .inr ⟨by omega,by (have q9:f≠0:=(by omega));simp [q9]⟩
             have he0:=(db_ (deep:=(f == 0)) (at_:=at_.toNat) (t:=(Q_ b at_.toNat)) (show x.toNat=5 by omega)).trans (eN_ g4);rw [show (5:Int)=(x.toNat:Int) by omega,Int.toNat_of_nonneg (show 0≤at_ by omega)] at he0;exact ⟨_,_,_,(Sc Z (Sc Z (Sc Z (Sc Z (Sub.nil _))))),⟨he0,gf_ _ _ _ hp1⟩,S21⟩
           ·
            refine h_ Z Z Z (h_ Z Z Z (Lp Z Z Z (f_ (hK24 _ _ (aI_ Z (j_ (hK23 _ _ (Rm Z Z (Lm Z Z (L_y (am_ Z Z (z_ (by omega))) Z (L_y (d_ 1 Tryz.underlying132 Z sz3 Z Z Z) Z (L_o (Y_ S14 2 Z Z Z Z sz3 (by simp;done) fun w22 S22=>?_)))))))))))));refine f_ ?_;have g4:(vaN (Q_ b at_.toNat) (vaN (Q_ b at_.toNat) 1 0 4000).2.1 (vaN (Q_ b at_.toNat) 1 0 4000).2.2 1048576).2.2≠0∨(¬ ((vaN (Q_ b at_.toNat) (vaN (Q_ b at_.toNat) 1 0 4000).2.1 (vaN (Q_ b at_.toNat) 1 0 4000).2.2 1048576).1=0∨((at_.toNat:Nat):Int) - (vaN (Q_ b at_.toNat) (vaN (Q_ b at_.toNat) 1 0 4000).2.1 (vaN (Q_ b at_.toNat) 1 0 4000).2.2 1048576).1 < 12)∧(f == 0)=false):=by first | exact .inl (by omega) | exact .inr ⟨by omega,by (have q9:f≠0:=(by omega));simp [q9]⟩
            have he0:=(db_ (deep:=(f == 0)) (at_:=at_.toNat) (t:=(Q_ b at_.toNat)) (show x.toNat=5 by omega)).trans (eN_ g4);rw [show (5:Int)=(x.toNat:Int) by omega,Int.toNat_of_nonneg (show 0≤at_ by omega)] at he0;exact ⟨_,_,_,(Sc Z (Sc Z (Sc Z (Sc Z (Sub.nil _))))),⟨he0,gf_ _ _ _ hp1⟩,S22⟩
        ·
         refine h_ Z Z Z (h_ Z Z Z (h_ Z Z Z (aD_ Z Z Z (aD_ Z Z Z (aD_ Z Z Z (aD_ Z Z Z (h_ Z Z Z (Lp Z Z Z (f_ (hK20 _ _ (aI_ Z (j_ (hK19 _ _ ?_)))))))))))));refine a_ fun K26 hK26=>a_ fun K27 hK27=>Rm Z Z (L_y (x_ Z) Z (L_y (d_ 2 Tryz.underlying185 Z sz3 Z Z Z) Z (L_y (p_ Tryz.underlying3 Z Z (((S14.blk 1 Z).cell _).trans Z)) Z (L_y (ah_ Z Z) Z (Lm Z Z ?_)))));refine A_ 77 Z (fun h77=>?_) (fun h77=>?_)
         ·
          refine g_ Z Z (Lm Z Z (g_ Z Z (L_y (ah_ Z Z) Z (Lp Z Z Z (f_ (hK27 _ _ ?_))))));refine m_ Z (fun h80=>?_) (fun h80=>?_)
          ·
           refine a_ fun K28 hK28=>b_ (L_y (y_ Z (show _=some zA by kernel_rfl)) Z (L_o (B_ S14 0 Z Z Z ca_ (by rfl) (by intro u hu;first | (simp [zA] at hu;rcases hu with rfl | rfl | rfl | rfl | rfl <;> rfl) | (simp at hu;rcases hu with rfl | rfl | rfl | rfl | rfl <;> rfl) | exact ax_ _ _ u hu) fun w24 S24=>?_)));refine Lan Z Z (hK28 _ _ (l_ (ur (X_ Z Z Z (S24.blk 0 Z) Tryz.underlying132 Z (by exact ca_) ?_))));have he:opV b at_ (f == 0)=(20,zE):=heV.trans ((db_ (by omega)).trans (ib_ (by omega) (by omega) (by (have q9:f=0:=(by omega));simp [q9])));exact ⟨_,rfl,S24.like0,p0,by rw [he];rfl,by rw [he];rfl,fresh0 _ _⟩
          ·
           refine j_ (hK26 _ _ (Rm Z Z (Lm Z Z (L_y (am_ Z Z (z_ (by omega))) Z (L_y (d_ 1 Tryz.underlying132 Z sz3 Z Z Z) Z (L_o (Y_ S14 2 Z Z Z Z sz3 (by simp;done) fun w25 S25=>?_)))))));refine f_ ?_;have g4:(vaN (Q_ b at_.toNat) (vaN (Q_ b at_.toNat) 1 0 4000).2.1 (vaN (Q_ b at_.toNat) 1 0 4000).2.2 1048576).2.2≠0∨(¬ ((vaN (Q_ b at_.toNat) (vaN (Q_ b at_.toNat) 1 0 4000).2.1 (vaN (Q_ b at_.toNat) 1 0 4000).2.2 1048576).1=0∨((at_.toNat:Nat):Int) - (vaN (Q_ b at_.toNat) (vaN (Q_ b at_.toNat) 1 0 4000).2.1 (vaN (Q_ b at_.toNat) 1 0 4000).2.2 1048576).1 < 12)∧(f == 0)=false):=by first | exact .inl (by omega) | exact .inr ⟨by omega,by (have q9:f≠0:=(by omega));simp [q9]⟩
           have he0:=(db_ (deep:=(f == 0)) (at_:=at_.toNat) (t:=(Q_ b at_.toNat)) (show x.toNat=5 by omega)).trans (eN_ g4);rw [show (5:Int)=(x.toNat:Int) by omega,Int.toNat_of_nonneg (show 0≤at_ by omega)] at he0;exact ⟨_,_,_,(Sc Z (Sc Z (Sc Z (Sc Z (Sub.nil _))))),⟨he0,gf_ _ _ _ hp1⟩,S25⟩
         ·
          refine h_ Z Z Z (h_ Z Z Z (Lp Z Z Z (f_ (hK27 _ _ (aI_ Z (j_ (hK26 _ _ (Rm Z Z (Lm Z Z (L_y (am_ Z Z (z_ (by omega))) Z (L_y (d_ 1 Tryz.underlying132 Z sz3 Z Z Z) Z (L_o (Y_ S14 2 Z Z Z Z sz3 (by simp;done) fun w26 S26=>?_)))))))))))));refine f_ ?_;have g4:(vaN (Q_ b at_.toNat) (vaN (Q_ b at_.toNat) 1 0 4000).2.1 (vaN (Q_ b at_.toNat) 1 0 4000).2.2 1048576).2.2≠0∨(¬ ((vaN (Q_ b at_.toNat) (vaN (Q_ b at_.toNat) 1 0 4000).2.1 (vaN (Q_ b at_.toNat) 1 0 4000).2.2 1048576).1=0∨((at_.toNat:Nat):Int) - (vaN (Q_ b at_.toNat) (vaN (Q_ b at_.toNat) 1 0 4000).2.1 (vaN (Q_ b at_.toNat) 1 0 4000).2.2 1048576).1 < 12)∧(f == 0)=false):=by first | exact .inl (by omega) | exact .inr ⟨by omega,by (have q9:f≠0:=(by omega));simp [q9]⟩
          have he0:=(db_ (deep:=(f == 0)) (at_:=at_.toNat) (t:=(Q_ b at_.toNat)) (show x.toNat=5 by omega)).trans (eN_ g4);rw [show (5:Int)=(x.toNat:Int) by omega,Int.toNat_of_nonneg (show 0≤at_ by omega)] at he0;exact ⟨_,_,_,(Sc Z (Sc Z (Sc Z (Sc Z (Sub.nil _))))),⟨he0,gf_ _ _ _ hp1⟩,S26⟩
       ·
        refine j_ ?_;have he0:=opT_w (deep:=(f == 0)) (at_:=at_.toNat) (t:=(Q_ b at_.toNat)) (show ¬ (x.toNat < 1∨5 < x.toNat) by omega) (by omega);exact ⟨_,_,_,(Sc Z (Sc Z (Sc Z (Sc Z (Sub.nil _))))),⟨he0,hp1⟩,S13⟩
      ·
       rintro e27 w27 ⟨base,p,q,hsub,⟨he0,hp0⟩,S27⟩;refine el_ hsub (a_ fun K29 hK29=>have hp4:=rwP_le (Q_ b at_.toNat) (p) (q) 4 hp0;have hp5:=jm_ (Q_ b at_.toNat) (rwP (Q_ b at_.toNat) (p) (q) 4) (rwE (Q_ b at_.toNat) (p) (q) 4) ((vaN (Q_ b at_.toNat) 1 0 4000).1:Int) hp4;Rm Z Z (L_o (o_ Tryz.func100 Z Z (xbigS b6 (bS_ B d 0 1) (m - 32 - 0) (d - 0) htd (p) (q) 4 w27 (S27.get 1 Z) (S27.rd hbt) (by omega) (by omega) (fun ad h1 h2 e=>by have h9:=bT_ hbt h1 h2;omega) (by omega)) Z Z ?_)));rintro e28 w28 ⟨v28,rfl,rfl,T28⟩;refine ⟨_,rfl,(have S28:=S27.turn 1 Z T28;L_y (O_ cl_ Tryz.underlying63 Z (w32n rwL_len)) Z (L_y (d_ 3 Tryz.underlying132 Z aV_ Z Z Z) Z (L_o (Y_ S28 2 Z Z Z Z aV_ (by simp;done) fun w29 S29=>?_))))⟩;refine f_ (hK29 _ _ (a_ fun K30 hK30=>Rm Z Z (Lm Z Z (L_o (o_ Tryz.func102 Z Z (xrawS b6 (bS_ B d 0 1) (m - 32 - 0) (d - 0) htd (rwP (Q_ b at_.toNat) (p) (q) 4) (rwE (Q_ b at_.toNat) (p) (q) 4) ((vaN (Q_ b at_.toNat) 1 0 4000).1:Int) w29 (S29.get 1 Z) (S29.rd hbt) (by omega) (by omega) (fun ad h1 h2 e=>by have h9:=bT_ hbt h1 h2;omega) (by omega)) Z Z ?_)))));rintro e30 w30 ⟨v30,rfl,T30,B30,d30,rfl,hr30,hd30⟩;refine ⟨_,rfl,(have S30:=S29.turn 1 Z T30;have S31:=St.newT S29 1 Z T30 (fun i hi=>hi) hr30 (fun i hi=>⟨hd30 i hi,(World.ownsRow.lt hr30 i hi).2⟩);have hdR:=fun i hi=>Nat.le_trans S29.size (hd30 i hi);L_y (d_ 4 Tryz.underlying132 Z bi_ Z Z Z) Z (L_o (Y_ S31 2 Z Z Z Z bi_ (by simp;done) fun w32 S32=>?_)))⟩;refine f_ (hK30 _ _ (a_ fun K31 hK31=>a_ fun K32 hK32=>Rm Z Z (L_y (x_ Z) Z (L_y (d_ 2 Tryz.underlying185 Z sz3 Z Z Z) Z (L_y (p_ Tryz.underlying3 Z Z (((S32.blk 1 Z).cell _).trans Z)) Z (L_y (V_ Z Z) Z (f_ (hK32 _ _ ?_))))))));refine m_ Z (fun h98=>?_) (fun h98=>?_)
       ·
        refine a_ fun K33 hK33=>T_drawn (fun w=>Blk w b6 185 #[.slice (bS_ B d 0 1) (m - 32 - 0) (d - 0),.int .i64 ((at_.toNat+rnP (Q_ b at_.toNat) (rwP (Q_ b at_.toNat) (p) (q) 4) (rwE (Q_ b at_.toNat) (p) (q) 4) ((vaN (Q_ b at_.toNat) 1 0 4000).1:Int):Nat):Int),.int .i64 ((rnE (Q_ b at_.toNat) (rwP (Q_ b at_.toNat) (p) (q) 4) (rwE (Q_ b at_.toNat) (p) (q) 4) ((vaN (Q_ b at_.toNat) 1 0 4000).1:Int):Nat):Int)]) [(0,true),(1,true),(2,true),(3,true),(4,true),(5,false),(6,true)] aJ_ (by kernel_rfl) (fun w l=>(S32.like l).blk 1 Z) fun w33 l33=>have S33:=S32.like l33;t_ Z (y_ Z (show _=some zA by kernel_rfl)) Z (t_ Z (r_ Z) Z (t_ Z (x_ Z) Z (t_ Z (d_ 2 Tryz.underlying185 Z sz3 Z Z Z) Z (t_ Z (y_ldS Tryz.underlying3 Z Z (fun w h=>(h.cell _).trans Z)) Z (dB_ Z (B_ S33 0 Z Z Z ca_ (by rfl) (by intro u hu;first | (simp [zA] at hu;rcases hu with rfl | rfl | rfl | rfl | rfl <;> rfl) | (simp at hu;rcases hu with rfl | rfl | rfl | rfl | rfl <;> rfl) | exact ax_ _ _ u hu) fun w34 S34=>?_))))));refine ⟨S34.blk 1 Z,(t_ Z (I_ Z) Z (av_ (hK33 _ _ (l_ (ur (X_ Z Z Z (S34.blk 0 Z) Tryz.underlying132 Z (by exact ca_) ?_))))))⟩;have he:opV b at_ (f == 0)=((rnE (Q_ b at_.toNat) (rwP (Q_ b at_.toNat) (p) (q) 4) (rwE (Q_ b at_.toNat) (p) (q) 4) ((vaN (Q_ b at_.toNat) 1 0 4000).1:Int):Int),zE):=heV.trans (he0.trans (opR_e (by omega)));exact ⟨_,rfl,S34.like0,p0,by rw [he];rfl,by rw [he];rfl,fresh0 _ _⟩
       ·
        refine j_ (hK31 _ _ (a_ fun K34 hK34=>a_ fun K35 hK35=>ad_ [(0,true),(1,true),(3,true),(4,true),(2,false),(5,true)] aJ_ (by kernel_rfl) fun w35 l35=>have S35:=S32.like l35;t_ Z (d_ 4 Tryz.underlying132 Z bi_ Z Z Z) Z (t_ Z (p_ Tryz.underlying22 Z Z (((S35.blk 2 Z).cell _).trans (by rfl))) Z ?_)));refine t_ Z (d_ 3 Tryz.underlying132 Z aV_ Z Z Z) Z (t_ Z (p_ Tryz.underlying63 Z Z (((S35.blk 2 Z).cell _).trans (by rfl))) Z ?_);refine dB_ Z (o_ Tryz.func63 Z Z (rof _ _ _ (rnL (Q_ b at_.toNat) (rwP (Q_ b at_.toNat) (p) (q) 4) (rwE (Q_ b at_.toNat) (p) (q) 4) ((vaN (Q_ b at_.toNat) 1 0 4000).1:Int)) w35 (S35.row 3 Z)) Z Z ?_);rintro e36 w36 ⟨v36,rfl,l36,rfl⟩;refine ⟨_,rfl,l36,(have S36:=S35.like l36;have q36:=l36;t_ Z (V_ Z Z) Z (av_ (hK35 _ _ ?_)))⟩;refine m_ Z (fun h109=>?_) (fun h109=>?_)
        ·
         refine a_ fun K36 hK36=>b_ (L_y (y_ Z (show _=some zA by kernel_rfl)) Z (L_o (B_ S36 0 Z Z Z ca_ (by rfl) (by intro u hu;first | (simp [zA] at hu;rcases hu with rfl | rfl | rfl | rfl | rfl <;> rfl) | (simp at hu;rcases hu with rfl | rfl | rfl | rfl | rfl <;> rfl) | exact ax_ _ _ u hu) fun w37 S37=>?_)));refine Lan Z Z (hK36 _ _ (l_ (ur (X_ Z Z Z (S37.blk 0 Z) Tryz.underlying132 Z (by exact ca_) ?_))));have hs1:=crcN1 h109;have he:opV b at_ (f == 0)=(13,zE):=heV.trans (he0.trans (opR_13 (by omega) hs1));exact ⟨_,rfl,S37.like0,p0,by rw [he];rfl,by rw [he];rfl,fresh0 _ _⟩
        ·
         refine j_ (hK34 _ _ (a_ fun K37 hK37=>Rm Z Z (L_y (x_ Z) Z (L_y (d_ 1 Tryz.underlying185 Z sz3 Z Z Z) Z (L_y (p_ Tryz.underlying3 Z Z (((S36.blk 1 Z).cell _).trans Z)) Z (L_y (d_ 2 Tryz.underlying132 Z sz3 Z Z Z) Z (L_o (Y_ S36 2 Z Z Z Z sz3 (by simp;done) fun w38 S38=>?_))))))));refine f_ (hK37 _ _ (a_ fun K38 hK38=>b_ (L_y (W_ Tryz.underlying132 Z ca_ Z (S38.blk 2 Z) ⟨rfl,rfl⟩) Z (L_o (B_ S38 0 Z Z Z ca_ (by rfl) (by intro u hu;first | (simp [zA] at hu;rcases hu with rfl | rfl | rfl | rfl | rfl <;> rfl) | (simp at hu;rcases hu with rfl | rfl | rfl | rfl | rfl <;> rfl) | exact ax_ _ _ u hu) fun w39 S39=>?_)))));refine Lan Z Z (hK38 _ _ (l_ (ur (X_ Z Z Z (S39.blk 0 Z) Tryz.underlying132 Z (by exact ca_) ?_))));have hs1:=crcE1 h109;have he:opV b at_ (f == 0)=(0,_):=heV.trans (he0.trans (js_ (by omega) (fun q=>q hs1)));have hsm:((be (rwL (Q_ b at_.toNat) (p) (q) 4):Nat):Int)=N (bn_ (rnL (Q_ b at_.toNat) (rwP (Q_ b at_.toNat) (p) (q) 4) (rwE (Q_ b at_.toNat) (p) (q) 4) ((vaN (Q_ b at_.toNat) 1 0 4000).1:Int))):=by show _=((bn_ _).toNat:Int);rw [hs1]
         refine ⟨_,rfl,S39.like0,⟨B30,_,d30,(rnL (Q_ b at_.toNat) (rwP (Q_ b at_.toNat) (p) (q) 4) (rwE (Q_ b at_.toNat) (p) (q) 4) ((vaN (Q_ b at_.toNat) 1 0 4000).1:Int))⟩,?_,by rw [he],⟨S39.row 3 Z,fun ad h1 h2=>hdR ad.block (kO_ hr30 h1 ad h2)⟩⟩;rw [he,hsm];rfl
end Pak
namespace Del
open Go.RowKit Zk Zx Oct
theorem rreadH (B:Option Addr) (m d:Nat) (l:List UInt8) (w0:World) (hb:Rs w0 1 B m d (bL l)) (hm5:m≤10000) :
    Calls Tryz.prog 69 #[.slice B m d] w0 fun e w'=>∃ u,e=.returned u∧Like w0 w'∧∃ A' c' qs,∃ R:Res,u=.tuple #[.agg (scA (aj_ l).1 (aj_ l).2.1 A' qs.length c'),.int .i64 (aj_ l).2.2.2]∧R.holds w'∧(∀ i,R.dom i→w0.heap.size≤i∧i < w'.heap.size)∧(∀ W,R.holds W→Rs W 4 A' qs.length c' (qs.flatMap opf)∧OkO W qs)∧qs.map OP.v=(aj_ l).2.2.1:=by
 refine w_ (env:=[(0,.slice B m d)]) [.slice B m d] Tryz.func69 Z Tryz.ntmps69 Z Z ?_;have hnl:=hb.lenb;have hcap:=hb.cap;have hmax:=hb.max;have S0:=St.start w0 noM;refine a_ fun K1 hK1=>b_ (L_o (E_ zz137 S0 Z fun b1 w1 hb1 S1=>Lan Z Z (hK1 _ _ (a_ fun K2 hK2=>Rm Z Z (L_y (y_ Z (show _=some #[Value.slice B m d,Value.int .i64 ((0:Nat):Int),Value.int .i64 ((0:Nat):Int)] by kernel_rfl)) Z ?_)))));refine L_o (bB_ Z S1 Z fun b2 w2 hb2 S2=>?_);have hbg:∀ ad,0 < m→B=some ad→ad.block≠b2:=fun ad h1 h2=>by have:=bT_ hb h1 h2;omega
 refine Lan Z Z (hK2 _ _ (a_ fun K3 hK3=>Rm Z Z (L_o (o_ Tryz.func101 Z Z (xvar b2 B m d l 0 0 4000 w2 (S2.get 1 Z) (S2.rd hb) (by omega) (by omega) hbg) Z Z ?_))));rintro e3 w3 ⟨v3,rfl,rfl,T3⟩;refine ⟨_,rfl,(have S3:=S2.turn 1 Z T3;have hF:=bP_ l 0 0 4000 (by omega);have hFm:=dJ_ l 0 0 4000;L_y (O_ cl_ Tryz.underlying3 Z (z_ (by omega))) Z (L_y (y_ Z (show _=some (scA ((vaN l 0 0 4000).1:Int) 0 none 0 0) by kernel_rfl)) Z ?_))⟩;refine L_o (E_ zz137 S3 Z fun b4 w4 hb4 S4=>L_o (B_ S4 2 Z Z Z bU_ Z (bq_ _ _ _ _ _) fun w5 S5=>f_ (hK3 _ _ (a_ fun K4 hK4=>Rm Z Z (L_o (o_ Tryz.func101 Z Z (xvar b2 B m d l _ _ 4000 w5 (S5.get 1 Z) (S5.rd hb) (by omega) (by omega) hbg) Z Z ?_))))));rintro e6 w6 ⟨v6,rfl,rfl,T6⟩;refine ⟨_,rfl,(have S6:=S5.turn 1 Z T6;have hG:=bP_ l (vaN l 0 0 4000).2.1 (vaN l 0 0 4000).2.2 4000 (by omega);have hGm:=dJ_ l (vaN l 0 0 4000).2.1 (vaN l 0 0 4000).2.2 4000;L_y (O_ cl_ Tryz.underlying3 Z (z_ (by omega))) Z (L_y (d_ 1 Tryz.underlying137 Z sz3 Z Z Z) Z (L_o (Y_ S6 2 Z Z Z Z sz3 (by show 1 < 3;decide) fun w7 S7=>?_))))⟩;refine f_ (hK4 _ _ (a_ fun K5 hK5=>a_ fun K6 hK6=>Rm Z Z (L_y (x_ Z) Z (L_y (d_ 2 Tryz.underlying185 Z sz3 Z Z Z) Z (L_y (p_ Tryz.underlying3 Z Z (((S7.blk 1 Z).cell _).trans (by rfl))) Z ?_)))));refine L_y (V_ Z Z) Z (f_ (hK6 _ _ ?_));refine m_ Z (fun h25=>?_) (fun h25=>?_)
 ·
  refine a_ fun K7 hK7=>dk_ (fun w=>Blk w b2 185 #[Value.slice B m d,Value.int .i64 ((vaN l (vaN l 0 0 4000).2.1 (vaN l 0 0 4000).2.2 4000).2.1:Int),Value.int .i64 ((vaN l (vaN l 0 0 4000).2.1 (vaN l 0 0 4000).2.2 4000).2.2:Int)]) aJ_ (by kernel_rfl) (fun w l=>(S7.like l).blk 1 Z) fun w8 l8=>have S8:=S7.like l8;aX_ 0 (by kernel_rfl) Z (y_ Z (show _=some (scA 0 0 none 0 0) by kernel_rfl)) Z (aX_ 1 (by kernel_rfl) Z (r_ Z) Z (aX_ 2 (by kernel_rfl) Z (x_ Z) Z (aX_ 3 (by kernel_rfl) Z (d_ 2 Tryz.underlying185 Z sz3 Z Z Z) Z (aX_ 4 (by kernel_rfl) Z (y_of fun w hw=>p_ Tryz.underlying3 Z Z (((hw).cell _).trans (by rfl))) Z ?_))));refine dl_ 5 (by kernel_rfl) Z (B_ S8 0 Z Z Z bU_ Z (bq_ _ _ _ _ _) fun w9 S9=>⟨S9.blk 1 Z,(aX_ 6 (by kernel_rfl) Z (I_ Z) Z (em_ (by kernel_rfl) (hK7 _ _ (l_ (ur (X_ Z Z Z (S9.blk 0 Z) Tryz.underlying137 Z (by exact bU_) ?_))))))⟩);exact ⟨_,rfl,S9.like0,none,0,[],sepL [],by rw [iF_ (by omega)];rfl,⟨fun r hr=>(List.not_mem_nil hr).elim,List.Pairwise.nil⟩,(fun i ⟨r,hr,_⟩=>(List.not_mem_nil hr).elim),(fun W _=>⟨Rs.nil _ 4,fun o ho=>(List.not_mem_nil ho).elim⟩),by rw [iF_ (by omega)];rfl⟩
 ·
  have hq0:(vaN l (vaN l 0 0 4000).2.1 (vaN l 0 0 4000).2.2 4000).2.2=0:=by omega
  rw [hq0] at S7;refine j_ (hK5 _ _ (a_ fun K8 hK8=>b_ (Lan Z Z (hK8 _ _ (a_ fun K9 hK9=>u_ ?_)))));refine fw_ [(0,_),(2,_),(4,_),(5,_)] (fun (p:Nat) (left:Int) (A1:Option Addr) (c1:Nat) (ops:List OP) (ps:List Part)=>[(6,.int .i64 (((vaN l (vaN l 0 0 4000).2.1 (vaN l 0 0 4000).2.2 4000).1:Int) - left))]) (fun (p:Nat) (left:Int) (A1:Option Addr) (c1:Nat) (ops:List OP) (ps:List Part)=>m - p) (fun (p:Nat) (left:Int) (A1:Option Addr) (c1:Nat) (ops:List OP) (ps:List Part) (w:World)=>(p≤m∧0≤left∧(ops.length:Int)+left≤((vaN l (vaN l 0 0 4000).2.1 (vaN l 0 0 4000).2.2 4000).1:Int)∧InP ops ps∧RDI l ((vaN l 0 0 4000).1:Int) p left (ops.map OP.v) (rdR l))∧St w0 noM [blk b1 137 #[.int .i64 0,.int .i64 0,.slice none 0 0],xr b2 B m d p 0,blk b4 137 (scA ((vaN l 0 0 4000).1:Int) ((vaN l (vaN l 0 0 4000).2.1 (vaN l 0 0 4000).2.2 4000).1:Int) A1 ops.length c1),row 190 4 A1 ops.length c1 (ops.flatMap opf),fam (ps.map bK_)] w) (vaN l (vaN l 0 0 4000).2.1 (vaN l 0 0 4000).2.2 4000).2.1 ((vaN l (vaN l 0 0 4000).2.1 (vaN l 0 0 4000).2.2 4000).1:Int) none 0 [] [] (Sc Z (Sub.nil _)) (Sub.cons Z Z (Sub.cons Z Z (Sub.cons Z Z (Sub.cons Z Z (Sub.nil _))))) ?_ ?_
  ·
   have S9:=((S7.nilrow 190 4).fam0);exact ⟨⟨by omega,by omega,by show (0:Int)+_≤_;omega,(fun o ho=>(List.not_mem_nil ho).elim),RDI.start l ((vaN l 0 0 4000).1:Int) (vaN l (vaN l 0 0 4000).2.1 (vaN l 0 0 4000).2.2 4000).2.1 ((vaN l (vaN l 0 0 4000).2.1 (vaN l 0 0 4000).2.2 4000).1:Int)⟩,S9⟩
  ·
   intro p left A1 c1 ops ps w10 hrel;obtain ⟨⟨hk,hl0,hol,hin,hrd⟩,S10⟩:=hrel;refine a_ fun K10 hK10=>a_ fun K11 hK11=>Rm Z Z (L_y (x_ Z) Z (L_y (d_ 1 Tryz.underlying185 Z sz3 Z Z Z) Z (L_y (p_ Tryz.underlying3 Z Z (((S10.blk 1 Z).cell _).trans (by rfl))) Z ?_)));refine Lm Z Z (L_y (J_ Tryz.underlying22 Z) Z (L_y (H_ Z Z) Z (f_ (hK11 _ _ ?_))));refine m_ Z (fun h37=>?_) (fun h37=>?_)
   ·
    obtain ⟨x,hx⟩:∃ x,l[p]?=some x:=⟨_,List.getElem?_eq_getElem (by omega)⟩;have hxl:=x.toNat_lt;refine j_ (hK10 _ _ (u_ (a_ fun K12 hK12=>Rm Z Z (L_o (o_ Tryz.func100 Z Z (xbig1 b2 B m d l p x w10 (S10.get 1 Z) (S10.rd hb) hx (by omega) hbg) Z Z ?_)))));rintro e11 w11 ⟨v11,rfl,rfl,T11⟩;refine ⟨_,rfl,(have S11:=S10.turn 1 Z T11;L_y (O_ cl_ Tryz.underlying3 Z (z_ (by omega))) Z (Lan Z Z (hK12 _ _ (a_ fun K13 hK13=>a_ fun K14 hK14=>Rm Z Z (L_y (aa_ Z Z) Z (f_ (hK14 _ _ ?_)))))))⟩;refine m_ Z (fun h42=>?_) (fun h42=>?_)
    ·
     refine a_ fun K15 hK15=>b_ (L_y (y_ Z (show _=some (scA 0 0 none 0 0) by kernel_rfl)) Z (L_o (B_ S11 0 Z Z Z bU_ Z (bq_ _ _ _ _ _) fun w12 S12=>Lan Z Z (hK15 _ _ (l_ (ur (X_ Z Z Z (S12.blk 0 Z) Tryz.underlying137 Z (by exact bU_) ?_)))))));have hR:(rdO l p x ((vaN l 0 0 4000).1:Int)).e=19:=by rw [kP_ (by omega)]
     have her:=hrd.err hx (by rw [hR];omega);rw [hR] at her;exact ⟨_,rfl,S12.like0,none,0,[],sepL [],by rw [aS_ hq0 her (by omega)];rfl,⟨fun r hr=>(List.not_mem_nil hr).elim,List.Pairwise.nil⟩,(fun i ⟨r,hr,_⟩=>(List.not_mem_nil hr).elim),(fun W _=>⟨Rs.nil _ 4,fun o ho=>(List.not_mem_nil ho).elim⟩),by rw [aS_ hq0 her (by omega)];rfl⟩
    ·
     refine j_ (hK13 _ _ (a_ fun K16 hK16=>Rm Z Z (L_y (ah_ Z Z) Z (L_y (y_ Z (show _=some #[Value.bool (decide ((x.toNat:Int)=1)),Value.int .i64 0,Value.int .i64 0,Value.slice none 0 0] by kernel_rfl)) Z ?_))));refine L_o (E_ zz190 S11 Z fun b13 w13 hb13 S13=>L_o (B_ S13 5 Z Z Z dz_ Z (by intro u hu;simp at hu;rcases hu with rfl | rfl | rfl | rfl <;> rfl) fun w14 S14=>?_));refine f_ (hK16 _ _ (a_ fun K17 hK17=>a_ fun K18 hK18=>b_ (L_y (d_ 0 Tryz.underlying190 Z sz4 Z Z Z) Z (L_y (p_ Tryz.underlying4 Z Z (((S14.blk 5 Z).cell _).trans (by rfl))) Z ?_))));refine f_ (hK18 _ _ ?_);refine m_ Z (fun h48=>?_) (fun h48=>?_)
     ·
      have hx1:x.toNat=1:=by omega
      rw [decide_eq_true (show ((x.toNat:Nat):Int)=1 by omega)] at S14;refine Rm Z Z (L_o (o_ Tryz.func101 Z Z (xvar b2 B m d l (p+1) 0 4000 w14 (S14.get 1 Z) (S14.rd hb) (by omega) (by omega) hbg) Z Z ?_));rintro e15 w15 ⟨v15,rfl,rfl,T15⟩;refine ⟨_,rfl,(have S15:=S14.turn 1 Z T15;have hF2:=bP_ l (p+1) 0 4000 (by omega);have hFm2:=dJ_ l (p+1) 0 4000;L_y (O_ cl_ Tryz.underlying3 Z (z_ (by omega))) Z (L_y (d_ 1 Tryz.underlying190 Z sz3 Z Z Z) Z (L_o (Y_ S15 5 Z Z Z Z sz3 (by simp;done) fun w16 S16=>?_))))⟩;refine f_ (hK17 _ _ (a_ fun K19 hK19=>Rm Z Z (L_o (o_ Tryz.func101 Z Z (xvar b2 B m d l _ _ 4000 w16 (S16.get 1 Z) (S16.rd hb) (by omega) (by omega) hbg) Z Z ?_))));rintro e17 w17 ⟨v17,rfl,rfl,T17⟩;refine ⟨_,rfl,(have S17:=S16.turn 1 Z T17;have hG2:=bP_ l (vaN l (p+1) 0 4000).2.1 (vaN l (p+1) 0 4000).2.2 4000 (by omega);have hGm2:=dJ_ l (vaN l (p+1) 0 4000).2.1 (vaN l (p+1) 0 4000).2.2 4000;L_y (O_ cl_ Tryz.underlying3 Z (z_ (by omega))) Z (Lan Z Z (hK19 _ _ (a_ fun K20 hK20=>a_ fun K21 hK21=>Rm Z Z (L_y (x_ Z) Z (L_y (d_ 2 Tryz.underlying185 Z sz3 Z Z Z) Z ?_))))))⟩;refine L_y (p_ Tryz.underlying3 Z Z (((S17.blk 1 Z).cell _).trans (by rfl))) Z ?_;refine L_y (V_ Z Z) Z (f_ (hK21 _ _ ?_));refine m_ Z (fun h60=>?_) (fun h60=>?_)
      ·
       refine a_ fun K22 hK22=>dk_ (fun w=>Blk w b2 185 #[Value.slice B m d,Value.int .i64 ((vaN l (vaN l (p+1) 0 4000).2.1 (vaN l (p+1) 0 4000).2.2 4000).2.1:Int),Value.int .i64 ((vaN l (vaN l (p+1) 0 4000).2.1 (vaN l (p+1) 0 4000).2.2 4000).2.2:Int)]) aJ_ (by kernel_rfl) (fun w l=>(S17.like l).blk 1 Z) fun w18 l18=>have S18:=S17.like l18;aX_ 0 (by kernel_rfl) Z (y_ Z (show _=some (scA 0 0 none 0 0) by kernel_rfl)) Z (aX_ 1 (by kernel_rfl) Z (r_ Z) Z (aX_ 2 (by kernel_rfl) Z (x_ Z) Z (aX_ 3 (by kernel_rfl) Z (d_ 2 Tryz.underlying185 Z sz3 Z Z Z) Z (aX_ 4 (by kernel_rfl) Z (y_of fun w hw=>p_ Tryz.underlying3 Z Z (((hw).cell _).trans (by rfl))) Z ?_))));refine dl_ 5 (by kernel_rfl) Z (B_ S18 0 Z Z Z bU_ Z (bq_ _ _ _ _ _) fun w19 S19=>⟨S19.blk 1 Z,(aX_ 6 (by kernel_rfl) Z (I_ Z) Z (em_ (by kernel_rfl) (hK22 _ _ (l_ (ur (X_ Z Z Z (S19.blk 0 Z) Tryz.underlying137 Z (by exact bU_) ?_))))))⟩);have hR:(rdO l p x ((vaN l 0 0 4000).1:Int)).e=((vaN l (vaN l (p+1) 0 4000).2.1 (vaN l (p+1) 0 4000).2.2 4000).2.2:Int):=by rw [ey_ hx1,hl_ (by omega)]
       have her:=hrd.err hx (by rw [hR];omega);rw [hR] at her;exact ⟨_,rfl,S19.like0,none,0,[],sepL [],by rw [aS_ hq0 her (by omega)];rfl,⟨fun r hr=>(List.not_mem_nil hr).elim,List.Pairwise.nil⟩,(fun i ⟨r,hr,_⟩=>(List.not_mem_nil hr).elim),(fun W _=>⟨Rs.nil _ 4,fun o ho=>(List.not_mem_nil ho).elim⟩),by rw [aS_ hq0 her (by omega)];rfl⟩
      ·
       have hq1:(vaN l (vaN l (p+1) 0 4000).2.1 (vaN l (p+1) 0 4000).2.2 4000).2.2=0:=by omega
       rw [hq1] at S17;refine j_ (hK20 _ _ (a_ fun K23 hK23=>a_ fun K24 hK24=>Rm Z Z (L_y (ah_ Z Z) Z (f_ (hK24 _ _ ?_)))));refine m_ Z (fun h67=>?_) (fun h67=>?_)
       ·
        refine a_ fun K25 hK25=>b_ (L_y (y_ Z (show _=some (scA 0 0 none 0 0) by kernel_rfl)) Z (L_o (B_ S17 0 Z Z Z bU_ Z (bq_ _ _ _ _ _) fun w20 S20=>Lan Z Z (hK25 _ _ (l_ (ur (X_ Z Z Z (S20.blk 0 Z) Tryz.underlying137 Z (by exact bU_) ?_)))))));have hR:(rdO l p x ((vaN l 0 0 4000).1:Int)).e=12:=by rw [ey_ hx1,fQ_ hq1 (by omega)]
        have her:=hrd.err hx (by rw [hR];omega);rw [hR] at her;exact ⟨_,rfl,S20.like0,none,0,[],sepL [],by rw [aS_ hq0 her (by omega)];rfl,⟨fun r hr=>(List.not_mem_nil hr).elim,List.Pairwise.nil⟩,(fun i ⟨r,hr,_⟩=>(List.not_mem_nil hr).elim),(fun W _=>⟨Rs.nil _ 4,fun o ho=>(List.not_mem_nil ho).elim⟩),by rw [aS_ hq0 her (by omega)];rfl⟩
       ·
        refine j_ (hK23 _ _ (a_ fun K26 hK26=>a_ fun K27 hK27=>b_ (L_y (d_ 0 Tryz.underlying190 Z sz4 Z Z Z) Z (L_y (p_ Tryz.underlying4 Z Z (((S17.blk 5 Z).cell _).trans (by rfl))) Z ?_))));refine f_ (hK27 _ _ (U_ Z (a_ fun K28 hK28=>Rm Z Z (L_y (d_ 2 Tryz.underlying190 Z sz3 Z Z Z) Z (L_o (Y_ S17 5 Z Z Z Z sz3 (by simp;done) fun w21 S21=>?_))))));refine f_ (hK28 _ _ (a_ fun K29 hK29=>b_ (L_y (d_ 1 Tryz.underlying190 Z sz3 Z Z Z) Z (L_y (p_ Tryz.underlying3 Z Z (((S21.blk 5 Z).cell _).trans (by rfl))) Z ?_))));refine Lm Z Z (L_y (v_ Z Z (z_ (by omega))) Z (L_y (d_ 0 Tryz.underlying137 Z sz3 Z Z Z) Z (L_y (p_ Tryz.underlying3 Z Z (((S21.blk 2 Z).cell _).trans (by rfl))) Z ?_)));refine L_y (aa_ Z Z) Z (f_ (hK29 _ _ ?_));refine m_ Z (fun h79=>?_) (fun h79=>?_)
        ·
         refine a_ fun K30 hK30=>b_ (L_y (y_ Z (show _=some (scA 0 0 none 0 0) by kernel_rfl)) Z (L_o (B_ S21 0 Z Z Z bU_ Z (bq_ _ _ _ _ _) fun w22 S22=>Lan Z Z (hK30 _ _ (l_ (ur (X_ Z Z Z (S22.blk 0 Z) Tryz.underlying137 Z (by exact bU_) ?_)))))));have hR:(rdO l p x ((vaN l 0 0 4000).1:Int)).e=21:=by rw [ey_ hx1,kQ_ hq1 (by omega) (by omega)]
         have her:=hrd.err hx (by rw [hR];omega);rw [hR] at her;exact ⟨_,rfl,S22.like0,none,0,[],sepL [],by rw [aS_ hq0 her (by omega)];rfl,⟨fun r hr=>(List.not_mem_nil hr).elim,List.Pairwise.nil⟩,(fun i ⟨r,hr,_⟩=>(List.not_mem_nil hr).elim),(fun W _=>⟨Rs.nil _ 4,fun o ho=>(List.not_mem_nil ho).elim⟩),by rw [aS_ hq0 her (by omega)];rfl⟩
        ·
         have hR:(rdO l p x ((vaN l 0 0 4000).1:Int))=⟨(⟨true,((vaN l (p+1) 0 4000).1:Int),((vaN l (vaN l (p+1) 0 4000).2.1 (vaN l (p+1) 0 4000).2.2 4000).1:Int),p0⟩:OP).v,(vaN l (vaN l (p+1) 0 4000).2.1 (vaN l (p+1) 0 4000).2.2 4000).2.1,0,0⟩:=by rw [ey_ hx1,rdN_cp hq1 (by omega) (by omega)];rfl
         have hsz:szV (⟨true,((vaN l (p+1) 0 4000).1:Int),((vaN l (vaN l (p+1) 0 4000).2.1 (vaN l (p+1) 0 4000).2.2 4000).1:Int),p0⟩:OP).v=((vaN l (vaN l (p+1) 0 4000).2.1 (vaN l (p+1) 0 4000).2.2 4000).1:Int):=rfl;obtain ⟨hro1,hro2,hro3,hro4⟩:=rdO_ok (base:=((vaN l 0 0 4000).1:Int)) hx (by rw [hR]);refine j_ (hK26 _ _ (a_ fun K31 hK31=>Rm Z Z (Lm Z Z (L_y (v_ Z Z (z_ (by omega))) Z (Lan Z Z (hK31 _ _ (a_ fun K32 hK32=>a_ fun K33 hK33=>Rm Z Z ?_)))))));refine L_y (d_ 1 Tryz.underlying137 Z sz3 Z Z Z) Z (L_y (p_ Tryz.underlying3 Z Z (((S21.blk 2 Z).cell _).trans (by rfl))) Z ?_);refine L_y (aa_ Z Z) Z (f_ (hK33 _ _ ?_));refine m_ Z (fun h101=>?_) (fun h101=>?_)
         ·
          refine a_ fun K34 hK34=>b_ (L_y (y_ Z (show _=some (scA 0 0 none 0 0) by kernel_rfl)) Z (L_o (B_ S21 0 Z Z Z bU_ Z (bq_ _ _ _ _ _) fun w23 S23=>Lan Z Z (hK34 _ _ (l_ (ur (X_ Z Z Z (S23.blk 0 Z) Tryz.underlying137 Z (by exact bU_) ?_)))))));have her:=hrd.long hx (by rw [hR]) (by rw [hR];show left < szV (⟨true,((vaN l (p+1) 0 4000).1:Int),((vaN l (vaN l (p+1) 0 4000).2.1 (vaN l (p+1) 0 4000).2.2 4000).1:Int),p0⟩:OP).v;rw [hsz];omega);exact ⟨_,rfl,S23.like0,none,0,[],sepL [],by rw [aS_ hq0 her (by decide)];rfl,⟨fun r hr=>(List.not_mem_nil hr).elim,List.Pairwise.nil⟩,(fun i ⟨r,hr,_⟩=>(List.not_mem_nil hr).elim),(fun W _=>⟨Rs.nil _ 4,fun o ho=>(List.not_mem_nil ho).elim⟩),by rw [aS_ hq0 her (by decide)];rfl⟩
         ·
          refine j_ (hK32 _ _ (b_ (L_y (d_ 2 Tryz.underlying137 Z gA_ Z Z Z) Z (L_y (p_ Tryz.underlying135 Z Z (((S21.blk 2 Z).cell _).trans (by rfl))) Z ?_))));refine L_y (W_ Tryz.underlying190 Z dz_ Z (S21.blk 5 Z) (show _=opf (⟨true,((vaN l (p+1) 0 4000).1:Int),((vaN l (vaN l (p+1) 0 4000).2.1 (vaN l (p+1) 0 4000).2.2 4000).1:Int),p0⟩:OP)∧_ from ⟨rfl,rfl⟩)) Z (L_o (aY_ (opf (⟨true,((vaN l (p+1) 0 4000).1:Int),((vaN l (vaN l (p+1) 0 4000).2.1 (vaN l (p+1) 0 4000).2.2 4000).1:Int),p0⟩:OP)) te135 zz190 S21 Z Z Z Z Z Z Z Z fun b24 w24 S24=>L_o (aL_ te135 S24 3 Z Z Z (by first | exact S24.row 3 Z | exact S24.fix 4 Z | exact S24.row 6 Z) (bC_ _) Z (by omega) (by omega) fun A25 c25 w25 S25=>?_)));have S25d:=S25.drop (rs':=[_,_,_,_,_,_]) (.cons_cons _ (.cons_cons _ (.cons_cons _ (.cons_cons _ (.cons_cons _ (.cons_cons _ (.cons _ (.refl _))))))));refine L_y (d_ 2 Tryz.underlying137 Z gA_ Z Z Z) Z (L_o (Y_ S25d 2 Z Z Z Z gA_ (by show 2 < 3;decide) fun w26 S26=>?_));refine f_ ?_;have S91:=S26.blkc 2 Z ((hg_ ((vaN l 0 0 4000).1:Int) ((vaN l (vaN l 0 0 4000).2.1 (vaN l 0 0 4000).2.2 4000).1:Int) A1 ops.length c1 A25 (ops.length+1) c25).trans (show _=scA ((vaN l 0 0 4000).1:Int) ((vaN l (vaN l 0 0 4000).2.1 (vaN l 0 0 4000).2.2 4000).1:Int) A25 (ops++[(⟨true,((vaN l (p+1) 0 4000).1:Int),((vaN l (vaN l (p+1) 0 4000).2.1 (vaN l (p+1) 0 4000).2.2 4000).1:Int),p0⟩:OP)]).length c25 from by rw [List.length_append];rfl));have S92:=S91.rowc 3 Z (n':=(ops++[(⟨true,((vaN l (p+1) 0 4000).1:Int),((vaN l (vaN l (p+1) 0 4000).2.1 (vaN l (p+1) 0 4000).2.2 4000).1:Int),p0⟩:OP)]).length) (xs':=(ops++[(⟨true,((vaN l (p+1) 0 4000).1:Int),((vaN l (vaN l (p+1) 0 4000).2.1 (vaN l (p+1) 0 4000).2.2 4000).1:Int),p0⟩:OP)]).flatMap opf) (by rw [List.length_append];rfl) (by rw [List.flatMap_append];simp);have S94:=S92.sel [0,1,2,3,4] (by decide);have hnx:=hrd.next hx (by rw [hR]) (by rw [hR];show ¬ left < szV (⟨true,((vaN l (p+1) 0 4000).1:Int),((vaN l (vaN l (p+1) 0 4000).2.1 (vaN l (p+1) 0 4000).2.2 4000).1:Int),p0⟩:OP).v;rw [hsz];omega);rw [show szV (rdO l p x ((vaN l 0 0 4000).1:Int)).o=((vaN l (vaN l (p+1) 0 4000).2.1 (vaN l (p+1) 0 4000).2.2 4000).1:Int) from by rw [hR];exact hsz,show (rdO l p x ((vaN l 0 0 4000).1:Int)).o=(⟨true,((vaN l (p+1) 0 4000).1:Int),((vaN l (vaN l (p+1) 0 4000).2.1 (vaN l (p+1) 0 4000).2.2 4000).1:Int),p0⟩:OP).v from by rw [hR]] at hnx;rw [show ((vaN l (vaN l (p+1) 0 4000).2.1 (vaN l (p+1) 0 4000).2.2 4000):Nat × Nat × Nat).2.1=(rdO l p x ((vaN l 0 0 4000).1:Int)).p from by rw [hR]] at S94;refine ⟨(rdO l p x ((vaN l 0 0 4000).1:Int)).p,left - ((vaN l (vaN l (p+1) 0 4000).2.1 (vaN l (p+1) 0 4000).2.2 4000).1:Int),A25,c25,ops++[(⟨true,((vaN l (p+1) 0 4000).1:Int),((vaN l (vaN l (p+1) 0 4000).2.1 (vaN l (p+1) 0 4000).2.2 4000).1:Int),p0⟩:OP)],ps,by omega,⟨⟨by omega,by omega,by rw [List.length_append,List.length_singleton];omega,hin.add0 Z,by rw [List.map_append,List.map_singleton];exact hnx⟩,S94⟩,?_⟩
          exact (Sub.cons Z (congrArg (Value.int _) (by omega)) (Sub.cons Z Z (Sub.cons Z Z (Sub.cons Z Z (Sub.cons Z Z (Sub.nil _))))))
     ·
      have hx1:¬ x.toNat=1:=by omega
      rw [decide_eq_false (show ¬ ((x.toNat:Nat):Int)=1 by omega)] at S14;refine j_ (hK17 _ _ (a_ fun K35 hK35=>Rm Z Z (L_o (o_ Tryz.func101 Z Z (xvar b2 B m d l _ _ 4000 w14 (S14.get 1 Z) (S14.rd hb) (by omega) (by omega) hbg) Z Z ?_))));rintro e27 w27 ⟨v27,rfl,rfl,T27⟩;refine ⟨_,rfl,(have S27:=S14.turn 1 Z T27;have hG2:=bP_ l (p+1) 0 4000 (by omega);have hGm2:=dJ_ l (p+1) 0 4000;L_y (O_ cl_ Tryz.underlying3 Z (z_ (by omega))) Z (Lan Z Z (hK35 _ _ (a_ fun K36 hK36=>a_ fun K37 hK37=>Rm Z Z (L_y (x_ Z) Z (L_y (d_ 2 Tryz.underlying185 Z sz3 Z Z Z) Z ?_))))))⟩;refine L_y (p_ Tryz.underlying3 Z Z (((S27.blk 1 Z).cell _).trans (by rfl))) Z ?_;refine L_y (V_ Z Z) Z (f_ (hK37 _ _ ?_));refine m_ Z (fun h60=>?_) (fun h60=>?_)
      ·
       refine a_ fun K38 hK38=>dk_ (fun w=>Blk w b2 185 #[Value.slice B m d,Value.int .i64 ((vaN l (p+1) 0 4000).2.1:Int),Value.int .i64 ((vaN l (p+1) 0 4000).2.2:Int)]) aJ_ (by kernel_rfl) (fun w l=>(S27.like l).blk 1 Z) fun w28 l28=>have S28:=S27.like l28;aX_ 0 (by kernel_rfl) Z (y_ Z (show _=some (scA 0 0 none 0 0) by kernel_rfl)) Z (aX_ 1 (by kernel_rfl) Z (r_ Z) Z (aX_ 2 (by kernel_rfl) Z (x_ Z) Z (aX_ 3 (by kernel_rfl) Z (d_ 2 Tryz.underlying185 Z sz3 Z Z Z) Z (aX_ 4 (by kernel_rfl) Z (y_of fun w hw=>p_ Tryz.underlying3 Z Z (((hw).cell _).trans (by rfl))) Z ?_))));refine dl_ 5 (by kernel_rfl) Z (B_ S28 0 Z Z Z bU_ Z (bq_ _ _ _ _ _) fun w29 S29=>⟨S29.blk 1 Z,(aX_ 6 (by kernel_rfl) Z (I_ Z) Z (em_ (by kernel_rfl) (hK38 _ _ (l_ (ur (X_ Z Z Z (S29.blk 0 Z) Tryz.underlying137 Z (by exact bU_) ?_))))))⟩);have hR:(rdO l p x ((vaN l 0 0 4000).1:Int)).e=((vaN l (p+1) 0 4000).2.2:Int):=by rw [dR_ (by omega) (by omega),hl_ (by omega)]
       have her:=hrd.err hx (by rw [hR];omega);rw [hR] at her;exact ⟨_,rfl,S29.like0,none,0,[],sepL [],by rw [aS_ hq0 her (by omega)];rfl,⟨fun r hr=>(List.not_mem_nil hr).elim,List.Pairwise.nil⟩,(fun i ⟨r,hr,_⟩=>(List.not_mem_nil hr).elim),(fun W _=>⟨Rs.nil _ 4,fun o ho=>(List.not_mem_nil ho).elim⟩),by rw [aS_ hq0 her (by omega)];rfl⟩
      ·
       have hq1:(vaN l (p+1) 0 4000).2.2=0:=by omega
       rw [hq1] at S27;refine j_ (hK36 _ _ (a_ fun K39 hK39=>a_ fun K40 hK40=>Rm Z Z (L_y (ah_ Z Z) Z (f_ (hK40 _ _ ?_)))));refine m_ Z (fun h67=>?_) (fun h67=>?_)
       ·
        refine a_ fun K41 hK41=>b_ (L_y (y_ Z (show _=some (scA 0 0 none 0 0) by kernel_rfl)) Z (L_o (B_ S27 0 Z Z Z bU_ Z (bq_ _ _ _ _ _) fun w30 S30=>Lan Z Z (hK41 _ _ (l_ (ur (X_ Z Z Z (S30.blk 0 Z) Tryz.underlying137 Z (by exact bU_) ?_)))))));have hR:(rdO l p x ((vaN l 0 0 4000).1:Int)).e=12:=by rw [dR_ (by omega) (by omega),fQ_ hq1 (by omega)]
        have her:=hrd.err hx (by rw [hR];omega);rw [hR] at her;exact ⟨_,rfl,S30.like0,none,0,[],sepL [],by rw [aS_ hq0 her (by omega)];rfl,⟨fun r hr=>(List.not_mem_nil hr).elim,List.Pairwise.nil⟩,(fun i ⟨r,hr,_⟩=>(List.not_mem_nil hr).elim),(fun W _=>⟨Rs.nil _ 4,fun o ho=>(List.not_mem_nil ho).elim⟩),by rw [aS_ hq0 her (by omega)];rfl⟩
       ·
        refine j_ (hK39 _ _ (a_ fun K42 hK42=>a_ fun K43 hK43=>b_ (L_y (d_ 0 Tryz.underlying190 Z sz4 Z Z Z) Z (L_y (p_ Tryz.underlying4 Z Z (((S27.blk 5 Z).cell _).trans (by rfl))) Z ?_))));refine f_ (hK43 _ _ (aI_ Z (a_ fun K44 hK44=>Rm Z Z (Lm Z Z (L_o (o_ Tryz.func102 Z Z (xraw b2 B m d l _ _ _ w27 (S27.get 1 Z) (S27.rd hb) (by omega) (by omega) hbg (by omega)) Z Z ?_))))));rintro e31 w31 ⟨v31,rfl,T31,B7,d7,rfl,hr31,hd31⟩;refine ⟨_,rfl,(have S31:=S27.turn 1 Z T31;have S32:=St.newT S27 1 Z T31 (fun i hi=>hi) hr31 (fun i hi=>⟨hd31 i hi,(World.ownsRow.lt hr31 i hi).2⟩);L_y (d_ 3 Tryz.underlying190 Z bi_ Z Z Z) Z (L_o (Y_ S32 5 Z Z Z Z bi_ (by simp;done) fun w33 S33=>?_)))⟩;refine f_ (hK44 _ _ (a_ fun K45 hK45=>Rm Z Z (L_y (x_ Z) Z (L_y (d_ 2 Tryz.underlying185 Z sz3 Z Z Z) Z (L_y (p_ Tryz.underlying3 Z Z (((S33.blk 1 Z).cell _).trans (by rfl))) Z ?_)))));refine L_y (V_ Z Z) Z (f_ (hK45 _ _ ?_));refine m_ Z (fun h89=>?_) (fun h89=>?_)
        ·
         refine a_ fun K46 hK46=>dk_ (fun w=>Blk w b2 185 #[Value.slice B m d,Value.int .i64 ((rnP l (vaN l (p+1) 0 4000).2.1 0 ((vaN l (p+1) 0 4000).1:Int)):Int),Value.int .i64 ((rnE l (vaN l (p+1) 0 4000).2.1 0 ((vaN l (p+1) 0 4000).1:Int)):Int)]) aJ_ (by kernel_rfl) (fun w l=>(S33.like l).blk 1 Z) fun w34 l34=>have S34:=S33.like l34;aX_ 0 (by kernel_rfl) Z (y_ Z (show _=some (scA 0 0 none 0 0) by kernel_rfl)) Z (aX_ 1 (by kernel_rfl) Z (r_ Z) Z (aX_ 2 (by kernel_rfl) Z (x_ Z) Z (aX_ 3 (by kernel_rfl) Z (d_ 2 Tryz.underlying185 Z sz3 Z Z Z) Z (aX_ 4 (by kernel_rfl) Z (y_of fun w hw=>p_ Tryz.underlying3 Z Z (((hw).cell _).trans (by rfl))) Z ?_))));refine dl_ 5 (by kernel_rfl) Z (B_ S34 0 Z Z Z bU_ Z (bq_ _ _ _ _ _) fun w35 S35=>⟨S35.blk 1 Z,(aX_ 6 (by kernel_rfl) Z (I_ Z) Z (em_ (by kernel_rfl) (hK46 _ _ (l_ (ur (X_ Z Z Z (S35.blk 0 Z) Tryz.underlying137 Z (by exact bU_) ?_))))))⟩);have hR:(rdO l p x ((vaN l 0 0 4000).1:Int)).e=(rnE l (vaN l (p+1) 0 4000).2.1 0 ((vaN l (p+1) 0 4000).1:Int):Int):=by rw [dR_ (by omega) (by omega),hk_ hq1 (by omega)]
         have her:=hrd.err hx (by rw [hR];omega);rw [hR] at her;exact ⟨_,rfl,S35.like0,none,0,[],sepL [],by rw [aS_ hq0 her (by omega)];rfl,⟨fun r hr=>(List.not_mem_nil hr).elim,List.Pairwise.nil⟩,(fun i ⟨r,hr,_⟩=>(List.not_mem_nil hr).elim),(fun W _=>⟨Rs.nil _ 4,fun o ho=>(List.not_mem_nil ho).elim⟩),by rw [aS_ hq0 her (by omega)];rfl⟩
        ·
         have hE0:rnE l (vaN l (p+1) 0 4000).2.1 0 ((vaN l (p+1) 0 4000).1:Int)=0:=by omega
         have hR:(rdO l p x ((vaN l 0 0 4000).1:Int))=⟨(⟨false,0,0,⟨B7,(rnL l (vaN l (p+1) 0 4000).2.1 0 ((vaN l (p+1) 0 4000).1:Int)).length,d7,(rnL l (vaN l (p+1) 0 4000).2.1 0 ((vaN l (p+1) 0 4000).1:Int))⟩⟩:OP).v,rnP l (vaN l (p+1) 0 4000).2.1 0 ((vaN l (p+1) 0 4000).1:Int),0,0⟩:=by rw [dR_ (by omega) (by omega),hk_ hq1 (by omega),hE0];rfl
         have hsz:szV (⟨false,0,0,⟨B7,(rnL l (vaN l (p+1) 0 4000).2.1 0 ((vaN l (p+1) 0 4000).1:Int)).length,d7,(rnL l (vaN l (p+1) 0 4000).2.1 0 ((vaN l (p+1) 0 4000).1:Int))⟩⟩:OP).v=((vaN l (p+1) 0 4000).1:Int):=by by_cases h4:(vaN l (p+1) 0 4000).1≤l.length - (vaN l (p+1) 0 4000).2.1;(obtain ⟨e1,e2,e3⟩:=rn_ok h4;show (((rnL l (vaN l (p+1) 0 4000).2.1 0 ((vaN l (p+1) 0 4000).1:Int)).length:Nat):Int)=_;rw [e1,List.length_take,List.length_drop];omega);(obtain ⟨e1,e2,e3⟩:=rn_no h4;omega)
         obtain ⟨hro1,hro2,hro3,hro4⟩:=rdO_ok (base:=((vaN l 0 0 4000).1:Int)) hx (by rw [hR]);refine j_ (hK42 _ _ (a_ fun K47 hK47=>Rm Z Z (Lm Z Z (L_y (v_ Z Z (z_ (by omega))) Z (Lan Z Z (hK47 _ _ (a_ fun K48 hK48=>a_ fun K49 hK49=>Rm Z Z ?_)))))));refine L_y (d_ 1 Tryz.underlying137 Z sz3 Z Z Z) Z (L_y (p_ Tryz.underlying3 Z Z (((S33.blk 2 Z).cell _).trans (by rfl))) Z ?_);refine L_y (aa_ Z Z) Z (f_ (hK49 _ _ ?_));refine m_ Z (fun h101=>?_) (fun h101=>?_)
         ·
          refine a_ fun K50 hK50=>b_ (L_y (y_ Z (show _=some (scA 0 0 none 0 0) by kernel_rfl)) Z (L_o (B_ S33 0 Z Z Z bU_ Z (bq_ _ _ _ _ _) fun w36 S36=>Lan Z Z (hK50 _ _ (l_ (ur (X_ Z Z Z (S36.blk 0 Z) Tryz.underlying137 Z (by exact bU_) ?_)))))));have her:=hrd.long hx (by rw [hR]) (by rw [hR];show left < szV (⟨false,0,0,⟨B7,(rnL l (vaN l (p+1) 0 4000).2.1 0 ((vaN l (p+1) 0 4000).1:Int)).length,d7,(rnL l (vaN l (p+1) 0 4000).2.1 0 ((vaN l (p+1) 0 4000).1:Int))⟩⟩:OP).v;rw [hsz];omega);exact ⟨_,rfl,S36.like0,none,0,[],sepL [],by rw [aS_ hq0 her (by decide)];rfl,⟨fun r hr=>(List.not_mem_nil hr).elim,List.Pairwise.nil⟩,(fun i ⟨r,hr,_⟩=>(List.not_mem_nil hr).elim),(fun W _=>⟨Rs.nil _ 4,fun o ho=>(List.not_mem_nil ho).elim⟩),by rw [aS_ hq0 her (by decide)];rfl⟩
         ·
          refine j_ (hK48 _ _ (b_ (L_y (d_ 2 Tryz.underlying137 Z gA_ Z Z Z) Z (L_y (p_ Tryz.underlying135 Z Z (((S33.blk 2 Z).cell _).trans (by rfl))) Z ?_))));refine L_y (W_ Tryz.underlying190 Z dz_ Z (S33.blk 5 Z) (show _=opf (⟨false,0,0,⟨B7,(rnL l (vaN l (p+1) 0 4000).2.1 0 ((vaN l (p+1) 0 4000).1:Int)).length,d7,(rnL l (vaN l (p+1) 0 4000).2.1 0 ((vaN l (p+1) 0 4000).1:Int))⟩⟩:OP)∧_ from ⟨rfl,rfl⟩)) Z (L_o (aY_ (opf (⟨false,0,0,⟨B7,(rnL l (vaN l (p+1) 0 4000).2.1 0 ((vaN l (p+1) 0 4000).1:Int)).length,d7,(rnL l (vaN l (p+1) 0 4000).2.1 0 ((vaN l (p+1) 0 4000).1:Int))⟩⟩:OP)) te135 zz190 S33 Z Z Z Z Z Z Z Z fun b37 w37 S37=>L_o (aL_ te135 S37 3 Z Z Z (by first | exact S37.row 3 Z | exact S37.fix 4 Z | exact S37.row 6 Z | exact S37.row 7 Z) (bC_ _) Z (by omega) (by omega) fun A38 c38 w38 S38=>?_)));have S38d:=S38.drop (rs':=[_,_,_,_,_,_,_]) (.cons_cons _ (.cons_cons _ (.cons_cons _ (.cons_cons _ (.cons_cons _ (.cons_cons _ (.cons_cons _ (.cons _ (.refl _)))))))));refine L_y (d_ 2 Tryz.underlying137 Z gA_ Z Z Z) Z (L_o (Y_ S38d 2 Z Z Z Z gA_ (by show 2 < 3;decide) fun w39 S39=>?_));refine f_ ?_;have S91:=S39.blkc 2 Z ((hg_ ((vaN l 0 0 4000).1:Int) ((vaN l (vaN l 0 0 4000).2.1 (vaN l 0 0 4000).2.2 4000).1:Int) A1 ops.length c1 A38 (ops.length+1) c38).trans (show _=scA ((vaN l 0 0 4000).1:Int) ((vaN l (vaN l 0 0 4000).2.1 (vaN l 0 0 4000).2.2 4000).1:Int) A38 (ops++[(⟨false,0,0,⟨B7,(rnL l (vaN l (p+1) 0 4000).2.1 0 ((vaN l (p+1) 0 4000).1:Int)).length,d7,(rnL l (vaN l (p+1) 0 4000).2.1 0 ((vaN l (p+1) 0 4000).1:Int))⟩⟩:OP)]).length c38 from by rw [List.length_append];rfl));have S92:=S91.rowc 3 Z (n':=(ops++[(⟨false,0,0,⟨B7,(rnL l (vaN l (p+1) 0 4000).2.1 0 ((vaN l (p+1) 0 4000).1:Int)).length,d7,(rnL l (vaN l (p+1) 0 4000).2.1 0 ((vaN l (p+1) 0 4000).1:Int))⟩⟩:OP)]).length) (xs':=(ops++[(⟨false,0,0,⟨B7,(rnL l (vaN l (p+1) 0 4000).2.1 0 ((vaN l (p+1) 0 4000).1:Int)).length,d7,(rnL l (vaN l (p+1) 0 4000).2.1 0 ((vaN l (p+1) 0 4000).1:Int))⟩⟩:OP)]).flatMap opf) (by rw [List.length_append];rfl) (by rw [List.flatMap_append];simp);have S93:=(S92.still 6 Z).sel [0,1,2,3,4,6] (by decide);have S94:=famAdd (rs:=[_,_,_,_,fam (ps.map bK_)]) (ps:=ps) (p:=(⟨false,0,0,⟨B7,(rnL l (vaN l (p+1) 0 4000).2.1 0 ((vaN l (p+1) 0 4000).1:Int)).length,d7,(rnL l (vaN l (p+1) 0 4000).2.1 0 ((vaN l (p+1) 0 4000).1:Int))⟩⟩:OP).p) S93 4 Z;have hnx:=hrd.next hx (by rw [hR]) (by rw [hR];show ¬ left < szV (⟨false,0,0,⟨B7,(rnL l (vaN l (p+1) 0 4000).2.1 0 ((vaN l (p+1) 0 4000).1:Int)).length,d7,(rnL l (vaN l (p+1) 0 4000).2.1 0 ((vaN l (p+1) 0 4000).1:Int))⟩⟩:OP).v;rw [hsz];omega);rw [show szV (rdO l p x ((vaN l 0 0 4000).1:Int)).o=((vaN l (p+1) 0 4000).1:Int) from by rw [hR];exact hsz,show (rdO l p x ((vaN l 0 0 4000).1:Int)).o=(⟨false,0,0,⟨B7,(rnL l (vaN l (p+1) 0 4000).2.1 0 ((vaN l (p+1) 0 4000).1:Int)).length,d7,(rnL l (vaN l (p+1) 0 4000).2.1 0 ((vaN l (p+1) 0 4000).1:Int))⟩⟩:OP).v from by rw [hR]] at hnx
          rw [show rnP l (vaN l (p+1) 0 4000).2.1 0 ((vaN l (p+1) 0 4000).1:Int)=(rdO l p x ((vaN l 0 0 4000).1:Int)).p from by rw [hR],show rnE l (vaN l (p+1) 0 4000).2.1 0 ((vaN l (p+1) 0 4000).1:Int)=0 from hE0] at S94;refine ⟨(rdO l p x ((vaN l 0 0 4000).1:Int)).p,left - ((vaN l (p+1) 0 4000).1:Int),A38,c38,ops++[(⟨false,0,0,⟨B7,(rnL l (vaN l (p+1) 0 4000).2.1 0 ((vaN l (p+1) 0 4000).1:Int)).length,d7,(rnL l (vaN l (p+1) 0 4000).2.1 0 ((vaN l (p+1) 0 4000).1:Int))⟩⟩:OP)],ps++[(⟨false,0,0,⟨B7,(rnL l (vaN l (p+1) 0 4000).2.1 0 ((vaN l (p+1) 0 4000).1:Int)).length,d7,(rnL l (vaN l (p+1) 0 4000).2.1 0 ((vaN l (p+1) 0 4000).1:Int))⟩⟩:OP).p],by omega,⟨⟨by omega,by omega,by rw [List.length_append,List.length_singleton];omega,hin.add,by rw [List.map_append,List.map_singleton];exact hnx⟩,S94⟩,?_⟩;exact (Sub.cons Z (congrArg (Value.int _) (by omega)) (Sub.cons Z Z (Sub.cons Z Z (Sub.cons Z Z (Sub.cons Z Z (Sub.nil _))))))
   ·
    refine P_ (hK9 _ _ (a_ fun K51 hK51=>a_ fun K52 hK52=>Rm Z Z (L_y (d_ 1 Tryz.underlying137 Z sz3 Z Z Z) Z (L_y (p_ Tryz.underlying3 Z Z (((S10.blk 2 Z).cell _).trans (by rfl))) Z ?_))));refine L_y (H_ Z Z) Z (f_ (hK52 _ _ ?_));refine m_ Z (fun h112=>?_) (fun h112=>?_)
    ·
     refine a_ fun K53 hK53=>b_ (L_y (y_ Z (show _=some (scA 0 0 none 0 0) by kernel_rfl)) Z (L_o (B_ S10 0 Z Z Z bU_ Z (bq_ _ _ _ _ _) fun w40 S40=>Lan Z Z (hK53 _ _ (l_ (ur (X_ Z Z Z (S40.blk 0 Z) Tryz.underlying137 Z (by exact bU_) ?_)))))));have hst:=hrd.stop (by omega);rw [if_pos (by omega)] at hst;exact ⟨_,rfl,S40.like0,none,0,[],sepL [],by rw [aS_ hq0 hst (by decide)];rfl,⟨fun r hr=>(List.not_mem_nil hr).elim,List.Pairwise.nil⟩,(fun i ⟨r,hr,_⟩=>(List.not_mem_nil hr).elim),(fun W _=>⟨Rs.nil _ 4,fun o ho=>(List.not_mem_nil ho).elim⟩),by rw [aS_ hq0 hst (by decide)];rfl⟩
    ·
     refine j_ (hK51 _ _ (a_ fun K54 hK54=>b_ (L_y (W_ Tryz.underlying137 Z bU_ Z (S10.blk 2 Z) (show _=(scA ((vaN l 0 0 4000).1:Int) ((vaN l (vaN l 0 0 4000).2.1 (vaN l 0 0 4000).2.2 4000).1:Int) A1 ops.length c1).toList∧_ from ⟨rfl,rfl⟩)) Z (L_o (B_ S10 0 Z Z Z bU_ Z (bq_ _ _ _ _ _) fun w41 S41=>Lan Z Z (hK54 _ _ (l_ (ur (X_ Z Z Z (S41.blk 0 Z) Tryz.underlying137 Z (by exact bU_) ?_)))))))));have hst:=hrd.stop (by omega);rw [if_neg (by omega)] at hst;have S42:Zx.St w0 noM [row 190 4 A1 ops.length c1 (ops.flatMap opf),fam (ps.map bK_)] w41:=S41.sel [3,4] (by decide);exact ⟨_,rfl,S41.like0,A1,c1,ops,sepL [row 190 4 A1 ops.length c1 (ops.flatMap opf),fam (ps.map bK_)],by rw [hj_ hq0 hst],S42.getAll,(fun i hi=>by obtain ⟨r,hr,hd⟩:=hi;have h:=(S42.res r hr).2 i hd;exact ⟨h.2.resolve_right (fun q=>q),h.1⟩),(fun W h=>⟨bF_ (h.1 (row 190 4 A1 ops.length c1 (ops.flatMap opf)) (List.mem_cons_self ..)).1,okO_of hin (h.1 (fam (ps.map bK_)) (List.mem_cons_of_mem _ (List.mem_cons_self ..))).1⟩),by rw [hj_ hq0 hst]⟩
end Del
namespace Pak
open Go.RowKit Zk Zx
open Sha (N bO_ cO_ dS_ fz_ fy_)
open Go.Proofs.YtgaklngnfecdaaaGreat.Obj (ai_ bV_ aT_ Z_ aN_ be_ zB C_ aR_)
open Oct (vaN rwL rwP rwE rnL rnP rnE be vr tl N_)
open Del (scA opf OP OkO mkV bR_ dG_ aj_ bW_)
def jX_ (w0 w':World) (r:Int × List UInt8 × Int) (u:Value):Prop:=∃ q:Part,u=.tuple #[.int .i64 r.1,pv q,.int .i64 r.2.2]∧q.l=r.2.1∧dQ_ w0 w' q
theorem hi_ {w0 w':World} {r:Int × List UInt8 × Int} {e:Int} (h:r=(0,[],e)):jX_ w0 w' r (.tuple #[.int .i64 0,.slice none 0 0,.int .i64 e]):=by
  subst h
  exact ⟨p0,rfl,rfl,fresh0 _ _⟩
theorem dQ_.up {w0 w w1 w2:World} {q:Part} (l:Like w0 w) (h:dQ_ w w1 q) (l2:Like w1 w2):dQ_ w0 w2 q:=⟨Rs.like h.1 l2,fun ad h1 h2=>Nat.le_trans l.size (h.2 ad h1 h2)⟩
theorem over_up (g:Nat) (h:g+1≤8):IntKind.i64.wrap ((8:Int) - ((g+1:Nat):Int)+1)=8 - (g:Int):=by
  rw [show (8:Int) - ((g+1:Nat):Int)+1=8 - (g:Int) by omega]
  exact z_ (by omega)
theorem rread1 (B:Option Addr) (m d:Nat) (b:List UInt8) (at_:Int) (f:Nat) (w0:World) (hb:Rs w0 1 B m d (bL b)) (hm5:m≤100000) (hat : -9223372036854775808≤at_∧at_≤9223372036854775807) (hf8:f≤8) (ih:∀ g,f=g+1→∀ (a:Int) (w:World),Rs w 1 B m d (bL b)→(-9223372036854775808≤a∧a≤9223372036854775807)→Calls Tryz.prog 33 #[.slice B m d,.int .i64 a,.int .i64 (8 - (g:Int))] w fun e w'=>∃ u,e=.returned u∧Like w w'∧jX_ w w' (rdF b g a) u) :
    Calls Tryz.prog 33 #[.slice B m d,.int .i64 at_,.int .i64 (8 - (f:Int))] w0 fun e w'=>∃ u,e=.returned u∧Like w0 w'∧jX_ w0 w' (rdF b f at_) u:=by
 refine w_ (env:=[(0,.slice B m d),(1,.int .i64 at_),(2,.int .i64 (8 - (f:Int)))]) [.slice B m d,.int .i64 at_,.int .i64 (8 - (f:Int))] Tryz.func33 Z Tryz.ntmps33 Z Z ?_;have hl:=hb.lenb;have hcap:=hb.cap;have hmax:=hb.max;have S0:=St.start w0 noM;refine a_ fun K1 hK1=>b_ (La Z Z (La Z Z (Lan Z Z (hK1 _ _ (a_ fun K2 hK2=>Rm Z Z (Lm Z Z (Lm Z Z (L_o (o_ Tryz.func68 Z Z (ropen B m d b at_ f w0 (S0.rd hb) hm5 hat hf8) Z Z ?_)))))))));rintro e1 w1 ⟨v1,rfl,l1,hO1⟩;refine ⟨_,rfl,?_⟩;have S1:=S0.like l1;obtain ⟨q1,rfl,hq1,hf1⟩:=hO1;have S2:=fu_ S0 l1 hf1;have hn1:=NP.new S0 hf1;refine Lm Z Z (L_y (n_ Z Z) Z (L_y (n_ Z Z) Z (L_o (E_ zz132 S2 Z fun b3 w3 hb3 S3=>L_o (B_ S3 1 Z Z Z ca_ (by rfl) (ax_ _ _) fun w4 S4=>?_)))));refine Lan Z Z (hK2 _ _ (a_ fun K3 hK3=>a_ fun K4 hK4=>Rm Z Z (L_y (V_ Z Z) Z (f_ (hK4 _ _ ?_)))));refine m_ Z (fun h26=>?_) (fun h26=>?_)
 ·
  refine a_ fun K5 hK5=>Rm Z Z (La Z Z (La Z Z (Lan Z Z (hK5 _ _ (l_ (ur (cn_ Z Z Z Z (⟨_,rfl,S4.like0,hi_ ?_⟩))))))));exact rdF_e Z h26
 ·
  obtain ⟨hok,hk12,hkl,_⟩:=gM_ (b:=b) (at_:=at_) (deep:=(f == 0)) (Classical.not_not.1 h26);have hk1:=hok.k1;have hk2:=hok.k5;have hll:=hok.len;refine j_ (hK3 _ _ (a_ fun K6 hK6=>a_ fun K7 hK7=>b_ (L_y (d_ 0 Tryz.underlying132 Z sz3 Z Z Z) Z (L_y (p_ Tryz.underlying3 Z Z (((S4.blk 1 Z).cell _).trans (by rfl))) Z ?_))));refine L_y (H_ Z Z) Z (f_ (hK7 _ _ ?_));refine m_ Z (fun h30=>?_) (fun h30=>?_)
  ·
   refine a_ fun K8 hK8=>ad_ [(0,true),(1,true),(2,true),(3,true),(4,true),(5,true),(6,true)] aJ_ (by kernel_rfl) fun w5 l5=>have S5:=S4.like l5;t_ Z (d_ 0 Tryz.underlying132 Z sz3 Z Z Z) Z (t_ Z (p_ Tryz.underlying3 Z Z (((S5.blk 1 Z).cell _).trans (by rfl))) Z ?_);refine t_ Z (d_ 4 Tryz.underlying132 Z bi_ Z Z Z) Z (t_ Z (p_ Tryz.underlying22 Z Z (((S5.blk 1 Z).cell _).trans (by rfl))) Z ?_);refine t_ Z (I_ Z) Z (t_ Z (I_ Z) Z (t_ Z (I_ Z) Z (av_ (hK8 _ _ (l_ (ur (cn_ Z Z Z Z ?_)))))));have hr9:rdF b f at_=((opV b at_ (f == 0)).2.kind,(opV b at_ (f == 0)).2.load,0):=by rw [gJ_ (Classical.not_not.1 h26)];unfold rest;rw [if_neg (by omega)]
   rw [hr9];exact ⟨_,rfl,S5.like0,q1,rfl,hq1,⟨hn1.ok S5 (S5.get 0 Z),(fun ad h1 h2=>Nat.le_trans S0.size (hf1.2 ad h1 h2))⟩⟩
  ·
   have hk5:(opV b at_ (f == 0)).2.kind=5:=by omega
   obtain ⟨hb1,hb2,hb3⟩:=hok.base hk5;obtain ⟨g,rfl⟩:∃ g,f=g+1:=⟨f - 1,by have h9:f≠0:=(fun e=>by subst e;cases hb3);omega⟩;refine j_ (hK6 _ _ (a_ fun K9 hK9=>Rm Z Z (L_y (d_ 1 Tryz.underlying132 Z sz3 Z Z Z) Z (L_y (p_ Tryz.underlying3 Z Z (((S4.blk 1 Z).cell _).trans (by rfl))) Z ?_))));refine Lm Z Z (L_y (v_ Z Z (over_up g hf8)) Z (L_o (o_ Tryz.func33 Z Z (ih g Z (opV b at_ (g+1 == 0)).2.base w4 (S4.rd hb) (by omega)) Z Z ?_)));rintro e6 w6 ⟨v6,rfl,l6,hR6⟩;refine ⟨_,rfl,?_⟩;have S6:=S4.like l6;obtain ⟨q2,rfl,hq2,hf2⟩:=hR6;have S7:=fu_ S4 l6 hf2;have hn2:=NP.new S4 hf2;have hrr:rdF b (g+1) at_=eG_ (opV b at_ (g+1 == 0)).2.load (rdF b g (opV b at_ (g+1 == 0)).2.base):=by rw [gJ_ (Classical.not_not.1 h26)];unfold rest;rw [if_pos hk5];rfl
   refine Lm Z Z (L_y (n_ Z Z) Z (L_y (n_ Z Z) Z (L_y (n_ Z Z) Z (La Z Z (La Z Z (Lan Z Z (hK9 _ _ (a_ fun K10 hK10=>a_ fun K11 hK11=>Rm Z Z (L_y (V_ Z Z) Z ?_)))))))));refine f_ (hK11 _ _ ?_);refine m_ Z (fun h46=>?_) (fun h46=>?_)
   ·
    refine a_ fun K12 hK12=>Rm Z Z (La Z Z (La Z Z (Lan Z Z (hK12 _ _ (l_ (ur (cn_ Z Z Z Z (⟨_,rfl,S7.like0,hi_ ?_⟩))))))));rw [hrr];exact aplO_1 Z h46
   ·
    refine j_ (hK10 _ _ (a_ fun K13 hK13=>b_ (L_y (d_ 4 Tryz.underlying132 Z bi_ Z Z Z) Z (L_y (p_ Tryz.underlying22 Z Z (((S7.blk 1 Z).cell _).trans (by rfl))) Z ?_))));refine L_o (o_ Tryz.func69 Z Z (Del.rreadH _ _ _ (opV b at_ (g+1 == 0)).2.load w6 (by rw [← hq1];exact hn1.ok S7 (S7.get 0 Z)) (by rw [← hq1] at hll;have:=(hn1.ok S7 (S7.get 0 Z)).lenb;omega)) Z Z ?_);rintro e8 w8 ⟨v8,rfl,l8,A8,c8,ops8,R8,rfl,hh8,dd8,hr8,hv8⟩;refine ⟨_,rfl,(have S8:=S7.new l8 _ hh8 dd8;Lm Z Z (L_y (n_ Z Z) Z (L_y (n_ Z Z) Z (L_o (E_ zz137 S8 Z fun b9 w9 hb9 S9=>L_o (B_ S9 4 Z Z Z bU_ (by rfl) (by intro u hu;simp [scA] at hu;rcases hu with rfl | rfl | rfl <;> rfl) fun w10 S10=>?_))))))⟩;refine Lan Z Z (hK13 _ _ (a_ fun K14 hK14=>a_ fun K15 hK15=>Rm Z Z (L_y (V_ Z Z) Z (f_ (hK15 _ _ ?_)))));refine m_ Z (fun h55=>?_) (fun h55=>?_)
    ·
     refine a_ fun K16 hK16=>Rm Z Z (La Z Z (La Z Z (Lan Z Z (hK16 _ _ (l_ (ur (cn_ Z Z Z Z (⟨_,rfl,S10.like0,hi_ ?_⟩))))))));rw [hrr];exact aplO_2 (Classical.not_not.1 h46) h55
    ·
     refine j_ (hK14 _ _ (a_ fun K17 hK17=>Rm Z Z (L_y (W_ Tryz.underlying137 Z bU_ Z (S10.blk 4 Z) (show _=(scA _ _ _ _ _).toList∧_ from ⟨rfl,rfl⟩)) Z (L_o (o_ Tryz.func70 Z Z (Del.rapply q2.A q2.n q2.c q2.l _ _ _ ops8 _ _ w10 (hn2.ok S10 (S10.get 2 Z)) (hr8 _ (S10.get 3 Z)).1 (hr8 _ (S10.get 3 Z)).2) Z Z ?_)))));rintro e11 w11 ⟨v11,rfl,l11,A11,c11,rfl,O11⟩;refine ⟨_,rfl,?_⟩;have S11:=S10.like l11;rw [hv8,hq2] at O11;rw [hv8,hq2];have S12:=fu_ S10 l11 (dQ_.own O11);have hfr:dQ_ w0 w11 ⟨A11,_,c11,_⟩:=dQ_.up S10.like0 (dQ_.own O11) (Like.refl _);refine Lm Z Z (L_y (n_ Z Z) Z (L_y (n_ Z Z) Z (La Z Z (Lan Z Z (hK17 _ _ (a_ fun K18 hK18=>a_ fun K19 hK19=>Rm Z Z (L_y (V_ Z Z) Z (f_ (hK19 _ _ ?_)))))))));refine m_ Z (fun h64=>?_) (fun h64=>?_)
     ·
      refine a_ fun K20 hK20=>Rm Z Z (La Z Z (La Z Z (Lan Z Z (hK20 _ _ (l_ (ur (cn_ Z Z Z Z (⟨_,rfl,S12.like0,hi_ ?_⟩))))))));rw [hrr];exact aplO_3 (Classical.not_not.1 h46) (Classical.not_not.1 h55) h64
     ·
      refine j_ (hK18 _ _ (a_ fun K21 hK21=>Rm Z Z (Lm Z Z (La Z Z (La Z Z (Lan Z Z (hK21 _ _ (l_ (ur (cn_ Z Z Z Z ?_))))))))));rw [hrr,aplO_4 (Classical.not_not.1 h46) (Classical.not_not.1 h55) (Classical.not_not.1 h64)];exact ⟨_,rfl,S12.like0,_,rfl,rfl,hfr⟩
theorem rreadP (B:Option Addr) (m d:Nat) (b:List UInt8) (hm5:m≤100000):∀ (f:Nat),f≤8→∀ (a:Int) (w:World),Rs w 1 B m d (bL b)→(-9223372036854775808≤a∧a≤9223372036854775807)→Calls Tryz.prog 33 #[.slice B m d,.int .i64 a,.int .i64 (8 - (f:Int))] w fun e w'=>∃ u,e=.returned u∧Like w w'∧jX_ w w' (rdF b f a) u
  | 0,h,a,w,hb,ha=>rread1 B m d b a 0 w hb hm5 ha h (fun g e=>by cases e)
  | f+1,h,a,w,hb,ha=>rread1 B m d b a (f+1) w hb hm5 ha h (fun g e a w hb ha=>by injection e with e;subst e;exact rreadP B m d b hm5 f (by omega) a w hb ha)
end Pak
namespace Pak
open Go.RowKit Zk Zx
open Sha (N bO_ cO_ dS_ fz_ fy_)
open Go.Proofs.YtgaklngnfecdaaaGreat.Obj (ai_ bV_ aT_ Z_ aN_ be_ zB C_ aR_)
open Oct (vaN rwL rwP rwE rnL rnP rnE be vr tl N_)
open Del (scA opf OP OkO mkV bR_ dG_ aj_ bW_)
def SmallI (its:List It):Prop:=its.length≤24∧∀ x ∈ its,x.p.n≤300
theorem write_ {A:Option Addr} {n c:Nat} {its:List It} {chain:Int} {w0:World} (hits:Rs w0 2 A n c (its.flatMap itf)) (hok:OkI w0 its) (hs:SmallI its) :
    Calls Tryz.prog 28 #[.slice A n c,.int .i64 chain] w0 fun e w'=>∃ u,e=.returned u∧WriteV w0 w' chain (its.map It.v) u:=by
  by_cases h:cB_ (its.map It.v)=0
  · exact write1 A n c its chain w0 hits hok hs.2 hs.1 h
  · exact write0 A n c its chain w0 hits hok hs.2 hs.1 h
def hiB:List UInt8:=[104,105]
def hiI (p:Part):It:=⟨1,p⟩
theorem hi_ok:ai_ 1 hiB=0:=by unfold ai_ hiB;rfl
theorem hi_name:cB_ [(1,hiB)]=0:=nameE_0 (by unfold nmE;rw [if_neg (fun q=>q hi_ok)];rfl) (by simp [gQ_])
theorem hi_wr:wrE 2 [(1,hiB)]=0:=by unfold wrE;rw [if_neg (by omega)];exact hi_name
theorem fo_:Written 2 [(1,hiB)]:=written (by omega) (by simp) (fun x hx=>by obtain rfl:=List.mem_singleton.1 hx;decide) (fun x hx=>by obtain rfl:=List.mem_singleton.1 hx;exact hi_ok)
theorem hi_os:∃ o,(ct_ 2 [(1,hiB)]).os[0]?=some o∧o.at_=12:=by
  have h1:=fo_.cnt
  obtain ⟨o,ho⟩:∃ o,(ct_ 2 [(1,hiB)]).os[0]?=some o:=⟨_,List.getElem?_eq_getElem (by rw [h1];simp)⟩
  refine ⟨o,ho,?_⟩
  have h2:(ct_ 2 [(1,hiB)]).os[0]?.elim (ct_ 2 [(1,hiB)]).bs.length Ob.at_=12:=first_at
  rwa [ho] at h2
theorem hi_read:readP (dM_ 2 [(1,hiB)]) 12=(1,hiB,0):=by
  obtain ⟨o,ho,h12⟩:=hi_os
  have h:=fo_.read ho
  rw [h12] at h
  have hi:=fo_.item ho
  have h2:(1,hiB)=(o.kind,o.l):=Option.some.inj hi
  have e1:o.kind=1:=(congrArg Prod.fst h2).symm
  have e2:o.l=hiB:=(congrArg Prod.snd h2).symm
  rw [e1,e2] at h
  exact h
theorem hi_len:(dM_ 2 [(1,hiB)]).length≤100000:=by
  have:=fo_.hi
  unfold dM_
  rw [List.length_append,Sha.ak_]
  omega
theorem write_yes {w0 w':World} {chain:Int} {l:List IV} {u:Value} (h:WriteV w0 w' chain l u) (he:wrE chain l=0):∃ A c A2 c2,u=.tuple #[.slice A (dM_ chain l).length c,.slice A2 l.length c2,.int .i64 0]∧Zx.St w0 noM [row 5 1 A (dM_ chain l).length c (bL (dM_ chain l)),row 67 34 A2 l.length c2 ((ct_ chain l).os.flatMap plO)] w':=by
  rcases h with ⟨h,_⟩ | ⟨_,h⟩
  · exact absurd he h
  · exact h
theorem hi_str (l:List UInt8) (h:l=hiB):decide ((⟨l.toArray⟩:ByteArray)=⟨#[104,105]⟩)=true:=by subst h;rfl
theorem works  (w0:World)  :
    Calls Tryz.prog 27 #[] w0 fun e w'=>∃ u,e=.returned u∧Like w0 w'∧u=.bool true:=by
 refine w_ (env:=[]) [] Tryz.func27 Z Tryz.ntmps27 Z Z ?_;have S0:=St.start w0 noM;refine a_ fun K1 hK1=>?_;obtain ⟨o,ho,h12⟩:=hi_os;refine b_ (Lan Z Z (hK1 _ _ (a_ fun K2 hK2=>b_ (L_o (aY_ [_,_] bA_ zz5 S0 Z Z Z Z Z Z Z Z fun b1 w1 S1=>L_o (o_bconst S1 0 Z Tryz.underlying22 Tryz.underlying5 Z (by omega) Z fun w2 S2=>L_y (y_ Z (show _=some #[.int .i64 1,.slice (some ⟨b1,0,none⟩) 2 2] by kernel_rfl)) Z (L_o (aY_ (itf (hiI ⟨some ⟨b1,0,none⟩,2,2,hiB⟩)) te48 zz65 S2 Z Z Z Z Z Z Z Z fun b3 w3 S3=>L_o (o_ Tryz.func28 Z Z (write_ (its:=[hiI ⟨some ⟨b1,0,none⟩,2,2,hiB⟩]) (S3.row 1 Z) (fun x hx=>by obtain rfl:=List.mem_singleton.1 hx;exact S3.fix 0 Z) ⟨by simp,fun x hx=>by obtain rfl:=List.mem_singleton.1 hx;show 2≤300;omega⟩) Z Z ?_)))))))));rintro e4 w4 ⟨v4,rfl,hW4⟩;refine ⟨_,rfl,?_⟩;have S4:=S3;obtain ⟨Ap,cp,Aq,cq,rfl,T4⟩:=write_yes hW4 hi_wr;have S5:=S3.adoptS T4;refine Lm Z Z (L_y (n_ Z Z) Z (L_y (n_ Z Z) Z (L_y (n_ Z Z) Z (La Z Z (La Z Z (Lan Z Z (hK2 _ _ (a_ fun K3 hK3=>a_ fun K4 hK4=>Rm Z Z (L_y (V_ Z Z) Z ?_)))))))));refine Lm Z Z ?_;refine A_ 18 Z (fun h18=>?_) (fun h18=>?_)
 ·
  exact absurd Z h18
 ·
  refine g_ Z Z (Lm Z Z (g_ Z Z (L_y (J_ Tryz.underlying50 Z) Z (g_ Z Z (L_y (V_ Z Z) Z (Lp Z Z Z (Lm Z Z ?_)))))));refine A_ 23 Z (fun h23=>?_) (fun h23=>?_)
  ·
   exact absurd Z h23
  ·
   refine g_ Z Z (Lm Z Z (g_ Z Z (L_y (ab_ Tryz.underlying50 sz67 Z Z (S5.row 3 Z) inferInstance (by omega)) Z (g_ Z Z (L_y (bI_ 32 Tryz.underlying67 Z sz3 Z Z (S5.row 3 Z) (by omega) Z) Z (g_ Z Z (L_y (eJ_ Tryz.underlying3 Z Z (S5.row 3 Z) (by omega) ((er_ plO 34 fj_ _ 0 o ho 32 (by omega)).trans ((plOl32 o).trans (show _=some (Value.int .i64 12) by rw [h12];rfl)))) Z ?_)))))));refine g_ Z Z (L_y (V_ Z Z) Z (Lp Z Z Z (f_ (hK4 _ _ ?_))));refine m_ Z (fun h29=>?_) (fun h29=>?_)
   ·
    exact absurd Z h29
   ·
    refine j_ (hK3 _ _ (a_ fun K5 hK5=>Rm Z Z (L_o (o_ Tryz.func32 Z Z (read_ _ _ _ (dM_ 2 [(1,hiB)]) 12 w4 (S5.row 2 Z) hi_len (by omega)) Z Z ?_))));rintro e8 w8 ⟨v8,rfl,l8,hW8⟩;refine ⟨_,rfl,?_⟩;have S8:=S5.like l8;rw [hi_read] at hW8;obtain ⟨A8,c8,rfl,O8⟩:=hW8;have S9:=S5.adopt l8 O8;refine Lm Z Z (L_y (n_ Z Z) Z (L_y (n_ Z Z) Z (L_y (n_ Z Z) Z (La Z Z (La Z Z (Lan Z Z (hK5 _ _ (a_ fun K6 hK6=>Rm Z Z (L_y (ah_ Z Z) Z (Lm Z Z ?_))))))))));refine A_ 38 Z (fun h38=>?_) (fun h38=>?_)
    ·
     refine g_ Z Z (Lm Z Z (g_ Z Z (L_y (ah_ Z Z) Z (Lp Z Z Z (Lm Z Z ?_)))));refine A_ 42 Z (fun h42=>?_) (fun h42=>?_)
     ·
      refine g_ Z Z (Lm Z Z (g_ Z Z (L_y (bX_ Tryz.underlying22 Tryz.underlying5 Tryz.underlying9 Z (by first | exact S9.fix 0 Z | exact S9.row 1 Z | exact S9.row 4 Z)) Z ?_)));refine g_ Z Z (L_y (cZ_ Z Z) Z (Lp Z Z Z (Lan Z Z (hK6 _ _ (l_ (ur (G_ Z Z ?_)))))));exact ⟨_,rfl,S9.like0,congrArg Value.bool (hi_str _ Z)⟩
     ·
      exact absurd Z h42
    ·
     exact absurd Z h38
end Pak
namespace Pak
open Go.RowKit Zk Zx
open Sha (N bO_ cO_ dS_ fz_ fy_)
open Go.Proofs.YtgaklngnfecdaaaGreat.Obj (ai_ bV_ aT_ Z_ aN_ be_ zB C_ aR_)
open Oct (vaN rwL rwP rwE rnL rnP rnE be vr tl N_)
open Del (scA opf OP OkO mkV bR_ dG_ aj_ bW_)
theorem rread0 (B:Option Addr) (m d:Nat) (b:List UInt8) (hm5:m≤100000) (a:Int) (w:World) (hb:Rs w 1 B m d (bL b)) (ha : -9223372036854775808≤a∧a≤9223372036854775807) :
    Calls Tryz.prog 33 #[.slice B m d,.int .i64 a,.int .i64 0] w fun e w'=>∃ u,e=.returned u∧Like w w'∧jX_ w w' (readP b a) u:=by
  have h:=rreadP B m d b hm5 8 (Nat.le_refl _) a w hb ha
  exact h
end Pak
end Go.Proofs.YtgaklngnfecdaaaGreat
