import Derived.Test.YtgaklngnfecdaaaGreatMgPBack7
import Derived.Test.YtgaklngnfecdaaaGreatMgPBack8
import Derived.Test.YtgaklngnfecdaaaGreatMgPBack3
import Derived.Test.YtgaklngnfecdaaaGreatMgPBack2
set_option linter.unusedSimpArgs false
set_option linter.unusedVariables false
set_option maxRecDepth 100000
set_option maxHeartbeats 1000000
namespace Go.Proofs.YtgaklngnfecdaaaGreat.Del
open Go.RowKit Zk Zx
theorem pmakeH (A B:Option Addr) (n c m d:Nat) (a t:List UInt8) (w0:World) (ha:Rs w0 1 A n c (bL a)) (ht:Rs w0 1 B m d (bL t)) (hmx:n≤4000) (hmt:m≤4000) :
    Calls Tryz.prog 121 #[.slice A n c,.slice B m d] w0 fun e w'=>∃ u,e=.returned u∧Like w0 w'∧∃ A' c' ops,∃ R:Res,u=.tuple #[.agg (scA (n:Int) (m:Int) A' ops.length c'),.int .i64 0]∧R.holds w'∧(∀ i,R.dom i→w0.heap.size≤i∧i < w'.heap.size)∧(∀ W,R.holds W→Rs W 4 A' ops.length c' (ops.flatMap opf)∧OkO W ops)∧ops.map OP.v=mkV a t:=by
 refine v_ (env:=[(0,.slice A n c),(1,.slice B m d)]) [.slice A n c,.slice B m d] Tryz.func121 Z Tryz.ntmps121 Z Z ?_;have hn:=ha.lenb;have hcap:=ha.cap;have hmax:=ha.max;have hmn:=ht.lenb;have hcap2:=ht.cap;have hmax2:=ht.max;have S0:=St.start w0 noM;refine a_ fun K1 hK1=>b_ (L_o (o_box1 Z Z S0 Z fun b1 w1 hb1 S1=>L_o (F_ zz179 S1 Z fun b2 w2 hb2 S2=>Lan Z Z (hK1 _ _ (a_ fun K2 hK2=>a_ fun K3 hK3=>Rm Z Z (L_y (K_ Tryz.underlying22 Z) Z (L_y (af_ Z Z) Z (Lm Z Z ?_))))))));refine B_ 16 Z (fun h16=>?_) (fun h16=>?_)
 ·
  omega
 ·
  refine g_ Z Z (L_y (t_ Tryz.underlying22 Z Z (((S2.blk 0 Z).cell _).trans (by rfl))) Z ?_);refine g_ Z Z (L_y (K_ Tryz.underlying22 Z) Z (g_ Z Z (L_y (af_ Z Z) Z (Lp Z Z Z (d_ (hK3 _ _ ?_))))));refine n_ Z (fun h20=>?_) (fun h20=>?_)
  ·
   omega
  ·
   refine m_ (hK2 _ _ (a_ fun K4 hK4=>Rm Z Z (L_y (K_ Tryz.underlying22 Z) Z (L_y (t_ Tryz.underlying22 Z Z (((S2.blk 0 Z).cell _).trans (by rfl))) Z ?_))));refine L_y (K_ Tryz.underlying22 Z) Z (L_y (C_ Z (show _=some (scA (n:Int) (m:Int) none 0 0) by kernel_rfl)) Z ?_);refine L_o (F_ zz179 S2 Z fun b4 w4 hb4 S4=>L_o (D_ S4 2 Z Z Z sz179 Z (scA_one _ _ _ _ _) fun w5 S5=>d_ (hK4 _ _ (a_ fun K5 hK5=>Rm Z Z (L_o (o_ Tryz.func161 Z Z (places A n c a w5 (S5.rd ha) hmx) Z Z ?_))))));rintro e6 w6 ⟨v6,rfl,l6,bm,pes,rfl,hpi,T6⟩;refine ⟨_,rfl,(have S6:=S5.adoptS T6;Lan Z Z (hK5 _ _ (a_ fun K6 hK6=>b_ (L_o (F_ zz3 S6 Z fun b7 w7 hb7 S7=>L_o (ac_ S7 5 Z Z Z Z sz3 (by first | (simp;done) | (show 0 < 1;decide)) fun w8 S8=>?_))))))⟩;refine d_ (hK6 _ _ (a_ fun K7 hK7=>b_ (L_y (y_makeFunc Z Z) Z (Lan Z Z (hK7 _ _ (a_ fun K8 hK8=>a_ fun K9 hK9=>b_ (Lan Z Z (hK9 _ _ ?_))))))));refine r_ ?_;refine T_loop6 [(0,_),(3,_),(4,_),(6,_),(7,_),(8,_),(9,_)] (fun (k:Nat) (s0:Nat) (A1:Option Addr) (c1:Nat) (ops:List OP) (ps:List Part)=>[(10,.int .i64 (k:Int))]) (fun (k:Nat) (s0:Nat) (A1:Option Addr) (c1:Nat) (ops:List OP) (ps:List Part)=>m - k) (fun (k:Nat) (s0:Nat) (A1:Option Addr) (c1:Nat) (ops:List OP) (ps:List Part) (w:World)=>(k≤m∧s0≤k∧ops.length≤2*k∧InP ops ps∧MKI a t k s0 ops)∧St w0 noM ([blk b1 22 #[.slice B m d],blk b2 179 #[.int .i64 0,.int .i64 0,.slice none 0 0],mapB 6 bm (pes.map PE.ent),fam (pes.map PE.row),blk b7 3 #[.int .i64 (s0:Int)]]++[blk b4 179 (scA (n:Int) (m:Int) A1 ops.length c1),row 221 4 A1 ops.length c1 (ops.flatMap opf),fam (ps.map partR)]) w) 0 0 none 0 [] [] (Sc Z (Sub.nil _)) (Sub.cons Z Z (Sub.cons Z Z (Sub.cons Z Z (Sub.cons Z Z (Sub.cons Z Z (Sub.cons Z Z (Sub.cons Z Z (Sub.nil _)))))))) ?_ ?_
   ·
    have S9:=((S8.nilrow 221 4).fam0).sel [0,1,3,4,5,2,6,7] (by decide);exact ⟨⟨Nat.zero_le _,Nat.le_refl _,Nat.le_refl _,(fun o ho=>(List.not_mem_nil ho).elim),MKI.start a t⟩,S9⟩
   ·
    intro k s0 A1 c1 ops ps w9 hrel;obtain ⟨⟨hk,hsk,hol,hin,hmk⟩,S9⟩:=hrel;refine a_ fun K10 hK10=>a_ fun K11 hK11=>Rm Z Z (L_y (t_ Tryz.underlying22 Z Z (((S9.blk 0 Z).cell _).trans (by rfl))) Z ?_);refine L_y (K_ Tryz.underlying22 Z) Z (L_y (P_ Z Z) Z (d_ (hK11 _ _ ?_)));refine n_ Z (fun h33=>?_) (fun h33=>?_)
    ·
     have hbd:=bst_bd a (t.drop k);rw [List.length_drop] at hbd;refine m_ (hK10 _ _ (r_ (a_ fun K12 hK12=>Rm Z Z (Lm Z Z (L_y (t_ Tryz.underlying22 Z Z (((S9.blk 0 Z).cell _).trans (by rfl))) Z ?_)))));refine Lm Z Z (L_y (bE_ Tryz.underlying22 sz5 Z Z (Nt.mk (by omega):Nt _ (k)) (by omega)) Z (L_o (o_ Tryz.func163 Z Z (longest A (cutA B d k 1) n c (m - k) (d - k) bm a (t.drop k) pes w9 (S9.rd ha) (cut_tail (S9.rd ht) (by omega)) hmx (by omega) (S9.get 2 Z) (S9.lt 2 Z) (S9.get 3 Z) hpi) Z Z ?_)));rintro e10 w10 ⟨v10,rfl,l10,rfl⟩;refine ⟨_,rfl,(have S10:=S9.like l10;Lm Z Z (L_y (j_ Z Z) Z (L_y (j_ Z Z) Z (La Z Z (Lan Z Z (hK12 _ _ (a_ fun K13 hK13=>a_ fun K14 hK14=>Rm Z Z (L_y (ao_ Z Z) Z ?_))))))))⟩;refine d_ (hK14 _ _ ?_);refine n_ Z (fun h44=>?_) (fun h44=>?_)
     ·
      refine a_ fun K15 hK15=>Rm Z Z (L_y (w_ Z Z (E_ (by omega))) Z (Lan Z Z (hK15 _ _ (Q_ (⟨k+1,s0,A1,c1,ops,ps,by omega,⟨⟨by omega,by omega,by omega,hin,hmk.zero (by omega) (by omega)⟩,S10⟩,?_⟩)))));exact (Sc Z (Sub.cons Z Z (Sub.cons Z Z (Sub.cons Z Z (Sub.cons Z Z (Sub.cons Z Z (Sub.cons Z Z (Sub.cons Z Z (Sub.nil _)))))))))
     ·
      refine m_ (hK13 _ _ (a_ fun K16 hK16=>Rm Z Z (Lm Z Z (L_o (o_callv Z Tryz.func162 Z Z (flush k s0 b7 b4 b1 (n:Int) (m:Int) A1 B c1 m d ops ps t w10 (holdScr S10).1 (holdScr S10).2.1 (S10.blk 4 Z) ((holdScr S10).2.2.1 (blk b7 3 #[.int .i64 (s0:Int)]) (by simp) b7 Z) (S10.blk 0 Z) ((holdScr S10).2.2.1 (blk b1 22 #[.slice B m d]) (by simp) b1 Z) (S10.rd ht) (fun ad h1 h2=>(holdScr S10).2.2.2 ad.block (old_block ht h1 h2) (fun h=>h)) hmt (by omega) hin (by omega)) Z Z (fun d' hd=>by cases hd <;> rfl) ?_)))));rintro e11 w11 ⟨v11,rfl,A2,c2,ops2,ps2,hov,hol2,hin2,T11⟩;refine ⟨_,rfl,(have S11:=flushScr S10 T11;have hrc2:=(S11.row 6 Z).cap;have hrm2:=(S11.row 6 Z).max;d_ (hK16 _ _ (a_ fun K17 hK17=>b_ (L_y (f_ 2 Tryz.underlying179 Z sz177 Z Z Z) Z (L_y (t_ Tryz.underlying177 Z Z (((S11.blk 5 Z).cell _).trans (by rfl))) Z ?_)))))⟩;refine Lm Z Z (Lm Z Z (L_y (C_ Z (show _=some #[Value.bool true,Value.int .i64 ((bst a (t.drop k)).1:Int),Value.int .i64 ((bst a (t.drop k)).2:Int),Value.slice none 0 0] by kernel_rfl)) Z ?_));refine L_o (aW_ [_,_,_,_] te177 zz221 S11 Z Z Z Z Z Z Z Z fun b12 w12 S12=>L_o (aL_ te177 S12 6 Z Z Z (by first | exact S12.row 6 Z | exact S12.fix 7 Z | exact S12.row 8 Z) (fun u hu=>bB_ ⟨true,_,_,p0⟩ u hu) Z (by omega) (by omega) fun A13 c13 w13 S13=>?_));have S13d:=S13.drop (rs':=[_,_,_,_,_,_,_,_]) (.cons_cons _ (.cons_cons _ (.cons_cons _ (.cons_cons _ (.cons_cons _ (.cons_cons _ (.cons_cons _ (.cons_cons _ (.cons _ (.refl _))))))))));refine L_y (f_ 2 Tryz.underlying179 Z sz177 Z Z Z) Z (L_o (ac_ S13d 5 Z Z Z Z sz177 (by show 2 < 3;decide) fun w14 S14=>?_));refine d_ (hK17 _ _ (a_ fun K18 hK18=>Rm Z Z (Lm Z Z (L_y (w_ Z Z (E_ (by omega))) Z (Lan Z Z (hK18 _ _ (Rm Z Z (L_o (ac_ S14 4 Z Z Z Z sz3 (by first | (simp;done) | (show 0 < 1;decide)) fun w15 S15=>?_)))))))));refine d_ ?_;have S91:=S15.blkc 5 Z ((scA_set (n:Int) (m:Int) A2 ops2.length c2 A13 (ops2.length+1) c13).trans (show _=scA (n:Int) (m:Int) A13 (ops2++[(⟨true,((bst a (t.drop k)).1:Int),((bst a (t.drop k)).2:Int),p0⟩:OP)]).length c13 from by rw [List.length_append];rfl));have S92:=S91.blkc 4 Z (show _ = #[Value.int .i64 ((k+(bst a (t.drop k)).2:Nat):Int)] from by simp);have S93:=S92.rowc 6 Z (n':=(ops2++[(⟨true,((bst a (t.drop k)).1:Int),((bst a (t.drop k)).2:Int),p0⟩:OP)]).length) (xs':=(ops2++[(⟨true,((bst a (t.drop k)).1:Int),((bst a (t.drop k)).2:Int),p0⟩:OP)]).flatMap opf) (by rw [List.length_append];rfl) (by rw [List.flatMap_append];rfl);refine ⟨k+(bst a (t.drop k)).2,k+(bst a (t.drop k)).2,A13,c13,ops2++[(⟨true,((bst a (t.drop k)).1:Int),((bst a (t.drop k)).2:Int),p0⟩:OP)],ps2,by omega,⟨⟨by omega,Nat.le_refl _,by rw [List.length_append,List.length_singleton];omega,hin2.add0 Z,hmk.copy (by omega) (by omega) (by rw [List.map_append,hov];rfl)⟩,S93⟩,?_⟩
      exact (Sc Z (Sub.cons Z Z (Sub.cons Z Z (Sub.cons Z Z (Sub.cons Z Z (Sub.cons Z Z (Sub.cons Z Z (Sub.cons Z Z (Sub.nil _)))))))))
    ·
     refine Q_ (hK8 _ _ (a_ fun K19 hK19=>Rm Z Z (L_y (t_ Tryz.underlying22 Z Z (((S9.blk 0 Z).cell _).trans (by rfl))) Z ?_)));refine L_y (K_ Tryz.underlying22 Z) Z (L_o (o_callv Z Tryz.func162 Z Z (flush m s0 b7 b4 b1 (n:Int) (m:Int) A1 B c1 m d ops ps t w9 (holdScr S9).1 (holdScr S9).2.1 (S9.blk 4 Z) ((holdScr S9).2.2.1 (blk b7 3 #[.int .i64 (s0:Int)]) (by simp) b7 Z) (S9.blk 0 Z) ((holdScr S9).2.2.1 (blk b1 22 #[.slice B m d]) (by simp) b1 Z) (S9.rd ht) (fun ad h1 h2=>(holdScr S9).2.2.2 ad.block (old_block ht h1 h2) (fun h=>h)) hmt (by omega) hin (by omega)) Z Z (fun d' hd=>by cases hd <;> rfl) ?_));rintro e16 w16 ⟨v16,rfl,A2,c2,ops2,ps2,hov,hol2,hin2,T16⟩;refine ⟨_,rfl,(have S16:=flushScr S9 T16;d_ (hK19 _ _ (a_ fun K20 hK20=>b_ (L_y (X_ Tryz.underlying179 Z sz179 Z (S16.blk 5 Z) (show _=(scA (n:Int) (m:Int) A2 ops2.length c2).toList∧_ from ⟨rfl,rfl⟩)) Z (L_o (D_ S16 1 Z Z Z sz179 Z (scA_one _ _ _ _ _) fun w17 S17=>Lan Z Z (hK20 _ _ (l_ (ur (aa_ Z Z Z (S17.blk 1 Z) Tryz.underlying179 Z (by exact sz179) ?_))))))))))⟩;have S18:Zx.St w0 noM [row 221 4 A2 ops2.length c2 (ops2.flatMap opf),fam (ps2.map partR)] w17:=S17.sel [6,7] (by decide);exact ⟨_,rfl,S17.like0,A2,c2,ops2,sepL [row 221 4 A2 ops2.length c2 (ops2.flatMap opf),fam (ps2.map partR)],rfl,S18.getAll,(fun i hi=>by obtain ⟨r,hr,hd⟩:=hi;have h:=(S18.res r hr).2 i hd;exact ⟨h.2.resolve_right (fun q=>q),h.1⟩),(fun W h=>⟨bz_ (h.1 (row 221 4 A2 ops2.length c2 (ops2.flatMap opf)) (List.mem_cons_self ..)).1,okO_of hin2 (h.1 (fam (ps2.map partR)) (List.mem_cons_of_mem _ (List.mem_cons_self ..))).1⟩),hmk.done (by omega) (by rw [hmn];exact hov)⟩
end Go.Proofs.YtgaklngnfecdaaaGreat.Del
namespace Go.Proofs.YtgaklngnfecdaaaGreat.Pak
open Go.RowKit Zk Zx
open Sha (N xorN andN notN N_ge N_le)
open Go.Proofs.YtgaklngnfecdaaaGreat.Obj (ab_ objB aN_ U_ aM_ bl_ zB y_ aS_)
open Oct (vaN rwL rwP rwE rnL rnP rnE be vr tl M_)
open Del (scA opf OP OkO mkV encV putR ag_ aplR)
open Del (nL nL_app)
structure QOk (w0 w:World) (p:Part) (r:Int × List UInt8) (q:Part):Prop where
  ok:q.ok w
  val:q.l=r.2
  src:(r.1 = -1∧q=p)∨(0≤r.1∧∀ ad,0 < q.n→q.A=some ad→w0.heap.size≤ad.block)
theorem QOk.like {w0 w w':World} {p:Part} {r:Int × List UInt8} {q:Part} (h:QOk w0 w p r q) (l:Like w w'):QOk w0 w' p r q:=⟨Rs.like h.ok l,h.val,h.src⟩
theorem sh_next {os:List Ob} {x:List UInt8} {ks:List Nat} {i k:Nat} {r:Int × List UInt8} (hk:ks[i]?=some k):shF os x (ks.take (i+1)) r=stepS os x (shF os x (ks.take i) r) k:=by
  unfold shF
  rw [List.take_add_one,hk,List.foldl_append]
  rfl
def ShortV (w0 w':World) (p:Part) (r:Int × List UInt8) (u:Value):Prop:=∃ q:Part,u=.tuple #[.int .i64 r.1,pv q]∧QOk w0 w' p r q
theorem shortest (g:Nat) (x0 x2:Value) (A1:Option Addr) (n1 c1:Nat) (A3:Option Addr) (n3 c3:Nat) (its:List It) (os:List Ob) (kind chain:Int) (p:Part) (w0:World) (hg:Blk w0 g 113 #[x0,.slice A1 n1 c1,x2,.slice A3 n3 c3]) (hits:Rs w0 2 A1 n1 c1 (its.flatMap itf)) (hds:Rs w0 1 A3 n3 c3 (os.map depV)) (hio:Same its os) (hn9:n1≤100000) (hok:OkI w0 its) (hsm:∀ x ∈ its,x.p.n≤300) (hp:p.ok w0) (hp3:p.n≤300) :
    Calls Tryz.prog 90 #[.pointer (some ⟨g,0,none⟩),.agg #[.int .i64 kind,pv p],.int .i64 chain] w0 fun e w'=>∃ u,e=.returned u∧Like w0 w'∧ShortV w0 w' p (toldV os chain kind p.l) u:=by
 refine v_ (env:=[(0,.pointer (some ⟨g,0,none⟩)),(1,.agg #[.int .i64 kind,pv p]),(2,.int .i64 chain)]) [.pointer (some ⟨g,0,none⟩),.agg #[.int .i64 kind,pv p],.int .i64 chain] Tryz.func90 Z Tryz.ntmps90 Z Z ?_;have hn1:=its_len hits;have hsl:=hio.len;have hn3:=hds.len;rw [List.length_map] at hn3;have hcap1:=hits.cap;have hcap3:=hds.cap;have hmax1:=hits.max;have hmax3:=hds.max;have S0:=St.start w0 noM;refine a_ fun K1 hK1=>b_ (L_o (o_box Z S0 Z fun b1 w1 hb1 S1=>La Z Z (Lan Z Z (hK1 _ _ (a_ fun K2 hK2=>av_ [(0,true),(1,true),(2,true),(3,true)] hmix (by kernel_rfl) fun w2 l2=>have S2:=S1.like l2;u_ Z (f_ 1 Tryz.underlying65 Z sz22 Z Z Z) Z (u_ Z (t_ Tryz.underlying22 Z Z (((S2.blk 0 Z).cell _).trans (by rfl))) Z ?_))))));refine u_ Z (J_ Z) Z (u_ Z (J_ Z) Z (aV_ (hK2 _ _ (a_ fun K3 hK3=>a_ fun K4 hK4=>Rm Z Z (L_y (f_ 0 Tryz.underlying65 Z sz3 Z Z Z) Z (L_y (t_ Tryz.underlying3 Z Z (((S2.blk 0 Z).cell _).trans (by rfl))) Z ?_))))));refine Lm Z Z (L_o (o_ Tryz.func120 Z Z (candidates g x0 x2 A1 n1 c1 A3 n3 c3 its os kind chain w2 (S2.rdB hg) (S2.rd hits) (S2.rd hds) hio (by omega)) Z Z ?_));rintro e3 w3 ⟨v3,rfl,l3,A3,c3,rfl,O3⟩;refine ⟨_,rfl,(have S3:=S2.adopt l3 O3;have hc0:=S3.row 1 Z;have hlk0:Like w0 w3:=S3.like0;L_y (K_ Tryz.underlying111 Z) Z (Lm Z Z (d_ (hK4 _ _ (r_ ?_)))))⟩;refine T_loop3 [(0,_),(4,_),(22,_),(23,_)] (fun (i:Nat) (r:Int × List UInt8) (q:Part)=>[(24,.int .i64 (i:Int)),(8,.int .i64 r.1),(9,pv q)]) (fun (i:Nat) (r:Int × List UInt8) (q:Part)=>(aX_ os kind chain os.length 0).length - i) (fun (i:Nat) (r:Int × List UInt8) (q:Part) (w:World)=>(i≤(aX_ os kind chain os.length 0).length∧r=(shF os p.l ((aX_ os kind chain os.length 0).take i) (-1,p.l)))∧Like w0 w∧Rs w 1 A3 (aX_ os kind chain os.length 0).length c3 (nL (aX_ os kind chain os.length 0))∧QOk w0 w p r q∧Blk w b1 65 #[.int .i64 kind,pv p]) 0 (-1,p.l) p (Sc Z (Sc Z (Sc Z (Sub.nil _)))) (Sub.cons Z Z (Sub.cons Z Z (Sub.cons Z Z (Sub.cons Z Z (Sub.nil _))))) ?_ ?_
 ·
  exact ⟨⟨by omega,rfl⟩,hlk0,hc0,⟨S3.rd hp,rfl,.inl ⟨rfl,rfl⟩⟩,S3.blk 0 Z⟩
 ·
  intro i r q w4 hrel;obtain ⟨⟨hi,hr⟩,hlk,hc,hq,hb1⟩:=hrel;subst hr;have S4:=St.start w4 noM;have hsz1:=hlk.size;refine a_ fun K5 hK5=>b_ (L_y (P_ Z Z) Z (d_ (hK5 _ _ (a_ fun K6 hK6=>?_))));refine n_ Z (fun h25=>?_) (fun h25=>?_)
  ·
   obtain ⟨k,hk⟩:∃ k,(aX_ os kind chain os.length 0)[i]?=some k:=⟨_,List.getElem?_eq_getElem (by omega)⟩;obtain ⟨hko,o,ho,_,_⟩:=cand_lt _ _ k (List.mem_of_getElem? hk);obtain ⟨x,hx,hxk,hxl⟩:=hio.at ho;have hxo:x.p.ok w0:=hok.at hx;have hxs:=hsm x (List.mem_of_getElem? hx);have hcc:=hc.cap;have hcm:=hc.max;have hxb:=hxo.lenb;have hpb:=hp.lenb;have hql:=hq.ok.lenb;refine m_ (hK6 _ _ (a_ fun K7 hK7=>r_ (a_ fun K8 hK8=>b_ (L_y (S_ Tryz.underlying111 sz3 Z Z (S4.rd hc) inferInstance (by omega)) Z (L_y (y_ldr Tryz.underlying3 Z Z (S4.rd hc) (nL_get hk)) Z (Lan Z Z (hK8 _ _ (a_ fun K9 hK9=>T_drawnX (fun w=>Like w4 w) hmix (by kernel_rfl) (fun w l=>(S4.like l).like0) fun w5 l5=>?_))))))));have S5:=S4.like l5;refine DX_y 0 (by kernel_rfl) Z (p_ Z) Z (DX_y 1 (by kernel_rfl) Z (A_ Z) Z (DX_y 2 (by kernel_rfl) Z (f_ 1 Tryz.underlying113 Z sz48 Z Z Z) Z (DX_y 3 (by kernel_rfl) Z (y_of fun w hw=>t_ Tryz.underlying48 Z Z (((hg.below (hlk.trans hw) hg.lt).cell _).trans (by rfl))) Z ?_)));refine DX_y 4 (by kernel_rfl) Z (p_ Z) Z (DX_y 5 (by kernel_rfl) Z (S_ Tryz.underlying48 sz65 Z Z (hits.like (hlk.trans S5.like0)) inferInstance (by omega)) Z (DX_y 6 (by kernel_rfl) Z (aB_ 1 Tryz.underlying65 Z sz22 Z Z (hits.like (hlk.trans S5.like0)) (by omega) Z) Z (DX_y 7 (by kernel_rfl) Z (y_of fun w hw=>y_ldf Tryz.underlying22 Z Z (hits.like (hlk.trans hw)) (by omega) ((bw_ itf 2 bC_ its k x hx 1 (by omega)).trans (by rfl))) Z ?_)));refine DX_y 8 (by kernel_rfl) Z (f_ 1 Tryz.underlying65 Z sz22 Z Z Z) Z (DX_y 9 (by kernel_rfl) Z (y_of fun w hw=>t_ Tryz.underlying22 Z Z (((hb1.below hw hb1.lt).cell _).trans (by rfl))) Z ?_);refine DX_o2 10 14 (by kernel_rfl) Z Z ?_ ?_
   ·
    refine o_ Tryz.func121 Z Z (Del.pmakeH _ _ _ _ _ _ x.p.l p.l w5 (Rs.like hxo (hlk.trans S5.like0)) (Rs.like hp (hlk.trans S5.like0)) (by omega) (by omega)) Z Z ?_;rintro e6 w6 ⟨v6,rfl,l6,A6,c6,ops6,R6,rfl,hh6,dd6,hr6,hv6⟩;refine ⟨_,rfl,(have S6:=S5.new l6 _ hh6 dd6;⟨S6.like0,(DX_y 11 (by kernel_rfl) Z (p_ Z) Z (DX_y 12 (by kernel_rfl) Z (j_ Z Z) Z (DX_y 13 (by kernel_rfl) Z (j_ Z Z) Z (DX_o1 14 (by kernel_rfl) Z (F_ zz179 S6 Z fun b7 w7 hb7 S7=>⟨S7.like0,(DX_o1 15 (by kernel_rfl) Z (D_ S7 1 Z Z Z sz179 (by rfl) (by intro u hu;simp [scA] at hu;rcases hu with rfl | rfl | rfl <;> rfl) fun w8 S8=>?_))⟩)))))⟩)⟩;refine ⟨S8.like0,(DX_y 16 (by kernel_rfl) Z (J_ Z) Z (DX_nil (by kernel_rfl) (hK9 _ _ (a_ fun K10 hK10=>a_ fun K11 hK11=>Rm Z Z (L_y (V_ Z Z) Z (d_ (hK11 _ _ ?_)))))))⟩;refine n_ Z (fun h43=>?_) (fun h43=>?_)
    ·
     exact absurd Z h43
    ·
     refine m_ (hK10 _ _ (a_ fun K12 hK12=>b_ (L_y (X_ Tryz.underlying179 Z sz179 Z (S8.blk 1 Z) (show _=(scA (x.p.n:Int) (p.n:Int) _ _ _).toList∧_ from ⟨rfl,rfl⟩)) Z (L_o (o_ Tryz.func122 Z Z (Del.pputM (x:=x.p.l) (y:=p.l) (by omega) (by omega) A6 c6 ops6 _ _ w8 (hr6 _ (S8.get 0 Z)).1 (hr6 _ (S8.get 0 Z)).2 hv6 (by omega) (by omega)) Z Z ?_)))));rintro e9 w9 ⟨v9,rfl,l9,A9,c9,rfl,O9⟩;refine ⟨_,rfl,(have S9:=S8.adopt l9 O9;have hlk3:Like w4 w9:=S9.like0;have hd9:Rs w9 1 A9 (scB x.p.l p.l).length c9 (bL (scB x.p.l p.l)):=S9.row 2 Z;have hf9:=(Fr.of_own (S9.own 2 Z)).2;have hb4:=hb1.below hlk3 hb1.lt;have hlk4:=hlk.trans hlk3;have hc4:=hc.like hlk3;have hq4:=hq.like hlk3;have hsz9:=hlk.size;Lm Z Z (L_y (j_ Z Z) Z (L_y (j_ Z Z) Z (La Z Z ?_))))⟩;refine Lan Z Z (hK12 _ _ (a_ fun K13 hK13=>Rm Z Z (L_y (ao_ Z Z) Z (Lm Z Z ?_))));refine B_ 51 Z (fun h51=>?_) (fun h51=>?_)
     ·
      refine g_ Z Z (Lm Z Z (g_ Z Z (L_y (K_ Tryz.underlying22 Z) Z (g_ Z Z (Lm Z Z (g_ Z Z (L_y (K_ Tryz.underlying22 Z) Z (g_ Z Z (L_y (P_ Z Z) Z (Lp Z Z Z (d_ (hK13 _ _ ?_))))))))))));refine n_ Z (fun h57=>?_) (fun h57=>?_)
      ·
       have hlen:=h57;refine Rm Z Z (Lm Z Z (La Z Z (Lan Z Z (hK7 _ _ (b_ (L_y (w_ Z Z (E_ (by omega))) Z (Lm Z Z (d_ ?_))))))));have hst:shF os p.l ((aX_ os kind chain os.length 0).take (i+1)) (-1,p.l)=((k:Int),scB x.p.l p.l):=by rw [sh_next hk,hxl];exact step_yes ho (by rw [← hq.val,hq.ok.lenb];rw [hxl] at hlen;first | exact Int.ofNat_lt.1 hlen | exact fun h=>hlen (Int.ofNat_lt.2 h))
       have hqn2:QOk w0 w9 p ((k:Int),scB x.p.l p.l) ⟨A9,(scB x.p.l p.l).length,c9,scB x.p.l p.l⟩:=⟨hd9,rfl,.inr ⟨by show (0:Int)≤(k:Int);omega,fun ad h1 h2=>Nat.le_trans hsz9 (hf9 ad h1 h2)⟩⟩;refine ⟨i+1,_,⟨A9,(scB x.p.l p.l).length,c9,scB x.p.l p.l⟩,by omega,⟨⟨by omega,hst.symm⟩,hlk4,hc4,hqn2,hb4⟩,?_⟩;exact (Sc Z (Sc Z (Sc Z (Sub.cons Z Z (Sub.cons Z Z (Sub.cons Z Z (Sub.cons Z Z (Sub.nil _))))))))
      ·
       have hlen:=h57;refine m_ (hK7 _ _ (b_ (L_y (w_ Z Z (E_ (by omega))) Z (Lm Z Z (d_ ?_)))));have hst:shF os p.l ((aX_ os kind chain os.length 0).take (i+1)) (-1,p.l)=(shF os p.l ((aX_ os kind chain os.length 0).take i) (-1,p.l)):=by rw [sh_next hk];exact step_no ho (by rw [← hq.val,hq.ok.lenb];rw [hxl] at hlen;first | exact Int.ofNat_lt.1 hlen | exact fun h=>hlen (Int.ofNat_lt.2 h))
       have hqn2:=hq4;refine ⟨i+1,_,q,by omega,⟨⟨by omega,hst.symm⟩,hlk4,hc4,hqn2,hb4⟩,?_⟩;exact (Sc Z (Sc Z (Sc Z (Sub.cons Z Z (Sub.cons Z Z (Sub.cons Z Z (Sub.cons Z Z (Sub.nil _))))))))
     ·
      exact absurd Z h51
   ·
    refine F_ zz179 S5 Z fun b11 w11 hb11 S11=>⟨S11.like0,(DX_o1 10 (by kernel_rfl) Z (o_ Tryz.func121 Z Z (Del.pmakeH _ _ _ _ _ _ x.p.l p.l w11 (Rs.like hxo (hlk.trans S11.like0)) (Rs.like hp (hlk.trans S11.like0)) (by omega) (by omega)) Z Z ?_))⟩;rintro e12 w12 ⟨v12,rfl,l12,A12,c12,ops12,R12,rfl,hh12,dd12,hr12,hv12⟩;refine ⟨_,rfl,(have S12:=S11.new l12 _ hh12 dd12;⟨S12.like0,(DX_y 11 (by kernel_rfl) Z (p_ Z) Z (DX_y 12 (by kernel_rfl) Z (j_ Z Z) Z (DX_y 13 (by kernel_rfl) Z (j_ Z Z) Z (DX_o1 15 (by kernel_rfl) Z (D_ S12 0 Z Z Z sz179 (by rfl) (by intro u hu;simp [scA] at hu;rcases hu with rfl | rfl | rfl <;> rfl) fun w13 S13=>?_)))))⟩)⟩;refine ⟨S13.like0,(DX_y 16 (by kernel_rfl) Z (J_ Z) Z (DX_nil (by kernel_rfl) (hK9 _ _ (a_ fun K14 hK14=>a_ fun K15 hK15=>Rm Z Z (L_y (V_ Z Z) Z (d_ (hK15 _ _ ?_)))))))⟩;refine n_ Z (fun h43=>?_) (fun h43=>?_)
    ·
     exact absurd Z h43
    ·
     refine m_ (hK14 _ _ (a_ fun K16 hK16=>b_ (L_y (X_ Tryz.underlying179 Z sz179 Z (S13.blk 0 Z) (show _=(scA (x.p.n:Int) (p.n:Int) _ _ _).toList∧_ from ⟨rfl,rfl⟩)) Z (L_o (o_ Tryz.func122 Z Z (Del.pputM (x:=x.p.l) (y:=p.l) (by omega) (by omega) A12 c12 ops12 _ _ w13 (hr12 _ (S13.get 1 Z)).1 (hr12 _ (S13.get 1 Z)).2 hv12 (by omega) (by omega)) Z Z ?_)))));rintro e14 w14 ⟨v14,rfl,l14,A14,c14,rfl,O14⟩;refine ⟨_,rfl,(have S14:=S13.adopt l14 O14;have hlk3:Like w4 w14:=S14.like0;have hd9:Rs w14 1 A14 (scB x.p.l p.l).length c14 (bL (scB x.p.l p.l)):=S14.row 2 Z;have hf9:=(Fr.of_own (S14.own 2 Z)).2;have hb4:=hb1.below hlk3 hb1.lt;have hlk4:=hlk.trans hlk3;have hc4:=hc.like hlk3;have hq4:=hq.like hlk3;have hsz9:=hlk.size;Lm Z Z (L_y (j_ Z Z) Z (L_y (j_ Z Z) Z (La Z Z ?_))))⟩;refine Lan Z Z (hK16 _ _ (a_ fun K17 hK17=>Rm Z Z (L_y (ao_ Z Z) Z (Lm Z Z ?_))));refine B_ 51 Z (fun h51=>?_) (fun h51=>?_)
     ·
      refine g_ Z Z (Lm Z Z (g_ Z Z (L_y (K_ Tryz.underlying22 Z) Z (g_ Z Z (Lm Z Z (g_ Z Z (L_y (K_ Tryz.underlying22 Z) Z (g_ Z Z (L_y (P_ Z Z) Z (Lp Z Z Z (d_ (hK17 _ _ ?_))))))))))));refine n_ Z (fun h57=>?_) (fun h57=>?_)
      ·
       have hlen:=h57;refine Rm Z Z (Lm Z Z (La Z Z (Lan Z Z (hK7 _ _ (b_ (L_y (w_ Z Z (E_ (by omega))) Z (Lm Z Z (d_ ?_))))))));have hst:shF os p.l ((aX_ os kind chain os.length 0).take (i+1)) (-1,p.l)=((k:Int),scB x.p.l p.l):=by rw [sh_next hk,hxl];exact step_yes ho (by rw [← hq.val,hq.ok.lenb];rw [hxl] at hlen;first | exact Int.ofNat_lt.1 hlen | exact fun h=>hlen (Int.ofNat_lt.2 h))
       have hqn2:QOk w0 w14 p ((k:Int),scB x.p.l p.l) ⟨A14,(scB x.p.l p.l).length,c14,scB x.p.l p.l⟩:=⟨hd9,rfl,.inr ⟨by show (0:Int)≤(k:Int);omega,fun ad h1 h2=>Nat.le_trans hsz9 (hf9 ad h1 h2)⟩⟩;refine ⟨i+1,_,⟨A14,(scB x.p.l p.l).length,c14,scB x.p.l p.l⟩,by omega,⟨⟨by omega,hst.symm⟩,hlk4,hc4,hqn2,hb4⟩,?_⟩;exact (Sc Z (Sc Z (Sc Z (Sub.cons Z Z (Sub.cons Z Z (Sub.cons Z Z (Sub.cons Z Z (Sub.nil _))))))))
      ·
       have hlen:=h57;refine m_ (hK7 _ _ (b_ (L_y (w_ Z Z (E_ (by omega))) Z (Lm Z Z (d_ ?_)))));have hst:shF os p.l ((aX_ os kind chain os.length 0).take (i+1)) (-1,p.l)=(shF os p.l ((aX_ os kind chain os.length 0).take i) (-1,p.l)):=by rw [sh_next hk];exact step_no ho (by rw [← hq.val,hq.ok.lenb];rw [hxl] at hlen;first | exact Int.ofNat_lt.1 hlen | exact fun h=>hlen (Int.ofNat_lt.2 h))
       have hqn2:=hq4;refine ⟨i+1,_,q,by omega,⟨⟨by omega,hst.symm⟩,hlk4,hc4,hqn2,hb4⟩,?_⟩;exact (Sc Z (Sc Z (Sc Z (Sub.cons Z Z (Sub.cons Z Z (Sub.cons Z Z (Sub.cons Z Z (Sub.nil _))))))))
     ·
      exact absurd Z h51
  ·
   refine Q_ (hK3 _ _ (a_ fun K18 hK18=>Rm Z Z (Lm Z Z (La Z Z (Lan Z Z (hK18 _ _ (l_ (ur (aF_ Z Z Z ?_)))))))));obtain rfl:i=(aX_ os kind chain os.length 0).length:=by omega
   rw [List.take_length] at hq;exact ⟨_,rfl,hlk,q,by rw [List.take_length];rfl,hq⟩
end Go.Proofs.YtgaklngnfecdaaaGreat.Pak
namespace Go.Proofs.YtgaklngnfecdaaaGreat.Pak
open Go.RowKit Zk Zx
open Oct
section
variable {x1 x2 x3 : Value}
def wu (x1 x2 x3:Value) (g:Nat) (A:Option Addr) (n c:Nat) (l:List UInt8):Res:=both (blk g 113 #[.slice A n c,x1,x2,x3]) (row 5 1 A n c (bL l))
theorem wu_apart {w:World} {g n c:Nat} {A:Option Addr} {l:List UInt8} (h:(wu x1 x2 x3 g A n c l).holds w):∀ i,(blk g 113 #[.slice A n c,x1,x2,x3]).dom i→¬ (row 5 1 A n c (bL l)).dom i:=fun i hi hr=>by
  have hi':i=g:=hi
  subst hi'
  exact own_blk_ne (e:=5) h.2 h.1 (by decide) hr
theorem wu_lt {w:World} {g n c:Nat} {A:Option Addr} {l:List UInt8} (h:(wu x1 x2 x3 g A n c l).holds w):∀ i,(wu x1 x2 x3 g A n c l).dom i→i < w.heap.size:=fun i hi=>by
  rcases hi with hi | hi
  · have hi':i=g:=hi
    subst hi'
    exact Blk.lt h.1
  · exact (World.ownsRow.lt h.2 i hi).2
theorem wu_len {w:World} {g n c:Nat} {A:Option Addr} {l:List UInt8} (h:(wu x1 x2 x3 g A n c l).holds w):l.length=n:=by
  have:=h.2.1
  simpa using this
def LaidW (x1 x2 x3:Value) (w w':World) (g:Nat) (A:Option Addr) (n c:Nat) (l m:List UInt8):Prop:=∃ A' n' c',Turned w w' (wu x1 x2 x3 g A n c l) (wu x1 x2 x3 g A' n' c' m)
theorem LaidW.of {w w':World} {g n c n' c':Nat} {A A':Option Addr} {l m:List UInt8} {X:Array Value} {ys:List Value} (h:Turned w w' (wu x1 x2 x3 g A n c l) (both (blk g 113 X) (row 5 1 A' n' c' ys))) (hX:X = #[.slice A' n' c',x1,x2,x3]) (hy:ys=bL m):LaidW x1 x2 x3 w w' g A n c l m:=by
  subst hX
  subst hy
  exact ⟨A',n',c',h⟩
theorem LaidW.refl {w:World} {g n c:Nat} {A:Option Addr} {l:List UInt8} (h:(wu x1 x2 x3 g A n c l).holds w):LaidW x1 x2 x3 w w g A n c l l:=⟨A,n,c,Turned.refl h⟩
theorem LaidW.same {w w':World} {g n c:Nat} {A:Option Addr} {l m:List UInt8} (h:LaidW x1 x2 x3 w w' g A n c l m):∃ A' c',Turned w w' (wu x1 x2 x3 g A n c l) (wu x1 x2 x3 g A' m.length c' m):=by
  obtain ⟨A',n',c',h⟩:=h
  have:=wu_len h.holds
  subst this
  exact ⟨A',c',h⟩
theorem wbyteW (g:Nat) (A:Option Addr) (n c:Nat) (l:List UInt8) (x:UInt8) (w0:World) (hw:(wu x1 x2 x3 g A n c l).holds w0) (hn:l.length≤70368744177664) :
    Calls Tryz.prog 89 #[.pointer (some ⟨g,0,none⟩),.int .u8 (x.toNat:Int)] w0 fun e w'=>∃ u,e=.returned u∧LaidW x1 x2 x3 w0 w' g A n c l (l++[x]):=by
 refine v_ (env:=[(0,.pointer (some ⟨g,0,none⟩)),(1,.int .u8 (x.toNat:Int))]) [.pointer (some ⟨g,0,none⟩),.int .u8 (x.toNat:Int)] Tryz.func89 Z Tryz.ntmps89 Z Z ?_;have hln:=wu_len hw;have S0:=St.borrow2 (blk g 113 #[.slice A n c,x1,x2,x3]) (row 5 1 A n c (bL l)) hw.1 hw.2 (wu_lt hw) (wu_apart hw);refine a_ fun K1 hK1=>Rm Z Z (L_y (y_pneqn Tryz.underlying163 Z) Z (d_ (hK1 _ _ (W_ Z (Rm Z Z (Lm Z Z (L_y (A_ Z) Z (L_y (f_ 0 Tryz.underlying110 Z sz22 Z Z Z) Z (L_y (t_ Tryz.underlying22 Z Z (((S0.blk 0 Z).cell _).trans (show (#[Value.slice A n c,x1,x2,x3]:Array Value)[0]?=some (Value.slice A n c) from Z))) Z (Lm Z Z ?_))))))))));refine L_o (aW_ [_] te22 zz5 S0 Z Z Z Z Z Z Z Z fun b1 w1 S1=>L_o (aL_ te22 S1 1 Z Z Z (by first | exact S1.row 1 Z | exact S1.row 2 Z) (by first | exact R_ _ | exact bD_ _ | (intro u hu;simp at hu;subst hu;rfl) | (simp;done) | (simp [Value.oneCell'];done)) Z (by omega) (by omega) fun A2 c2 w2 S2=>?_));have S2d:=S2.drop (rs':=[_,_]) (.cons_cons _ (.cons_cons _ (.cons _ (.refl _))));refine L_y (A_ Z) Z (L_y (f_ 0 Tryz.underlying110 Z sz22 Z Z Z) Z (L_o (ac_ S2d 0 Z Z Z Z sz22 (by simp;done) fun w3 S3=>?_)));refine d_ ?_;first | refine end0 (fn:=Tryz.f89) Z ?_ | (simp only [aU_,inB,if_true];refine end0 (fn:=Tryz.f89) Z ?_)
 exact ⟨_,rfl,LaidW.of (S3.turned2 0 1 Z Z) Z (by simp [bL,bV])⟩
theorem wrawW (g:Nat) (A:Option Addr) (n c:Nat) (l:List UInt8) (B:Option Addr) (m d:Nat) (q:List UInt8) (w0:World) (hw:(wu x1 x2 x3 g A n c l).holds w0) (hp:Rs w0 1 B m d (bL q)) (hn:l.length+m≤70368744177664) :
    Calls Tryz.prog 55 #[.pointer (some ⟨g,0,none⟩),.slice B m d] w0 fun e w'=>∃ u,e=.returned u∧LaidW x1 x2 x3 w0 w' g A n c l (l++q):=by
 refine v_ (env:=[(0,.pointer (some ⟨g,0,none⟩)),(1,.slice B m d)]) [.pointer (some ⟨g,0,none⟩),.slice B m d] Tryz.func55 Z Tryz.ntmps55 Z Z ?_;have hln:=wu_len hw;have S0:=St.borrow2 (blk g 113 #[.slice A n c,x1,x2,x3]) (row 5 1 A n c (bL l)) hw.1 hw.2 (wu_lt hw) (wu_apart hw);refine a_ fun K1 hK1=>Rm Z Z (L_y (y_pneqn Tryz.underlying163 Z) Z (d_ (hK1 _ _ (W_ Z (Rm Z Z (Lm Z Z (L_y (A_ Z) Z (L_y (f_ 0 Tryz.underlying110 Z sz22 Z Z Z) Z (L_y (t_ Tryz.underlying22 Z Z (((S0.blk 0 Z).cell _).trans (show (#[Value.slice A n c,x1,x2,x3]:Array Value)[0]?=some (Value.slice A n c) from Z))) Z (Lm Z Z ?_))))))))));refine L_o (aL_ te22 S0 1 Z Z Z (hp) (R_ _) Z (by omega) (by omega) fun A1 c1 w1 S1=>L_y (A_ Z) Z (L_y (f_ 0 Tryz.underlying110 Z sz22 Z Z Z) Z (L_o (ac_ S1 0 Z Z Z Z sz22 (by simp;done) fun w2 S2=>?_))));refine d_ ?_;first | refine end0 (fn:=Tryz.f55) Z ?_ | (simp only [aU_,inB,if_true];refine end0 (fn:=Tryz.f55) Z ?_)
 have hE:=S2.turned2 0 1 Z Z;exact ⟨_,rfl,LaidW.of hE Z (by simp [bL])⟩
theorem wlenW (g:Nat) (A:Option Addr) (n c:Nat) (l:List UInt8) (w0:World) (hw:(wu x1 x2 x3 g A n c l).holds w0) :
    Calls Tryz.prog 58 #[.pointer (some ⟨g,0,none⟩)] w0 fun e w'=>∃ u,e=.returned u∧Like w0 w'∧u=.int .i64 (n:Int):=by
 refine v_ (env:=[(0,.pointer (some ⟨g,0,none⟩))]) [.pointer (some ⟨g,0,none⟩)] Tryz.func58 Z Tryz.ntmps58 Z Z ?_;have S0:=St.start w0 noM;refine a_ fun K1 hK1=>b_ (Lan Z Z (hK1 _ _ (a_ fun K2 hK2=>a_ fun K3 hK3=>Rm Z Z (L_y (y_peqn Tryz.underlying163 Z) Z (d_ (hK3 _ _ (ba_ Z (m_ ?_))))))));refine hK2 _ _ (a_ fun K4 hK4=>Rm Z Z (L_y (A_ Z) Z (L_y (f_ 0 Tryz.underlying110 Z sz22 Z Z Z) Z (L_y (t_ Tryz.underlying22 Z Z ((hw.1.cell _).trans (show (#[Value.slice A n c,x1,x2,x3]:Array Value)[0]?=some (Value.slice A n c) from Z))) Z (L_y (K_ Tryz.underlying22 Z) Z (Lan Z Z (hK4 _ _ (l_ (ur (G_ Z Z ?_))))))))));exact ⟨_,rfl,S0.like0,rfl⟩
theorem wu32W (g:Nat) (A:Option Addr) (n c:Nat) (l:List UInt8) (x:Nat) (w0:World) (hw:(wu x1 x2 x3 g A n c l).holds w0) (hx:x≤4294967295) (hn:l.length≤70368744177000) :
    Calls Tryz.prog 56 #[.pointer (some ⟨g,0,none⟩),.int .u32 (x:Int)] w0 fun e w'=>∃ u,e=.returned u∧LaidW x1 x2 x3 w0 w' g A n c l (l++tl x 4):=by
 refine v_ (env:=[(0,.pointer (some ⟨g,0,none⟩)),(1,.int .u32 (x:Int))]) [.pointer (some ⟨g,0,none⟩),.int .u32 (x:Int)] Tryz.func56 Z Tryz.ntmps56 Z Z ?_;have hln:=wu_len hw;have S0:=St.borrow1 (wu x1 x2 x3 g A n c l) hw (wu_lt hw);refine a_ fun K1 hK1=>Rm Z Z (L_y (y_makeFunc Z Z) Z (Lan Z Z (hK1 _ _ (a_ fun K2 hK2=>b_ (Lan Z Z (hK2 _ _ (r_ ?_)))))));refine ar_ [(1,_),(4,_)] (fun (k:Nat)=>[(5,.int .i64 (24 - 8*(k:Int)))]) (fun (k:Nat)=>4 - k) (fun (k:Nat) (w:World)=>k≤4∧∃ A1 n1 c1,St w0 (wu x1 x2 x3 g A n c l).dom [wu x1 x2 x3 g A1 n1 c1 (l++(tl x 4).take k)] w) 0 (Sc Z (Sub.nil _)) (Sub.cons Z Z (Sub.cons Z Z (Sub.nil _))) ?_ ?_
 ·
  exact ⟨Nat.zero_le _,_,_,_,by simpa using S0⟩
 ·
  intro k w1 hrel;obtain ⟨hk,A1,n1,c1,S1⟩:=hrel;refine a_ fun K3 hK3=>a_ fun K4 hK4=>Rm Z Z (L_y (y_geq Z Z) Z (d_ (hK4 _ _ ?_)));refine n_ Z (fun h9=>?_) (fun h9=>?_)
  ·
   refine m_ (hK3 _ _ (a_ fun K5 hK5=>r_ (Rm Z Z (Lm Z Z (Lm Z Z (L_y (T_ is3 Tryz.underlying68 Z (u64w (by omega))) Z (L_y (y_shr Z Z (by omega) (shr24 x k (by omega))) Z (L_y (T_ is63 Tryz.underlying5 Z (Oct.byteOf _)) Z (L_o (o_callv Z Tryz.func89 Z Z (wbyteW g A1 n1 c1 (l++(tl x 4).take k) (UInt8.ofNat (x / 256 ^ (4 - 1 - k) % 256)) w1 (S1.get 0 Z) (by simp [M_];omega)) Z Z (fun d' hd=>by cases hd <;> rfl) ?_))))))))));rintro e2 w2 ⟨v2,rfl,⟨A2,n2,c2,T2⟩⟩;refine ⟨_,rfl,(have S2:=S1.turn 0 Z T2;d_ (hK5 _ _ (Rm Z Z (L_y (aE_ Z Z (E_ (by omega))) Z (Lan Z Z (⟨k+1,by omega,⟨by omega,_,_,_,by rw [tl_take x 4 k (by omega), ← List.append_assoc];exact S2⟩,?_⟩))))))⟩;exact (Sub.cons Z (congrArg (Value.int _) (by omega)) (Sub.cons Z Z (Sub.cons Z Z (Sub.nil _))))
  ·
   have hk4:k=4:=by omega
   subst hk4;refine Q_ ?_;first | refine end0 (fn:=Tryz.f56) Z ?_ | (simp only [aU_,inB,if_true];refine end0 (fn:=Tryz.f56) Z ?_)
   exact ⟨_,rfl,A1,n1,c1,by simpa [List.take_of_length_le,M_] using S1.turned1 0 Z⟩
theorem wvarW (g:Nat) (A:Option Addr) (n c:Nat) (l:List UInt8) (x:Nat) (w0:World) (hw:(wu x1 x2 x3 g A n c l).holds w0) (hx:x≤18446744073709551615) (hn:l.length≤70368744176000) :
    Calls Tryz.prog 91 #[.pointer (some ⟨g,0,none⟩),.int .u64 (x:Int)] w0 fun e w'=>∃ u,e=.returned u∧LaidW x1 x2 x3 w0 w' g A n c l (l++vr x):=by
 refine v_ (env:=[(0,.pointer (some ⟨g,0,none⟩)),(1,.int .u64 (x:Int))]) [.pointer (some ⟨g,0,none⟩),.int .u64 (x:Int)] Tryz.func91 Z Tryz.ntmps91 Z Z ?_;have hln:=wu_len hw;have S0:=St.borrow1 (wu x1 x2 x3 g A n c l) hw (wu_lt hw);refine a_ fun K1 hK1=>Rm Z Z (L_y (y_makeFunc Z Z) Z (Lan Z Z (hK1 _ _ (a_ fun K2 hK2=>r_ ?_))));refine bx_ [(4,_)] (fun (y:Nat) (m:List UInt8)=>[(1,.int .u64 (y:Int))]) (fun (y:Nat) (m:List UInt8)=>y) (fun (y:Nat) (m:List UInt8) (w:World)=>(m++vr y=l++vr x∧y≤x∧m.length+(vr y).length≤70368744177000)∧∃ A1 n1 c1,St w0 (wu x1 x2 x3 g A n c l).dom [wu x1 x2 x3 g A1 n1 c1 m] w) x l (Sc Z (Sub.nil _)) (Sub.cons Z Z (Sub.nil _)) ?_ ?_
 ·
  have:=vr_len10 x hx;exact ⟨⟨rfl,Nat.le_refl _,by omega⟩,_,_,_,S0⟩
 ·
  intro y m w1 hrel;obtain ⟨⟨hm,hy,hml⟩,A1,n1,c1,S1⟩:=hrel;have hg:m.length≤70368744177000:=by omega
  refine a_ fun K3 hK3=>a_ fun K4 hK4=>Rm Z Z (L_y (y_geq Z Z) Z (d_ (hK4 _ _ ?_)));refine n_ Z (fun h8=>?_) (fun h8=>?_)
  ·
   refine m_ (hK3 _ _ (r_ (a_ fun K5 hK5=>Rm Z Z (Lm Z Z (L_y (T_ is102 Tryz.underlying5 Z (w8 _)) Z (L_y (Z_ Z Z Z (orB _)) Z (L_o (o_callv Z Tryz.func89 Z Z (wbyteW g _ _ _ _ (UInt8.ofNat (y % 128+128)) w1 (S1.get 0 Z) (by omega)) Z Z (fun d' hd=>by cases hd <;> rfl) ?_))))))));rintro e2 w2 ⟨v2,rfl,⟨A2,n2,c2,T2⟩⟩;refine ⟨_,rfl,(have S2:=S1.turn 0 Z T2;d_ (hK5 _ _ (Rm Z Z (L_y (y_shr Z Z (by omega) (shr7 _)) Z (Lan Z Z (⟨y / 128,m++[UInt8.ofNat (y % 128+128)],by omega,⟨⟨by rw [← hm,vr_big y (by omega)];simp,by omega,by rw [vr_big y (by omega)] at hml;simp at hml ⊢;omega⟩,_,_,_,S2⟩,?_⟩))))))⟩;exact (Sc Z (Sub.cons Z Z (Sub.nil _)))
  ·
   refine Q_ (hK2 _ _ (Rm Z Z (Lm Z Z (L_y (T_ is102 Tryz.underlying5 Z (w8low _ (by omega))) Z (L_o (o_callv Z Tryz.func89 Z Z (wbyteW g _ _ _ _ (UInt8.ofNat y) w1 (S1.get 0 Z) (by omega)) Z Z (fun d' hd=>by cases hd <;> rfl) ?_))))));rintro e3 w3 ⟨v3,rfl,⟨A3,n3,c3,T3⟩⟩;refine ⟨_,rfl,(have S3:=S1.turn 0 Z T3;d_ ?_)⟩;first | refine end0 (fn:=Tryz.f91) Z ?_ | (simp only [aU_,inB,if_true];refine end0 (fn:=Tryz.f91) Z ?_)
   exact ⟨_,rfl,_,_,_,by rw [← hm,vr_low y (by omega)];exact S3.turned1 0 Z⟩
theorem wbytesW (g:Nat) (A:Option Addr) (n c:Nat) (l:List UInt8) (w0:World) (hw:(wu x1 x2 x3 g A n c l).holds w0) (hn:l.length≤70368744177000) :
    Calls Tryz.prog 59 #[.pointer (some ⟨g,0,none⟩)] w0 fun e w'=>∃ u,e=.returned u∧Like w0 w'∧∃ A' m c',u=.slice A' m c'∧w'.ownsRow w0.heap.size 5 1 (.slice A' m c') m (bL l):=by
 refine v_ (env:=[(0,.pointer (some ⟨g,0,none⟩))]) [.pointer (some ⟨g,0,none⟩)] Tryz.func59 Z Tryz.ntmps59 Z Z ?_;have hln:=wu_len hw;have S0:=St.start w0 noM;refine a_ fun K1 hK1=>b_ (Lan Z Z (hK1 _ _ (a_ fun K2 hK2=>a_ fun K3 hK3=>Rm Z Z (L_y (y_peqn Tryz.underlying163 Z) Z (Lm Z Z (g_ Z Z (Lm Z Z (g_ Z Z ?_))))))));refine L_y (A_ Z) Z (g_ Z Z (L_y (f_ 0 Tryz.underlying110 Z sz22 Z Z Z) Z (g_ Z Z (L_y (t_ Tryz.underlying22 Z Z (((S0.rdB hw.1).cell _).trans (show (#[Value.slice A n c,x1,x2,x3]:Array Value)[0]?=some (Value.slice A n c) from Z))) Z (g_ Z Z (L_y (K_ Tryz.underlying22 Z) Z (g_ Z Z (L_y (ao_ Z Z) Z (Lp Z Z Z (d_ (hK3 _ _ ?_)))))))))));refine n_ Z (fun h12=>?_) (fun h12=>?_)
 ·
  refine a_ fun K4 hK4=>b_ (Lan Z Z (hK4 _ _ (l_ (ur (G_ Z Z ?_)))));first | exact ⟨_,rfl,S0.like0,none,0,0,rfl,by have hn0:n=0:=(by omega);subst hn0;have hl0:=List.length_eq_zero_iff.1 hln;subst hl0;exact ⟨by simp [bL],.inl ⟨rfl,rfl⟩⟩⟩ | exact ⟨_,rfl,S0.like0,_,_,_,rfl,by have:=S0.own 0 Z;simpa using this⟩
 ·
  refine m_ (hK2 _ _ (a_ fun K5 hK5=>T_zed [0,1,2,3,4,6,7,8,9,5] 10 [(0,1),(1,1),(2,1),(3,1),(4,1),(6,1),(7,1),(8,1),(9,1),(5,2),(10,3),(11,3)] hmix (by kernel_rfl) fun w1 l1=>have S1:=S0.like l1;ZA_B (Like w1) (Like.refl _) (O_ Z (p_ Z) Z (O_ Z (A_ Z) Z (O_ Z (f_ 0 Tryz.underlying110 Z sz22 Z Z Z) Z (O_ Z (t_ Tryz.underlying22 Z Z (((S1.rdB hw.1).cell _).trans (show (#[Value.slice A n c,x1,x2,x3]:Array Value)[0]?=some (Value.slice A n c) from Z))) Z (O_ Z (K_ Tryz.underlying22 Z) Z (O_ Z (p_ Z) Z (O_ Z (A_ Z) Z (O_ Z (f_ 0 Tryz.underlying110 Z sz22 Z Z Z) Z ?_))))))))));refine O_ Z (t_ Tryz.underlying22 Z Z (((S1.rdB hw.1).cell _).trans (show (#[Value.slice A n c,x1,x2,x3]:Array Value)[0]?=some (Value.slice A n c) from Z))) Z (ZB_o Z (o_makeL te22 Z S1 Z Z inferInstance inferInstance Z (by omega) (by omega) (by omega) fun b2 w2 l2 S2=>have q2:=l2;⟨q2,(ZB_c Z (aL_ te22 S2 0 Z Z Z (S2.rd (bz_ hw.2)) (R_ _) Z (by omega) (by omega) fun A3 c3 w3 S3=>ZA_oy Z (J_ Z) Z (ZA_nil (hK5 _ _ (l_ (ur (G_ Z Z ?_)))))))⟩));first | exact ⟨_,rfl,S3.like0,none,0,0,rfl,by have hn0:n=0:=(by omega);subst hn0;have hl0:=List.length_eq_zero_iff.1 hln;subst hl0;exact ⟨by simp [bL],.inl ⟨rfl,rfl⟩⟩⟩ | exact ⟨_,rfl,S3.like0,_,_,_,rfl,by have:=S3.own 0 Z;simpa using this⟩
end
end Go.Proofs.YtgaklngnfecdaaaGreat.Pak
namespace Go.Proofs.YtgaklngnfecdaaaGreat.Zx
open Go.RowKit Zk
section
variable {w0 w : World} {M : Nat → Prop} {rs ps : List Res} {r s : Res}
theorem St.splitAt (S:St w0 M rs w) (k:Nat) (hk:rs[k]?=some (both r s)) (hap:∀ i,r.dom i→¬ s.dom i):St w0 M (rs.set k r++[s]) w:=by
  obtain ⟨hkl,hke⟩:=List.getElem?_eq_some_iff.1 hk
  have hp:=List.pairwise_iff_getElem.1 S.apart
  have hb:=S.res (both r s) (List.mem_of_getElem? hk)
  have hne:∀ j (hj:j < rs.length),j≠k→∀ i,rs[j].dom i→¬ (both r s).dom i:=fun j hj h i hi hb2=>by
    rcases Nat.lt_or_gt_of_ne h with g | g
    · exact hp j k hj hkl g i hi (by rw [hke];exact hb2)
    · exact hp k j hkl hj g i (by rw [hke];exact hb2) hi
  refine ⟨S.os,S.tape,S.output,S.size,S.old,fun q hq=>?_,?_⟩
  · rcases List.mem_append.1 hq with hq | hq
    · rcases List.mem_or_eq_of_mem_set hq with g | g
      · exact S.res q g
      · subst g;exact ⟨hb.1.1,fun i hi=>hb.2 i (.inl hi)⟩
    · obtain rfl:=List.mem_singleton.1 hq
      exact ⟨hb.1.2,fun i hi=>hb.2 i (.inr hi)⟩
  · rw [List.pairwise_append]
    refine ⟨?_,List.pairwise_singleton _ _,fun a ha b hbm i hi hbi=>?_⟩
    · rw [List.pairwise_iff_getElem]
      intro i j hi hj hij x hx hxj
      have hi':i < rs.length:=by simpa using hi
      have hj':j < rs.length:=by simpa using hj
      rw [List.getElem_set] at hx hxj
      split at hx
      · rename_i e
        subst e
        rw [if_neg (by omega)] at hxj
        exact hne j hj' (by omega) x hxj (.inl hx)
      · rename_i e
        split at hxj
        · exact hne i hi' (fun q=>e q.symm) x hx (.inl hxj)
        · exact hp i j hi' hj' hij x hx hxj
    · obtain rfl:=List.mem_singleton.1 hbm
      obtain ⟨j,hj,rfl⟩:=List.getElem_of_mem ha
      have hj':j < rs.length:=by simpa using hj
      rw [List.getElem_set] at hi
      split at hi
      · exact hap i hi hbi
      · rename_i e
        exact hne j hj' (fun q=>e q.symm) i hi (.inr hbi)
theorem St.joinL (S:St w0 M (ps++[r,s]) w):St w0 M (ps++[both r s]) w:=by
  have hap:=List.pairwise_append.1 S.apart
  refine ⟨S.os,S.tape,S.output,S.size,S.old,fun q hq=>?_,?_⟩
  · rcases List.mem_append.1 hq with hq | hq
    · exact S.res q (List.mem_append_left _ hq)
    · obtain rfl:=List.mem_singleton.1 hq
      have h1:=S.res r (List.mem_append_right _ (by simp))
      have h2:=S.res s (List.mem_append_right _ (by simp))
      exact ⟨⟨h1.1,h2.1⟩,fun i hi=>hi.elim (h1.2 i) (h2.2 i)⟩
  · rw [List.pairwise_append]
    refine ⟨hap.1,List.pairwise_singleton _ _,fun a ha b hbm i hi hbi=>?_⟩
    obtain rfl:=List.mem_singleton.1 hbm
    rcases hbi with hbi | hbi
    · exact hap.2.2 a ha r (by simp) i hi hbi
    · exact hap.2.2 a ha s (by simp) i hi hbi
end
end Go.Proofs.YtgaklngnfecdaaaGreat.Zx
namespace Go.Proofs.YtgaklngnfecdaaaGreat.Pak
open Go.RowKit Zk Zx
open Sha (N xorN andN notN N_ge N_le)
open Go.Proofs.YtgaklngnfecdaaaGreat.Obj (ab_ objB aN_ U_ aM_ bl_ zB y_ aS_)
open Oct (vaN rwL rwP rwE rnL rnP rnE be vr tl M_)
open Del (scA opf OP OkO mkV encV putR ag_ aplR)
def pkL (g:Nat) (A:Option Addr) (n c:Nat) (A1:Option Addr) (c1:Nat) (A2:Option Addr) (c2:Nat) (A3:Option Addr) (c3:Nat) (its:List It) (s:Pk):List Res :=
  [row 65 2 A1 its.length c1 (its.flatMap itf),row 67 34 A2 s.os.length c2 (s.os.flatMap plO),row 3 1 A3 s.os.length c3 (s.os.map depV),wu (.slice A1 its.length c1) (.slice A2 s.os.length c2) (.slice A3 s.os.length c3) g A n c s.bs]
def OkM (w:World) (M:Nat→Prop) (p:Part):Prop:=p.ok w∧∀ ad,0 < p.n→p.A=some ad→¬ M ad.block
theorem St.okM {w0 w:World} {M:Nat→Prop} {rs:List Res} (S:St w0 M rs w) {p:Part} (h:OkM w0 M p):p.ok w:=S.rdM h.1 h.2
theorem St.okI {w0 w:World} {M:Nat→Prop} {rs:List Res} (S:St w0 M rs w) {its:List It} (h:∀ x ∈ its,OkM w0 M x.p):OkI w its:=fun x hx=>St.okM S (h x hx)
theorem q_fr {w0 w:World} {p:Part} {r:Int × List UInt8} {q:Part} (h:QOk w0 w p r q) (hr:0≤r.1):Fr w0 w 1 q.A q.n q.c (bL q.l):=by
  rcases h.src with ⟨h1,_⟩ | ⟨_,h2⟩
  · omega
  · exact ⟨h.ok,h2⟩
theorem q_eq {w0 w:World} {p:Part} {r:Int × List UInt8} {q:Part} (h:QOk w0 w p r q) (hr:r.1 = -1):q=p:=by
  rcases h.src with ⟨_,h1⟩ | ⟨h1,_⟩
  · exact h1
  · omega
theorem kindB {k:Int} (h:1≤k∧k≤4):IntKind.u8.wrap k=((UInt8.ofNat k.toNat).toNat:Int):=by
  rw [IntKind.wrap_u8,UInt8.toNat_ofNat']
  omega
theorem subU {n m:Nat} (h:m≤n) (h2:n≤1000000):IntKind.u64.wrap ((n:Int) - (m:Int))=((n - m:Nat):Int):=by
  rw [IntKind.wrap_u64]
  omega
theorem plOl (o:Ob) (k:Nat):(plO o)[32+k]?=[Value.int .i64 (o.at_:Int),.int .u32 (N o.sum)][k]?:=by
  unfold plO
  rw [List.getElem?_append_right (by rw [length_bL,Ob.id_len];omega),length_bL,Ob.id_len]
  congr 1
  omega
theorem plOl32 (o:Ob):(plO o)[32]?=some (.int .i64 (o.at_:Int)):=plOl o 0
theorem list32 {α:Type} (l:List α) (h:l.length=32):∃ a0 a1 a2 a3 a4 a5 a6 a7 a8 a9 a10 a11 a12 a13 a14 a15 a16 a17 a18 a19 a20 a21 a22 a23 a24 a25 a26 a27 a28 a29 a30 a31,l=[a0,a1,a2,a3,a4,a5,a6,a7,a8,a9,a10,a11,a12,a13,a14,a15,a16,a17,a18,a19,a20,a21,a22,a23,a24,a25,a26,a27,a28,a29,a30,a31]:=by
  match l,h with
  | [a0,a1,a2,a3,a4,a5,a6,a7,a8,a9,a10,a11,a12,a13,a14,a15,a16,a17,a18,a19,a20,a21,a22,a23,a24,a25,a26,a27,a28,a29,a30,a31],_=>exact ⟨a0,a1,a2,a3,a4,a5,a6,a7,a8,a9,a10,a11,a12,a13,a14,a15,a16,a17,a18,a19,a20,a21,a22,a23,a24,a25,a26,a27,a28,a29,a30,a31,rfl⟩
theorem built_pl {id:List UInt8} (h:id.length=32) (a s:Int):Tryz.prog.built 67 [(0,.agg (bA id)),(1,.int .i64 a),(2,.int .u32 s)]=some (bL id++[Value.int .i64 a,Value.int .u32 s]).toArray:=by
  obtain ⟨a0,a1,a2,a3,a4,a5,a6,a7,a8,a9,a10,a11,a12,a13,a14,a15,a16,a17,a18,a19,a20,a21,a22,a23,a24,a25,a26,a27,a28,a29,a30,a31,rfl⟩:=list32 id h
  kernel_rfl
theorem lay_w {s:Pk} {v:IV} {r:Int × List UInt8} (h:r.1 < 0):layO s v r=⟨s.bs++aG_ (UInt8.ofNat v.1.toNat) [] r.2,s.os++[⟨v.1,v.2,0,s.bs.length,crcL r.2⟩]⟩:=by unfold layO;rw [if_pos h]
theorem lay_m {s:Pk} {v:IV} {r:Int × List UInt8} {k:Nat} {o:Ob} (h:r.1=(k:Int)) (ho:s.os[k]?=some o):layO s v r=⟨s.bs++aG_ 5 (vr (s.bs.length - o.at_)) r.2,s.os++[⟨v.1,v.2,o.dep+1,s.bs.length,crcL r.2⟩]⟩:=by
  unfold layO
  rw [if_neg (by omega)]
  have e:r.1.toNat=k:=by omega
  unfold ofAt ofDep
  rw [e,ho]
  rfl
theorem add0 (g:Nat) (A:Option Addr) (n c:Nat) (A1:Option Addr) (c1:Nat) (A2:Option Addr) (c2:Nat) (A3:Option Addr) (c3:Nat) (its:List It) (s:Pk) (x:It) (chain:Int) (w0:World) (hw:(sepL (pkL g A n c A1 c1 A2 c2 A3 c3 its s)).holds w0) (hio:Same its s.os) (hits:∀ y ∈ its,OkM w0 (sepL (pkL g A n c A1 c1 A2 c2 A3 c3 its s)).dom y.p) (hsm:∀ y ∈ its,y.p.n≤300) (hp:OkM w0 (sepL (pkL g A n c A1 c1 A2 c2 A3 c3 its s)).dom x.p) (hp3:x.p.n≤300) (hk:1≤x.kind∧x.kind≤4) (hc8:chain≤8) (hbl:s.bs.length≤20000) (hil:its.length≤1000) (hat:∀ o ∈ s.os,o.at_≤s.bs.length) (hr:(toldV s.os chain x.kind x.p.l).1 = -1) :
    Calls Tryz.prog 57 #[.pointer (some ⟨g,0,none⟩),.agg (itf x).toArray,.agg (bA (aN_ x.kind x.p.l)),.int .i64 chain] w0 fun e w'=>∃ u,e=.returned u∧u=.tuple #[]∧∃ A' n' c' A1' c1' A2' c2' A3' c3',Turned w0 w' (sepL (pkL g A n c A1 c1 A2 c2 A3 c3 its s)) (sepL (pkL g A' n' c' A1' c1' A2' c2' A3' c3' (its++[x]) (addV chain s (x.kind,x.p.l)))):=by
 refine v_ (env:=[(0,.pointer (some ⟨g,0,none⟩)),(1,.agg (itf x).toArray),(2,.agg (bA (aN_ x.kind x.p.l))),(3,.int .i64 chain)]) [.pointer (some ⟨g,0,none⟩),.agg (itf x).toArray,.agg (bA (aN_ x.kind x.p.l)),.int .i64 chain] Tryz.func57 Z Tryz.ntmps57 Z Z ?_;have S0:=St.borrowL hw;have hnw:=wu_len (S0.get 3 Z);subst hnw;have hxb:=hp.1.lenb;have htl:=(told_ok s.os chain x.kind x.p.l).2;have hsl:=hio.len;have hneg:(toldV s.os chain x.kind x.p.l).1 < 0:=by omega
 have S0:Zx.St w0 (sepL (pkL g A s.bs.length c A1 c1 A2 c2 A3 c3 its s)).dom [row 65 2 A1 its.length c1 (its.flatMap itf),row 67 34 A2 s.os.length c2 (s.os.flatMap plO),row 3 1 A3 s.os.length c3 (s.os.map depV),wu (.slice A1 its.length c1) (.slice A2 s.os.length c2) (.slice A3 s.os.length c3) g A s.bs.length c s.bs] w0:=S0;refine a_ fun K1 hK1=>b_ (L_o (o_box Z S0 Z fun b1 w1 hb1 S1=>L_o (o_box Z S1 Z fun b2 w2 hb2 S2=>d_ (hK1 _ _ (a_ fun K2 hK2=>Rm Z Z (L_y (A_ Z) Z (L_y (f_ 0 Tryz.underlying113 Z sz110 Z Z Z) Z (L_o (o_ Tryz.func58 Z Z (wlenW g A s.bs.length c s.bs w2 (S2.get 3 Z)) Z Z ?_)))))))));rintro e3 w3 ⟨v3,rfl,l3,rfl⟩;refine ⟨_,rfl,(have S3:=S2.like l3;Lan Z Z (hK2 _ _ (a_ fun K3 hK3=>Rm Z Z (L_y (X_ Tryz.underlying65 Z sz65 Z (S3.blk 4 Z) (show _=itf x∧_ from ⟨rfl,rfl⟩)) Z (Lm Z Z (L_o (o_ Tryz.func90 Z Z (shortest g _ _ A1 its.length c1 A3 s.os.length c3 its s.os x.kind chain x.p w3 (S3.get 3 Z).1 (S3.row 0 Z) (S3.row 2 Z) hio (by omega) (St.okI S3 hits) (fun y hy=>(hsm y hy)) (St.okM S3 hp) hp3) Z Z ?_)))))))⟩;rintro e4 w4 ⟨v4,rfl,l4,q,rfl,hq⟩;refine ⟨_,rfl,?_⟩;have S4:=S3.like l4;obtain rfl:=q_eq hq hr;have hv:=hq.val;have hva:=Oct.vr_len10 x.p.n (by omega);refine Lm Z Z (L_y (j_ Z Z) Z (L_y (j_ Z Z) Z (La Z Z (Lan Z Z (hK3 _ _ (a_ fun K4 hK4=>b_ (Lan Z Z (hK4 _ _ (a_ fun K5 hK5=>a_ fun K6 hK6=>?_)))))))));refine Rm Z Z (L_y (P_ Z Z) Z (d_ (hK6 _ _ ?_)));refine n_ Z (fun h25=>?_) (fun h25=>?_)
 ·
  refine a_ fun K7 hK7=>T_tail 6 hmix (by kernel_rfl) fun w5 l5 K8 hK8=>have S5:=S4.like l5;H_ (p_ Z) Z (H_ (A_ Z) Z (H_ (f_ 0 Tryz.underlying113 Z sz110 Z Z Z) Z (H_ (f_ 0 Tryz.underlying65 Z sz3 Z Z Z) Z (H_ (t_ Tryz.underlying3 Z Z (((S5.blk 4 Z).cell _).trans (by rfl))) Z ?_))));refine H_ (T_ is3 Tryz.underlying5 Z (kindB hk)) Z (HL_nil (hK8 _ (L_o (o_ Tryz.func89 Z Z (wbyteW g A s.bs.length c (s.bs) (UInt8.ofNat x.kind.toNat) w5 (S5.get 3 Z) (by first | omega | (simp only [List.length_append,List.length_cons,List.length_nil,M_];omega))) Z Z ?_))));rintro e6 w6 ⟨v6,rfl,A6,n6,c6,T6⟩;refine ⟨_,rfl,(have S6:=S5.turn 3 Z T6;d_ (hK7 _ _ (Rm Z Z (L_y (A_ Z) Z (L_y (f_ 0 Tryz.underlying113 Z sz110 Z Z Z) Z (Lm Z Z (L_y (K_ Tryz.underlying22 Z) Z (L_y (T_ is3 Tryz.underlying102 Z (u64w (by omega))) Z (L_o (o_ Tryz.func91 Z Z (wvarW g A6 n6 c6 (s.bs++[UInt8.ofNat x.kind.toNat]) x.p.n w6 (S6.get 3 Z) (by omega) (by first | omega | (simp only [List.length_append,List.length_cons,List.length_nil,M_];omega))) Z Z ?_))))))))))⟩;rintro e7 w7 ⟨v7,rfl,A7,n7,c7,T7⟩;refine ⟨_,rfl,(have S7:=S6.turn 3 Z T7;d_ (hK5 _ _ (a_ fun K9 hK9=>Rm Z Z (L_o (aW_ [_] te155 zz22 S7 Z Z Z Z Z Z Z Z fun b8 w8 S8=>L_o (o_ Tryz.func92 Z Z (of_ _ _ _ [x.p] w8 (S8.row 6 Z) (fun y hy=>by obtain rfl:=List.mem_singleton.1 hy;exact (St.okM S8 hp))) Z Z ?_))))))⟩;rintro e9 w9 ⟨v9,rfl,l9,rfl⟩;refine ⟨_,rfl,(have S9:=S8.like l9;Lan Z Z (hK9 _ _ (a_ fun K10 hK10=>Rm Z Z (L_y (A_ Z) Z (L_y (f_ 0 Tryz.underlying113 Z sz110 Z Z Z) Z (Lm Z Z (L_o (o_ Tryz.func56 Z Z (wu32W g A7 n7 c7 (s.bs++[UInt8.ofNat x.kind.toNat]++vr x.p.n) (crcL x.p.l).toNat w9 (S9.get 3 Z) (by have:=(crcL x.p.l).toNat_lt;omega) (by first | omega | (simp only [List.length_append,List.length_cons,List.length_nil,M_];omega))) Z Z ?_))))))))⟩;rintro e10 w10 ⟨v10,rfl,A10,n10,c10,T10⟩;refine ⟨_,rfl,(have S10:=S9.turn 3 Z T10;d_ (hK10 _ _ (a_ fun K11 hK11=>Rm Z Z (L_y (A_ Z) Z (L_y (f_ 0 Tryz.underlying113 Z sz110 Z Z Z) Z (Lm Z Z (L_o (o_ Tryz.func55 Z Z (wrawW g A10 n10 c10 (s.bs++[UInt8.ofNat x.kind.toNat]++vr x.p.n++tl (crcL x.p.l).toNat 4) x.p.A x.p.n x.p.c x.p.l w10 (S10.get 3 Z) (St.okM S10 hp) (by first | omega | (simp only [List.length_append,List.length_cons,List.length_nil,M_];omega))) Z Z ?_))))))))⟩;rintro e11 w11 ⟨v11,rfl,A11,n11,c11,T11⟩;refine ⟨_,rfl,(have S11:=S10.turn 3 Z T11;d_ (hK11 _ _ (a_ fun K12 hK12=>have S12:=S11.splitAt 3 Z (wu_apart (S11.get 3 Z));T_zed [1,2,3,4,5,6] 7 [(0,0),(1,1),(2,1),(3,1),(4,1),(5,1),(6,2),(7,3),(8,3),(9,3),(10,3)] hmix (by kernel_rfl) fun w13 l13=>have S13:=S12.like l13;ZA_y Z (p_ Z) Z (ZA_B (Like w13) (Like.refl _) (O_ Z (p_ Z) Z (O_ Z (A_ Z) Z (O_ Z (f_ 1 Tryz.underlying113 Z sz48 Z Z Z) Z (O_ Z (t_ Tryz.underlying48 Z Z (((S13.blk 3 Z).cell _).trans (by rfl))) Z ?_))))))))⟩
  refine O_ Z (X_ Tryz.underlying65 Z sz65 Z (S13.blk 4 Z) (show _=itf x∧_ from ⟨rfl,rfl⟩)) Z (ZB_o Z (o_bslL (itf x) te48 zz65 S13 Z Z Z Z (by simp [Value.cells]) Z Z Z fun b14 w14 l14 S14=>?_));have q14:=l14;refine ⟨q14,(ZB_c Z (aL_ te48 S14 0 Z Z Z (by first | exact S14.row 6 Z | exact S14.row 8 Z) (fun u hu=>itf_one x u hu) Z (by omega) (by omega) fun A15 c15 w15 S15=>?_))⟩;have S15d:=S15.drop (rs':=[_,_,_,_,_,_,_,_]) (.cons_cons _ (.cons_cons _ (.cons_cons _ (.cons_cons _ (.cons_cons _ (.cons_cons _ (.cons_cons _ (.cons_cons _ (.cons _ (.refl _))))))))));refine ZA_oy Z (A_ Z) Z (ZA_oy Z (f_ 1 Tryz.underlying113 Z sz48 Z Z Z) Z (ZA_o Z (ac_ S15d 3 Z Z Z Z sz48 (by simp;done) fun w16 S16=>?_)));refine ZA_nil (hK12 _ _ (a_ fun K13 hK13=>T_zed [1,2,3,4,5,6,7,8,9] 10 [(0,0),(1,1),(2,1),(3,1),(4,1),(5,1),(6,1),(7,1),(8,1),(9,2),(10,3),(11,3),(12,3),(13,3)] hmix (by kernel_rfl) fun w17 l17=>have S17:=S16.like l17;ZA_y Z (p_ Z) Z (ZA_B (Like w17) (Like.refl _) (O_ Z (p_ Z) Z (O_ Z (A_ Z) Z (O_ Z (f_ 2 Tryz.underlying113 Z sz50 Z Z Z) Z (O_ Z (t_ Tryz.underlying50 Z Z (((S17.blk 3 Z).cell _).trans (by rfl))) Z ?_)))))));refine O_ Z (X_ Tryz.underlying41 Z ae_ Z (S17.blk 5 Z) (id_part (x.kind,x.p.l))) Z (O_ Z (p_ Z) Z (O_ Z (p_ Z) Z (O_ Z (C_ Z (built_pl (U_ _ _) _ _)) Z (ZB_o Z (o_bslL (plO (⟨x.kind,x.p.l,0,s.bs.length,crcL x.p.l⟩:Ob)) te50 zz67 S17 Z Z Z (by simp [Value.cells,length_bL,U_]) (by simp [Value.cells,plO,Ob.id];rfl) Z Z Z fun b18 w18 l18 S18=>?_)))));have q18:=l18;refine ⟨q18,(ZB_c Z (aL_ te50 S18 1 Z Z Z (by first | exact S18.row 6 Z | exact S18.row 8 Z) (fun u hu=>plO_one _ u hu) Z (by omega) (by omega) fun A19 c19 w19 S19=>?_))⟩;have S19d:=S19.drop (rs':=[_,_,_,_,_,_,_,_]) (.cons_cons _ (.cons_cons _ (.cons_cons _ (.cons_cons _ (.cons_cons _ (.cons_cons _ (.cons_cons _ (.cons_cons _ (.cons _ (.refl _))))))))));refine ZA_oy Z (A_ Z) Z (ZA_oy Z (f_ 2 Tryz.underlying113 Z sz50 Z Z Z) Z (ZA_o Z (ac_ S19d 3 Z Z Z Z sz50 (by simp;done) fun w20 S20=>?_)));refine ZA_nil (hK13 _ _ (Rm Z Z (Lm Z Z (L_y (A_ Z) Z (L_y (f_ 3 Tryz.underlying113 Z sz111 Z Z Z) Z (L_y (t_ Tryz.underlying111 Z Z (((S20.blk 3 Z).cell _).trans (by rfl))) Z ?_))))));refine Lm Z Z (L_o (aW_ [_] te111 zz3 S20 Z Z Z Z Z Z Z Z fun b21 w21 S21=>L_o (aL_ te111 S21 2 Z Z Z (by first | exact S21.row 6 Z | exact S21.row 8 Z) (by first | exact R_ _ | exact bD_ _ | (intro u hu;simp at hu;subst hu;rfl) | (simp;done) | (simp [Value.oneCell'];done)) Z (by omega) (by omega) fun A22 c22 w22 S22=>?_)))
  have S22d:=S22.drop (rs':=[_,_,_,_,_,_,_,_]) (.cons_cons _ (.cons_cons _ (.cons_cons _ (.cons_cons _ (.cons_cons _ (.cons_cons _ (.cons_cons _ (.cons_cons _ (.cons _ (.refl _))))))))));refine L_y (A_ Z) Z (L_y (f_ 3 Tryz.underlying113 Z sz111 Z Z Z) Z (L_o (ac_ S22d 3 Z Z Z Z sz111 (by simp;done) fun w23 S23=>?_)));refine d_ ?_;first | refine end0 (fn:=Tryz.f57) Z ?_ | (simp only [aU_,inB,if_true];refine end0 (fn:=Tryz.f57) Z ?_)
  have hbs:s.bs++[UInt8.ofNat x.kind.toNat]++vr x.p.n++tl (crcL x.p.l).toNat 4++x.p.l=(addV chain s (x.kind,x.p.l)).bs:=by unfold addV;rw [lay_w (s:=s) (v:=(x.kind,x.p.l)) hneg, ← hv];unfold aG_;rw [hxb];simp only [List.append_assoc,List.nil_append,List.append_nil]
  have hos:(addV chain s (x.kind,x.p.l)).os=s.os++[(⟨x.kind,x.p.l,0,s.bs.length,crcL x.p.l⟩:Ob)]:=by unfold addV;rw [lay_w (s:=s) (v:=(x.kind,x.p.l)) hneg, ← hv]
  have S80:=S23.sel [0,1,2,3,7] (by decide);have S81:=S80.rowc 0 Z (n':=its.length+1) (xs':=(its++[x]).flatMap itf) Z (by simp);have S82:=S81.rowc 1 Z (n':=s.os.length+1) (xs':=(s.os++[(⟨x.kind,x.p.l,0,s.bs.length,crcL x.p.l⟩:Ob)]).flatMap plO) Z (by simp);have S83:=S82.rowc 2 Z (n':=s.os.length+1) (xs':=(s.os++[(⟨x.kind,x.p.l,0,s.bs.length,crcL x.p.l⟩:Ob)]).map depV) Z (by simp [depV]);have S84:=S83.rowc 4 Z (n':=n11) (xs':=bL (addV chain s (x.kind,x.p.l)).bs) Z (congrArg bL hbs);have hl1:(its++[x]).length=its.length+1:=by simp
  have hl2:(addV chain s (x.kind,x.p.l)).os.length=s.os.length+1:=by rw [hos];simp
  have S85:=St.joinL (ps:=[_,_,_]) (r:=_) (s:=_) S84;have S86:Zx.St w0 _ (pkL g A11 n11 c11 A15 c15 A19 c19 A22 c22 (its++[x]) (addV chain s (x.kind,x.p.l))) w23:=S85.cast (by unfold pkL wu;rw [hl1,hl2,hos];rfl);exact ⟨_,rfl,rfl,_,_,_,_,_,_,_,_,_,S86.turnedL⟩
 ·
  omega
theorem add1 (g:Nat) (A:Option Addr) (n c:Nat) (A1:Option Addr) (c1:Nat) (A2:Option Addr) (c2:Nat) (A3:Option Addr) (c3:Nat) (its:List It) (s:Pk) (x:It) (chain:Int) (w0:World) (hw:(sepL (pkL g A n c A1 c1 A2 c2 A3 c3 its s)).holds w0) (hio:Same its s.os) (hits:∀ y ∈ its,OkM w0 (sepL (pkL g A n c A1 c1 A2 c2 A3 c3 its s)).dom y.p) (hsm:∀ y ∈ its,y.p.n≤300) (hp:OkM w0 (sepL (pkL g A n c A1 c1 A2 c2 A3 c3 its s)).dom x.p) (hp3:x.p.n≤300) (hk:1≤x.kind∧x.kind≤4) (hc8:chain≤8) (hbl:s.bs.length≤20000) (hil:its.length≤1000) (hat:∀ o ∈ s.os,o.at_≤s.bs.length) (k:Nat) (o:Ob) (hr:(toldV s.os chain x.kind x.p.l).1=(k:Int)) (ho:s.os[k]?=some o) (hod:(o.dep:Int) < chain) :
    Calls Tryz.prog 57 #[.pointer (some ⟨g,0,none⟩),.agg (itf x).toArray,.agg (bA (aN_ x.kind x.p.l)),.int .i64 chain] w0 fun e w'=>∃ u,e=.returned u∧u=.tuple #[]∧∃ A' n' c' A1' c1' A2' c2' A3' c3',Turned w0 w' (sepL (pkL g A n c A1 c1 A2 c2 A3 c3 its s)) (sepL (pkL g A' n' c' A1' c1' A2' c2' A3' c3' (its++[x]) (addV chain s (x.kind,x.p.l)))):=by
 refine v_ (env:=[(0,.pointer (some ⟨g,0,none⟩)),(1,.agg (itf x).toArray),(2,.agg (bA (aN_ x.kind x.p.l))),(3,.int .i64 chain)]) [.pointer (some ⟨g,0,none⟩),.agg (itf x).toArray,.agg (bA (aN_ x.kind x.p.l)),.int .i64 chain] Tryz.func57 Z Tryz.ntmps57 Z Z ?_;have S0:=St.borrowL hw;have hnw:=wu_len (S0.get 3 Z);subst hnw;have hxb:=hp.1.lenb;have htl:=(told_ok s.os chain x.kind x.p.l).2;have hsl:=hio.len;have hkl:=(List.getElem?_eq_some_iff.1 ho).1;have hao:=hat o (List.mem_of_getElem? ho);have hvb:=Oct.vr_len10 (s.bs.length - o.at_) (by omega);have S0:Zx.St w0 (sepL (pkL g A s.bs.length c A1 c1 A2 c2 A3 c3 its s)).dom [row 65 2 A1 its.length c1 (its.flatMap itf),row 67 34 A2 s.os.length c2 (s.os.flatMap plO),row 3 1 A3 s.os.length c3 (s.os.map depV),wu (.slice A1 its.length c1) (.slice A2 s.os.length c2) (.slice A3 s.os.length c3) g A s.bs.length c s.bs] w0:=S0;refine a_ fun K1 hK1=>b_ (L_o (o_box Z S0 Z fun b1 w1 hb1 S1=>L_o (o_box Z S1 Z fun b2 w2 hb2 S2=>d_ (hK1 _ _ (a_ fun K2 hK2=>Rm Z Z (L_y (A_ Z) Z (L_y (f_ 0 Tryz.underlying113 Z sz110 Z Z Z) Z (L_o (o_ Tryz.func58 Z Z (wlenW g A s.bs.length c s.bs w2 (S2.get 3 Z)) Z Z ?_)))))))));rintro e3 w3 ⟨v3,rfl,l3,rfl⟩;refine ⟨_,rfl,(have S3:=S2.like l3;Lan Z Z (hK2 _ _ (a_ fun K3 hK3=>Rm Z Z (L_y (X_ Tryz.underlying65 Z sz65 Z (S3.blk 4 Z) (show _=itf x∧_ from ⟨rfl,rfl⟩)) Z (Lm Z Z (L_o (o_ Tryz.func90 Z Z (shortest g _ _ A1 its.length c1 A3 s.os.length c3 its s.os x.kind chain x.p w3 (S3.get 3 Z).1 (S3.row 0 Z) (S3.row 2 Z) hio (by omega) (St.okI S3 hits) (fun y hy=>(hsm y hy)) (St.okM S3 hp) hp3) Z Z ?_)))))))⟩;rintro e4 w4 ⟨v4,rfl,l4,q,rfl,hq⟩;refine ⟨_,rfl,?_⟩;have S4:=S3.adoptF l4 (q_fr hq (by omega));have hv:=hq.val;rw [← hv] at htl;have hqn:=hq.ok.lenb;have hva:=Oct.vr_len10 q.n (by omega);refine Lm Z Z (L_y (j_ Z Z) Z (L_y (j_ Z Z) Z (La Z Z (Lan Z Z (hK3 _ _ (a_ fun K4 hK4=>b_ (Lan Z Z (hK4 _ _ (a_ fun K5 hK5=>a_ fun K6 hK6=>?_)))))))));refine Rm Z Z (L_y (P_ Z Z) Z (d_ (hK6 _ _ ?_)));refine n_ Z (fun h25=>?_) (fun h25=>?_)
 ·
  omega
 ·
  refine a_ fun K7 hK7=>Rm Z Z (L_y (A_ Z) Z (L_y (f_ 3 Tryz.underlying113 Z sz111 Z Z Z) Z (L_y (t_ Tryz.underlying111 Z Z (((S4.get 3 Z).1.cell _).trans (by rfl))) Z ?_)));refine Lm Z Z (L_y (S_ Tryz.underlying111 sz3 Z Z (S4.row 2 Z) (Nt.mk (by omega):Nt _ (k)) (by omega)) Z (L_y (y_ldr Tryz.underlying3 Z Z (S4.row 2 Z) (dep_get ho)) Z (L_y (w_ Z Z (E_ (by omega))) Z (Lan Z Z (hK7 _ _ (a_ fun K8 hK8=>Rm Z Z (L_y (A_ Z) Z (L_y (f_ 0 Tryz.underlying113 Z sz110 Z Z Z) Z (L_o (o_ Tryz.func89 Z Z (wbyteW g A s.bs.length c (s.bs) 5 w4 (S4.get 3 Z) (by first | omega | (simp only [List.length_append,List.length_cons,List.length_nil,M_];omega))) Z Z ?_))))))))));rintro e5 w5 ⟨v5,rfl,A5,n5,c5,T5⟩;refine ⟨_,rfl,(have S5:=S4.turn 3 Z T5;d_ (hK8 _ _ (a_ fun K9 hK9=>Rm Z Z (L_y (A_ Z) Z (L_y (f_ 0 Tryz.underlying113 Z sz110 Z Z Z) Z (Lm Z Z (L_y (K_ Tryz.underlying22 Z) Z (L_y (T_ is3 Tryz.underlying102 Z (u64w (by omega))) Z (L_o (o_ Tryz.func91 Z Z (wvarW g A5 n5 c5 (s.bs++[5]) q.n w5 (S5.get 3 Z) (by omega) (by first | omega | (simp only [List.length_append,List.length_cons,List.length_nil,M_];omega))) Z Z ?_))))))))))⟩;rintro e6 w6 ⟨v6,rfl,A6,n6,c6,T6⟩;refine ⟨_,rfl,(have S6:=S5.turn 3 Z T6;d_ (hK9 _ _ (T_tail 14 hmix (by kernel_rfl) fun w7 l7 K10 hK10=>have S7:=S6.like l7;H_ (p_ Z) Z (H_ (A_ Z) Z (H_ (f_ 0 Tryz.underlying113 Z sz110 Z Z Z) Z (H_ (p_ Z) Z (H_ (p_ Z) Z (H_ (A_ Z) Z (H_ (f_ 2 Tryz.underlying113 Z sz50 Z Z Z) Z (H_ (t_ Tryz.underlying50 Z Z (((S7.get 3 Z).1.cell _).trans (by rfl))) Z ?_))))))))))⟩;refine H_ (p_ Z) Z (H_ (S_ Tryz.underlying50 sz67 Z Z (S7.row 1 Z) (Nt.mk (by omega):Nt _ (k)) (by omega)) Z (H_ (aB_ 32 Tryz.underlying67 Z sz3 Z Z (S7.row 1 Z) (by omega) Z) Z (H_ (y_ldf Tryz.underlying3 Z Z (S7.row 1 Z) (by omega) ((bw_ plO 34 plO_len s.os k o ho 32 (by omega)).trans (plOl32 o))) Z (H_ (aE_ Z Z (E_ (by omega))) Z (H_ (T_ is3 Tryz.underlying102 Z (subU (by omega) (by omega))) Z (HL_nil (hK10 _ (L_o (o_ Tryz.func91 Z Z (wvarW g A6 n6 c6 (s.bs++[5]++vr q.n) (s.bs.length - o.at_) w7 (S7.get 3 Z) (by omega) (by first | omega | (simp only [List.length_append,List.length_cons,List.length_nil,M_];omega))) Z Z ?_)))))))));rintro e8 w8 ⟨v8,rfl,A8,n8,c8,T8⟩;refine ⟨_,rfl,(have S8:=S7.turn 3 Z T8;d_ (hK5 _ _ (a_ fun K11 hK11=>Rm Z Z (L_o (aW_ [_] te155 zz22 S8 Z Z Z Z Z Z Z Z fun b9 w9 S9=>L_o (o_ Tryz.func92 Z Z (of_ _ _ _ [q] w9 (S9.row 7 Z) (fun y hy=>by obtain rfl:=List.mem_singleton.1 hy;exact (S9.fix 6 Z))) Z Z ?_))))))⟩
  rintro e10 w10 ⟨v10,rfl,l10,rfl⟩;refine ⟨_,rfl,(have S10:=S9.like l10;Lan Z Z (hK11 _ _ (a_ fun K12 hK12=>Rm Z Z (L_y (A_ Z) Z (L_y (f_ 0 Tryz.underlying113 Z sz110 Z Z Z) Z (Lm Z Z (L_o (o_ Tryz.func56 Z Z (wu32W g A8 n8 c8 (s.bs++[5]++vr q.n++vr (s.bs.length - o.at_)) (crcL q.l).toNat w10 (S10.get 3 Z) (by have:=(crcL q.l).toNat_lt;omega) (by first | omega | (simp only [List.length_append,List.length_cons,List.length_nil,M_];omega))) Z Z ?_))))))))⟩;rintro e11 w11 ⟨v11,rfl,A11,n11,c11,T11⟩;refine ⟨_,rfl,(have S11:=S10.turn 3 Z T11;d_ (hK12 _ _ (a_ fun K13 hK13=>Rm Z Z (L_y (A_ Z) Z (L_y (f_ 0 Tryz.underlying113 Z sz110 Z Z Z) Z (Lm Z Z (L_o (o_ Tryz.func55 Z Z (wrawW g A11 n11 c11 (s.bs++[5]++vr q.n++vr (s.bs.length - o.at_)++tl (crcL q.l).toNat 4) q.A q.n q.c q.l w11 (S11.get 3 Z) (S11.fix 6 Z) (by first | omega | (simp only [List.length_append,List.length_cons,List.length_nil,M_];omega))) Z Z ?_))))))))⟩;rintro e12 w12 ⟨v12,rfl,A12,n12,c12,T12⟩;refine ⟨_,rfl,(have S12:=S11.turn 3 Z T12;d_ (hK13 _ _ (a_ fun K14 hK14=>have S13:=S12.splitAt 3 Z (wu_apart (S12.get 3 Z));T_zed [1,2,3,4,5,6] 7 [(0,0),(1,1),(2,1),(3,1),(4,1),(5,1),(6,2),(7,3),(8,3),(9,3),(10,3)] hmix (by kernel_rfl) fun w14 l14=>have S14:=S13.like l14;ZA_y Z (p_ Z) Z (ZA_B (Like w14) (Like.refl _) (O_ Z (p_ Z) Z (O_ Z (A_ Z) Z (O_ Z (f_ 1 Tryz.underlying113 Z sz48 Z Z Z) Z (O_ Z (t_ Tryz.underlying48 Z Z (((S14.blk 3 Z).cell _).trans (by rfl))) Z ?_))))))))⟩;refine O_ Z (X_ Tryz.underlying65 Z sz65 Z (S14.blk 4 Z) (show _=itf x∧_ from ⟨rfl,rfl⟩)) Z (ZB_o Z (o_bslL (itf x) te48 zz65 S14 Z Z Z Z (by simp [Value.cells]) Z Z Z fun b15 w15 l15 S15=>?_));have q15:=l15;refine ⟨q15,(ZB_c Z (aL_ te48 S15 0 Z Z Z (by first | exact S15.row 7 Z | exact S15.row 9 Z) (fun u hu=>itf_one x u hu) Z (by omega) (by omega) fun A16 c16 w16 S16=>?_))⟩;have S16d:=S16.drop (rs':=[_,_,_,_,_,_,_,_,_]) (.cons_cons _ (.cons_cons _ (.cons_cons _ (.cons_cons _ (.cons_cons _ (.cons_cons _ (.cons_cons _ (.cons_cons _ (.cons_cons _ (.cons _ (.refl _)))))))))));refine ZA_oy Z (A_ Z) Z (ZA_oy Z (f_ 1 Tryz.underlying113 Z sz48 Z Z Z) Z (ZA_o Z (ac_ S16d 3 Z Z Z Z sz48 (by simp;done) fun w17 S17=>?_)));refine ZA_nil (hK14 _ _ (a_ fun K15 hK15=>T_zed [1,2,3,4,5,6,7,8,9] 10 [(0,0),(1,1),(2,1),(3,1),(4,1),(5,1),(6,1),(7,1),(8,1),(9,2),(10,3),(11,3),(12,3),(13,3)] hmix (by kernel_rfl) fun w18 l18=>have S18:=S17.like l18;ZA_y Z (p_ Z) Z (ZA_B (Like w18) (Like.refl _) (O_ Z (p_ Z) Z (O_ Z (A_ Z) Z (O_ Z (f_ 2 Tryz.underlying113 Z sz50 Z Z Z) Z (O_ Z (t_ Tryz.underlying50 Z Z (((S18.blk 3 Z).cell _).trans (by rfl))) Z ?_)))))))
  refine O_ Z (X_ Tryz.underlying41 Z ae_ Z (S18.blk 5 Z) (id_part (x.kind,x.p.l))) Z (O_ Z (p_ Z) Z (O_ Z (p_ Z) Z (O_ Z (C_ Z (built_pl (U_ _ _) _ _)) Z (ZB_o Z (o_bslL (plO (⟨x.kind,x.p.l,o.dep+1,s.bs.length,crcL q.l⟩:Ob)) te50 zz67 S18 Z Z Z (by simp [Value.cells,length_bL,U_]) (by simp [Value.cells,plO,Ob.id];rfl) Z Z Z fun b19 w19 l19 S19=>?_)))));have q19:=l19;refine ⟨q19,(ZB_c Z (aL_ te50 S19 1 Z Z Z (by first | exact S19.row 7 Z | exact S19.row 9 Z) (fun u hu=>plO_one _ u hu) Z (by omega) (by omega) fun A20 c20 w20 S20=>?_))⟩;have S20d:=S20.drop (rs':=[_,_,_,_,_,_,_,_,_]) (.cons_cons _ (.cons_cons _ (.cons_cons _ (.cons_cons _ (.cons_cons _ (.cons_cons _ (.cons_cons _ (.cons_cons _ (.cons_cons _ (.cons _ (.refl _)))))))))));refine ZA_oy Z (A_ Z) Z (ZA_oy Z (f_ 2 Tryz.underlying113 Z sz50 Z Z Z) Z (ZA_o Z (ac_ S20d 3 Z Z Z Z sz50 (by simp;done) fun w21 S21=>?_)));refine ZA_nil (hK15 _ _ (Rm Z Z (Lm Z Z (L_y (A_ Z) Z (L_y (f_ 3 Tryz.underlying113 Z sz111 Z Z Z) Z (L_y (t_ Tryz.underlying111 Z Z (((S21.blk 3 Z).cell _).trans (by rfl))) Z ?_))))));refine Lm Z Z (L_o (aW_ [_] te111 zz3 S21 Z Z Z Z Z Z Z Z fun b22 w22 S22=>L_o (aL_ te111 S22 2 Z Z Z (by first | exact S22.row 7 Z | exact S22.row 9 Z) (by first | exact R_ _ | exact bD_ _ | (intro u hu;simp at hu;subst hu;rfl) | (simp;done) | (simp [Value.oneCell'];done)) Z (by omega) (by omega) fun A23 c23 w23 S23=>?_)));have S23d:=S23.drop (rs':=[_,_,_,_,_,_,_,_,_]) (.cons_cons _ (.cons_cons _ (.cons_cons _ (.cons_cons _ (.cons_cons _ (.cons_cons _ (.cons_cons _ (.cons_cons _ (.cons_cons _ (.cons _ (.refl _)))))))))));refine L_y (A_ Z) Z (L_y (f_ 3 Tryz.underlying113 Z sz111 Z Z Z) Z (L_o (ac_ S23d 3 Z Z Z Z sz111 (by simp;done) fun w24 S24=>?_)));refine d_ ?_;first | refine end0 (fn:=Tryz.f57) Z ?_ | (simp only [aU_,inB,if_true];refine end0 (fn:=Tryz.f57) Z ?_)
  have hbs:s.bs++[5]++vr q.n++vr (s.bs.length - o.at_)++tl (crcL q.l).toNat 4++q.l=(addV chain s (x.kind,x.p.l)).bs:=by unfold addV;rw [lay_m (s:=s) (v:=(x.kind,x.p.l)) hr ho, ← hv];unfold aG_;rw [hqn];simp only [List.append_assoc,List.nil_append,List.append_nil]
  have hos:(addV chain s (x.kind,x.p.l)).os=s.os++[(⟨x.kind,x.p.l,o.dep+1,s.bs.length,crcL q.l⟩:Ob)]:=by unfold addV;rw [lay_m (s:=s) (v:=(x.kind,x.p.l)) hr ho, ← hv]
  have S80:=S24.sel [0,1,2,3,8] (by decide);have S81:=S80.rowc 0 Z (n':=its.length+1) (xs':=(its++[x]).flatMap itf) Z (by simp);have S82:=S81.rowc 1 Z (n':=s.os.length+1) (xs':=(s.os++[(⟨x.kind,x.p.l,o.dep+1,s.bs.length,crcL q.l⟩:Ob)]).flatMap plO) Z (by simp);have S83:=S82.rowc 2 Z (n':=s.os.length+1) (xs':=(s.os++[(⟨x.kind,x.p.l,o.dep+1,s.bs.length,crcL q.l⟩:Ob)]).map depV) Z (by simp [depV]);have S84:=S83.rowc 4 Z (n':=n12) (xs':=bL (addV chain s (x.kind,x.p.l)).bs) Z (congrArg bL hbs);have hl1:(its++[x]).length=its.length+1:=by simp
  have hl2:(addV chain s (x.kind,x.p.l)).os.length=s.os.length+1:=by rw [hos];simp
  have S85:=St.joinL (ps:=[_,_,_]) (r:=_) (s:=_) S84;have S86:Zx.St w0 _ (pkL g A12 n12 c12 A16 c16 A20 c20 A23 c23 (its++[x]) (addV chain s (x.kind,x.p.l))) w24:=S85.cast (by unfold pkL wu;rw [hl1,hl2,hos];rfl);exact ⟨_,rfl,rfl,_,_,_,_,_,_,_,_,_,S86.turnedL⟩
end Go.Proofs.YtgaklngnfecdaaaGreat.Pak
namespace Go.Proofs.YtgaklngnfecdaaaGreat.Pak
open Go.RowKit Zk Zx
open Sha (N)
open Oct (vaN rwL rwP rwE rnL rnP rnE be tkP tkE numF)
structure EV where
  kind:Int
  base:Int
  fin:Nat
  sum:UInt32
  load:List UInt8
def zE:EV:=⟨0,0,0,0,[]⟩
def opR (t:List UInt8) (at_:Nat) (kind base:Int) (size:Nat) (p q:Nat):Int × EV :=
  if rnE t (rwP t p q 4) (rwE t p q 4) (size:Int)≠0 then ((rnE t (rwP t p q 4) (rwE t p q 4) (size:Int):Int),zE)
  else if (crcL (rnL t (rwP t p q 4) (rwE t p q 4) (size:Int))).toNat≠be (rwL t p q 4) then (13,zE)
  else (0,⟨kind,base,at_+rnP t (rwP t p q 4) (rwE t p q 4) (size:Int),crcL (rnL t (rwP t p q 4) (rwE t p q 4) (size:Int)),rnL t (rwP t p q 4) (rwE t p q 4) (size:Int)⟩)
def opM (t:List UInt8) (at_:Nat) (deep:Bool) (size p q:Nat):Int × EV :=
  if (vaN t p q 1048576).2.2=0∧((vaN t p q 1048576).1=0∨(at_:Int) - (vaN t p q 1048576).1 < 12) then (21,zE)
  else if (vaN t p q 1048576).2.2=0∧deep=true then (20,zE)
  else opR t at_ 5 ((at_:Int) - (vaN t p q 1048576).1) size (vaN t p q 1048576).2.1 (vaN t p q 1048576).2.2
def opT (t:List UInt8) (x:UInt8) (at_:Nat) (deep:Bool):Int × EV :=
  if x.toNat < 1∨5 < x.toNat then (19,zE)
  else if x.toNat=5 then opM t at_ deep (vaN t 1 0 4000).1 (vaN t 1 0 4000).2.1 (vaN t 1 0 4000).2.2
  else opR t at_ (x.toNat:Int) 0 (vaN t 1 0 4000).1 (vaN t 1 0 4000).2.1 (vaN t 1 0 4000).2.2
def tailB (b:List UInt8) (at_:Nat):List UInt8:=(b.drop at_).take (b.length - 32 - at_)
def opV (b:List UInt8) (at_:Int) (deep:Bool):Int × EV :=
  if b.length < 44 then (10,zE) else if at_ < 12∨(b.length:Int) - 32≤at_ then (2,zE)
  else opT (tailB b at_.toNat) (b[at_.toNat]?.getD 0) at_.toNat deep
section
variable {b : List UInt8} {at_ : Int} {deep : Bool}
theorem opV_10 (h:b.length < 44):opV b at_ deep=(10,zE):=by unfold opV;rw [if_pos h]
theorem opV_2 (h:¬ b.length < 44) (h2:at_ < 12∨(b.length:Int) - 32≤at_):opV b at_ deep=(2,zE):=by unfold opV;rw [if_neg h,if_pos h2]
theorem opV_t (h:¬ b.length < 44) (h2:¬ (at_ < 12∨(b.length:Int) - 32≤at_)) {x:UInt8} (hx:b[at_.toNat]?=some x):opV b at_ deep=opT (tailB b at_.toNat) x at_.toNat deep:=by unfold opV;rw [if_neg h,if_neg h2,hx];rfl
theorem tailB_len {n:Nat} (h:¬ b.length < 44) (h2:n < b.length - 32):(tailB b n).length=b.length - 32 - n:=by unfold tailB;rw [List.length_take,List.length_drop];omega
theorem tailB_0 {n:Nat} (h:¬ b.length < 44) (h2:n < b.length - 32):(tailB b n)[0]?=b[n]?:=by
  unfold tailB
  rw [List.getElem?_take,if_pos (by omega),List.getElem?_drop,Nat.add_zero]
end
section
variable {t : List UInt8} {at_ : Nat} {deep : Bool} {x : UInt8} {size p q : Nat} {kind base : Int}
theorem opT_19 (h:x.toNat < 1∨5 < x.toNat):opT t x at_ deep=(19,zE):=by unfold opT;rw [if_pos h]
theorem opT_5 (h:x.toNat=5):opT t x at_ deep=opM t at_ deep (vaN t 1 0 4000).1 (vaN t 1 0 4000).2.1 (vaN t 1 0 4000).2.2:=by unfold opT;rw [if_neg (by omega),if_pos h]
theorem opT_w (h:¬ (x.toNat < 1∨5 < x.toNat)) (h5:x.toNat≠5):opT t x at_ deep=opR t at_ (x.toNat:Int) 0 (vaN t 1 0 4000).1 (vaN t 1 0 4000).2.1 (vaN t 1 0 4000).2.2:=by unfold opT;rw [if_neg h,if_neg h5]
theorem opM_21 (h:(vaN t p q 1048576).2.2=0) (h2:(vaN t p q 1048576).1=0∨(at_:Int) - (vaN t p q 1048576).1 < 12):opM t at_ deep size p q=(21,zE):=by unfold opM;rw [if_pos ⟨h,h2⟩]
theorem opM_20 (h:(vaN t p q 1048576).2.2=0) (h2:¬ ((vaN t p q 1048576).1=0∨(at_:Int) - (vaN t p q 1048576).1 < 12)) (h3:deep=true):opM t at_ deep size p q=(20,zE):=by unfold opM;rw [if_neg (fun q=>h2 q.2),if_pos ⟨h,h3⟩]
theorem opM_r (h:(vaN t p q 1048576).2.2≠0∨(¬ ((vaN t p q 1048576).1=0∨(at_:Int) - (vaN t p q 1048576).1 < 12)∧deep=false)):opM t at_ deep size p q=opR t at_ 5 ((at_:Int) - (vaN t p q 1048576).1) size (vaN t p q 1048576).2.1 (vaN t p q 1048576).2.2:=by
  unfold opM
  rw [if_neg (fun q=>h.elim (fun r=>r q.1) (fun r=>r.1 q.2)),if_neg (fun q=>h.elim (fun r=>r q.1) (fun r=>by rw [r.2] at q;cases q.2))]
theorem opR_e (h:rnE t (rwP t p q 4) (rwE t p q 4) (size:Int)≠0):opR t at_ kind base size p q=((rnE t (rwP t p q 4) (rwE t p q 4) (size:Int):Int),zE):=by unfold opR;rw [if_pos h]
theorem opR_13 (h:rnE t (rwP t p q 4) (rwE t p q 4) (size:Int)=0) (h2:(crcL (rnL t (rwP t p q 4) (rwE t p q 4) (size:Int))).toNat≠be (rwL t p q 4)):opR t at_ kind base size p q=(13,zE):=by unfold opR;rw [if_neg (fun q=>q h),if_pos h2]
theorem opR_ok (h:rnE t (rwP t p q 4) (rwE t p q 4) (size:Int)=0) (h2:¬ (crcL (rnL t (rwP t p q 4) (rwE t p q 4) (size:Int))).toNat≠be (rwL t p q 4)):opR t at_ kind base size p q=(0,⟨kind,base,at_+rnP t (rwP t p q 4) (rwE t p q 4) (size:Int),crcL (rnL t (rwP t p q 4) (rwE t p q 4) (size:Int)),rnL t (rwP t p q 4) (rwE t p q 4) (size:Int)⟩):=by unfold opR;rw [if_neg (fun q=>q h),if_neg h2]
theorem rwE_dead {k:Nat} (h:q≠0):rwE t p q k=q:=by unfold rwE;rw [if_neg h]
theorem rnE_dead {m:Int} (h:q≠0):rnE t p q m=q:=by
  unfold rnE
  split
  · first | rfl | rw [if_pos h]
  · exact rwE_dead h
theorem rnL_len (m:Nat):(rnL t p q (m:Int)).length≤m:=by
  unfold rnL
  rw [if_neg (by omega)]
  exact Oct.rw_le _ _ _ _
theorem opR_all:(opR t at_ kind base size p q).1=0→q=0∧(opR t at_ kind base size p q).2.kind=kind∧(opR t at_ kind base size p q).2.base=base∧(opR t at_ kind base size p q).2.load.length≤size∧(opR t at_ kind base size p q).2.sum=crcL (opR t at_ kind base size p q).2.load:=by
  by_cases h:rnE t (rwP t p q 4) (rwE t p q 4) (size:Int)=0
  · have hq:q=0:=Classical.byContradiction fun hq=>by
      rw [rwE_dead hq,rnE_dead hq] at h
      exact hq h
    by_cases h2:(crcL (rnL t (rwP t p q 4) (rwE t p q 4) (size:Int))).toNat≠be (rwL t p q 4)
    · rw [opR_13 h h2];intro h3;exact absurd h3 (by decide)
    · rw [opR_ok h h2]
      exact fun _=>⟨hq,rfl,rfl,rnL_len _,rfl⟩
  · rw [opR_e h]
    intro h3
    exact absurd h3 (by show ((rnE t (rwP t p q 4) (rwE t p q 4) (size:Int):Nat):Int)≠0;omega)
end
theorem vaN_m (d:List UInt8) (p q m:Nat):(vaN d p q m).1≤m:=by
  unfold vaN
  repeat' split
  all_goals (dsimp only;omega)
structure EOk (at_:Int) (deep:Bool) (x:EV):Prop where
  k1:1≤x.kind
  k5:x.kind≤5
  len:x.load.length≤4000
  sum:x.sum=crcL x.load
  base:x.kind=5→12≤x.base∧x.base < at_∧deep=false
theorem opT_ok {t:List UInt8} {x:UInt8} {at_:Nat} {deep:Bool} (h:(opT t x at_ deep).1=0):EOk (at_:Int) deep (opT t x at_ deep).2:=by
  by_cases h1:x.toNat < 1∨5 < x.toNat
  · rw [opT_19 h1] at h;exact absurd h (by decide)
  · have hs := vaN_m t 1 0 4000
    by_cases h5:x.toNat=5
    · rw [opT_5 h5] at h ⊢
      by_cases g1:(vaN t (vaN t 1 0 4000).2.1 (vaN t 1 0 4000).2.2 1048576).2.2=0
      · by_cases g2:(vaN t (vaN t 1 0 4000).2.1 (vaN t 1 0 4000).2.2 1048576).1=0∨(at_:Int) - (vaN t (vaN t 1 0 4000).2.1 (vaN t 1 0 4000).2.2 1048576).1 < 12
        · rw [opM_21 g1 g2] at h;exact absurd h (by decide)
        · cases hd:deep with
          | true=>rw [opM_20 g1 g2 hd] at h;exact absurd h (by decide)
          | false =>
            rw [hd] at h
            rw [opM_r (.inr ⟨g2,rfl⟩)] at h ⊢
            obtain ⟨_,e1,e2,e3,e4⟩:=opR_all h
            exact ⟨by omega,by omega,by omega,e4,fun _=>by rw [e2];exact ⟨by omega,by omega,rfl⟩⟩
      · rw [opM_r (.inl g1)] at h
        exact absurd (opR_all h).1 g1
    · rw [opT_w h1 h5] at h ⊢
      obtain ⟨_,e1,e2,e3,e4⟩:=opR_all h
      exact ⟨by omega,by omega,by omega,e4,fun q=>by omega⟩
theorem opV_ok {b:List UInt8} {at_:Int} {deep:Bool} (h:(opV b at_ deep).1=0):EOk at_ deep (opV b at_ deep).2∧12≤at_∧at_ < (b.length:Int) - 32∧¬ b.length < 44:=by
  by_cases h1:b.length < 44
  · rw [opV_10 h1] at h;exact absurd h (by decide)
  · by_cases h2:at_ < 12∨(b.length:Int) - 32≤at_
    · rw [opV_2 h1 h2] at h;exact absurd h (by decide)
    · have e:b[at_.toNat]?=some (b[at_.toNat]?.getD 0):=by
        rw [List.getElem?_eq_getElem (by omega)];rfl
      rw [opV_t h1 h2 e] at h ⊢
      have h3:=opT_ok h
      rw [Int.toNat_of_nonneg (by omega)] at h3
      exact ⟨h3,by omega,by omega,h1⟩
def aplO (ld:List UInt8) (r:Int × List UInt8 × Int):Int × List UInt8 × Int :=
  if r.2.2≠0 then (0,[],r.2.2)
  else if (Del.ag_ ld).2.2.2≠0 then (0,[],(Del.ag_ ld).2.2.2)
  else if (Del.aplR r.2.1 (Del.ag_ ld).1 (Del.ag_ ld).2.1 (Del.ag_ ld).2.2.1).2≠0 then (0,[],(Del.aplR r.2.1 (Del.ag_ ld).1 (Del.ag_ ld).2.1 (Del.ag_ ld).2.2.1).2)
  else (r.1,(Del.aplR r.2.1 (Del.ag_ ld).1 (Del.ag_ ld).2.1 (Del.ag_ ld).2.2.1).1,0)
section
variable {ld : List UInt8} {r : Int × List UInt8 × Int} {e : Int}
theorem aplO_1 (h:r.2.2=e) (he:e≠0):aplO ld r=(0,[],e):=by subst h;unfold aplO;rw [if_pos he]
theorem aplO_2 (h:r.2.2=0) (h2:(Del.ag_ ld).2.2.2≠0):aplO ld r=(0,[],(Del.ag_ ld).2.2.2):=by unfold aplO;rw [if_neg (fun q=>q h),if_pos h2]
theorem aplO_3 (h:r.2.2=0) (h2:(Del.ag_ ld).2.2.2=0) (h3:(Del.aplR r.2.1 (Del.ag_ ld).1 (Del.ag_ ld).2.1 (Del.ag_ ld).2.2.1).2≠0):aplO ld r=(0,[],(Del.aplR r.2.1 (Del.ag_ ld).1 (Del.ag_ ld).2.1 (Del.ag_ ld).2.2.1).2):=by unfold aplO;rw [if_neg (fun q=>q h),if_neg (fun q=>q h2),if_pos h3]
theorem aplO_4 (h:r.2.2=0) (h2:(Del.ag_ ld).2.2.2=0) (h3:(Del.aplR r.2.1 (Del.ag_ ld).1 (Del.ag_ ld).2.1 (Del.ag_ ld).2.2.1).2=0):aplO ld r=(r.1,(Del.aplR r.2.1 (Del.ag_ ld).1 (Del.ag_ ld).2.1 (Del.ag_ ld).2.2.1).1,0):=by unfold aplO;rw [if_neg (fun q=>q h),if_neg (fun q=>q h2),if_neg (fun q=>q h3)]
end
def rdF (b:List UInt8):Nat→Int→Int × List UInt8 × Int
  | 0,at_=>if (opV b at_ true).1≠0 then (0,[],(opV b at_ true).1) else ((opV b at_ true).2.kind,(opV b at_ true).2.load,0)
  | f+1,at_=>if (opV b at_ false).1≠0 then (0,[],(opV b at_ false).1) else if (opV b at_ false).2.kind=5 then aplO (opV b at_ false).2.load (rdF b f (opV b at_ false).2.base) else ((opV b at_ false).2.kind,(opV b at_ false).2.load,0)
def rest (b:List UInt8) (f:Nat) (x:EV):Int × List UInt8 × Int:=if x.kind=5 then aplO x.load (rdF b f x.base) else (x.kind,x.load,0)
theorem rdF_e {b:List UInt8} {f:Nat} {at_:Int} {e:Int} (h:(opV b at_ (f == 0)).1=e) (he:e≠0):rdF b f at_=(0,[],e):=by
  subst h
  cases f with
  | zero=>unfold rdF;exact if_pos he
  | succ f=>unfold rdF;exact if_pos he
theorem rdF_ok {b:List UInt8} {f:Nat} {at_:Int} (h:(opV b at_ (f == 0)).1=0):rdF b f at_=rest b (f - 1) (opV b at_ (f == 0)).2:=by
  cases f with
  | zero =>
    have hk:=(opV_ok h).1
    have h5:(opV b at_ (0 == 0)).2.kind≠5:=fun q=>by have:=(hk.base q).2.2;cases this
    unfold rdF rest
    rw [if_neg (fun q=>q h),if_neg h5]
    rfl
  | succ f =>
    have h2:(f+1 == 0)=false:=rfl
    rw [h2] at h ⊢
    unfold rest
    conv=>lhs;unfold rdF
    rw [if_neg (fun q=>q h)]
    rfl
def readP (b:List UInt8) (at_:Int):Int × List UInt8 × Int:=rdF b 8 at_
theorem foldr_snoc (ls:List (List UInt8)) (ld:List UInt8) (r:Int × List UInt8 × Int):(ls++[ld]).foldr aplO r=ls.foldr aplO (aplO ld r):=by simp
theorem foldr_err (ls:List (List UInt8)) {e:Int} (he:e≠0):ls.foldr aplO (0,[],e)=(0,[],e):=by
  induction ls with
  | nil=>rfl
  | cons x ls ih=>rw [List.foldr_cons,ih];exact aplO_1 Z he
section
variable {d t : List UInt8} {a : Nat}
end
theorem tail_take {b:List UInt8} {n:Nat}:tailB b n=(b.take (b.length - 32)).drop n:=by
  unfold tailB
  rw [List.drop_take]
end Go.Proofs.YtgaklngnfecdaaaGreat.Pak
namespace Go.Proofs.YtgaklngnfecdaaaGreat.Pak
open Go.RowKit Zk Zx
end Go.Proofs.YtgaklngnfecdaaaGreat.Pak
namespace Go.Proofs.YtgaklngnfecdaaaGreat.Pak
open Go.RowKit Zk Zx
open Sha (N)
open Go.Proofs.YtgaklngnfecdaaaGreat.Obj (ab_ objB aN_ U_)
open Oct (vaN rwL rwP rwE rnL rnP rnE be tkP tkE numF vr tl M_)
theorem be_tl {v:Nat} (h:v < 4294967296):be (tl v 4)=v:=by
  simp only [tl,be,List.foldl,UInt8.toNat_ofNat']
  omega
theorem rw_at {t r s:List UInt8} {p k:Nat} (h:t.drop p=r++s) (hk:r.length=k):rwL t p 0 k=r∧rwP t p 0 k=p+k∧rwE t p 0 k=0:=by
  have hl:k≤t.length - p:=by
    have:=congrArg List.length h
    rw [List.length_drop,List.length_append] at this
    omega
  unfold rwL rwP rwE Oct.tkL tkP tkE
  rw [if_pos Z,if_pos Z,if_pos Z,if_pos hl,if_pos hl,if_pos hl,h]
  exact ⟨by rw [← hk];simp,rfl,rfl⟩
theorem rn_at {t r s:List UInt8} {p k:Nat} (h:t.drop p=r++s) (hk:r.length=k):rnL t p 0 (k:Int)=r∧rnP t p 0 (k:Int)=p+k∧rnE t p 0 (k:Int)=0:=by
  obtain ⟨h1,h2,h3⟩:=Oct.rn_nat t p 0 k
  rw [h1,h2,h3]
  exact rw_at h hk
theorem va_at {t r:List UInt8} {p v m:Nat} (h:t.drop p=vr v++r) (hm:v≤m) (h64:v≤18446744073709551615):vaN t p 0 m=(v,p+(vr v).length,0):=by
  unfold vaN
  rw [if_neg (by omega),h,Oct.numF_of_vr r v h64,if_neg (by show ¬ (0:Nat)≠0;omega),if_neg (by show ¬ m < v;omega)]
theorem drop_add {t r s:List UInt8} {p:Nat} (h:t.drop p=r++s):t.drop (p+r.length)=s:=by
  rw [← List.drop_drop,h,List.drop_left]
theorem opR_at {t load post:List UInt8} {at_:Nat} {kind base:Int} {p:Nat} (h:t.drop p=tl (crcL load).toNat 4++(load++post)):opR t at_ kind base load.length p 0=(0,⟨kind,base,at_+(p+4+load.length),crcL load,load⟩):=by
  obtain ⟨e1,e2,e3⟩:=rw_at h (M_ _ 4)
  have h2:=drop_add h
  rw [M_] at h2
  obtain ⟨f1,f2,f3⟩:=rn_at h2 Z
  rw [opR_ok (by rw [e2,e3,f3]) (by rw [e1,e2,e3,f1,be_tl (crcL load).toNat_lt];omega),e2,e3,f1,f2]
theorem ent_whole {x:UInt8} {load post:List UInt8} {at_:Nat} {deep:Bool} (h1:1≤x.toNat) (h4:x.toNat≤4) (hl:load.length≤4000) :
    opT (aG_ x [] load++post) x at_ deep=(0,⟨(x.toNat:Int),0,at_+(aG_ x [] load).length,crcL load,load⟩):=by
  have d1:(aG_ x [] load++post).drop 1=vr load.length++(tl (crcL load).toNat 4++(load++post)):=by simp [aG_]
  have v1:=va_at d1 hl (by omega)
  have d2:=drop_add d1
  rw [opT_w (by omega) (by omega),v1,opR_at d2]
  have:1+(vr load.length).length+4+load.length=(aG_ x [] load).length:=by simp [aG_,M_];omega
  rw [this]
theorem ent_made {back:Nat} {load post:List UInt8} {at_:Nat} (hl:load.length≤4000) (hb:1≤back) (hb2:back+12≤at_) (hm:at_≤1048576) :
    opT (aG_ 5 (vr back) load++post) 5 at_ false=(0,⟨5,(at_:Int) - back,at_+(aG_ 5 (vr back) load).length,crcL load,load⟩):=by
  have d1:(aG_ 5 (vr back) load++post).drop 1=vr load.length++(vr back++(tl (crcL load).toNat 4++(load++post))):=by simp [aG_]
  have v1:=va_at d1 hl (by omega)
  have d2:=drop_add d1
  have v2:=va_at (m:=1048576) d2 (by omega) (by omega)
  have d3:=drop_add d2
  rw [opT_5 Z,v1,opM_r (.inr ⟨by dsimp only;rw [v2];dsimp only;omega,rfl⟩)]
  dsimp only
  rw [v2,opR_at d3]
  have:1+(vr load.length).length+(vr back).length+4+load.length=(aG_ 5 (vr back) load).length:=by simp [aG_,M_];omega
  rw [this]
def nx (os:List Ob) (bs:List UInt8) (k:Nat):Nat:=os[k+1]?.elim bs.length Ob.at_
theorem nx_more {os:List Ob} {bs ex:List UInt8} {q:Ob} {k:Nat} (hk:k < os.length) (hq:q.at_=bs.length):nx (os++[q]) (bs++ex) k=nx os bs k:=by
  unfold nx
  rcases Nat.lt_or_ge (k+1) os.length with g | g
  · rw [List.getElem?_append_left g,List.getElem?_eq_getElem g];rfl
  · have e:os.length=k+1:=by omega
    rw [← e,List.getElem?_concat_length,List.getElem?_eq_none (by omega)]
    exact hq
structure Laid1 (os:List Ob) (bs:List UInt8) (o:Ob) (k:Nat):Prop where
  at12:12≤o.at_
  lt:o.at_ < bs.length
  dep:o.dep≤8
  ent:(∃ x post,bs.drop o.at_=aG_ x [] o.l++post∧(x.toNat:Int)=o.kind∧o.dep=0∧o.sum=crcL o.l∧o.at_+(aG_ x [] o.l).length=nx os bs k) ∨
    (∃ j p post,j < k∧os[j]?=some p∧p.at_ < o.at_∧p.kind=o.kind∧o.dep=p.dep+1∧o.sum=crcL (scB p.l o.l)∧(scB p.l o.l).length < o.l.length∧bs.drop o.at_=aG_ 5 (vr (o.at_ - p.at_)) (scB p.l o.l)++post∧o.at_+(aG_ 5 (vr (o.at_ - p.at_)) (scB p.l o.l)).length=nx os bs k)
structure LaidAll (s:Pk):Prop where
  each:∀ k o,s.os[k]?=some o→Laid1 s.os s.bs o k
  kinds:∀ o ∈ s.os,1≤o.kind∧o.kind≤4
  short:∀ o ∈ s.os,o.l.length≤300
theorem Laid1.more {os:List Ob} {bs ex:List UInt8} {o q:Ob} {k:Nat} (h:Laid1 os bs o k) (hk:k < os.length) (hq:q.at_=bs.length):Laid1 (os++[q]) (bs++ex) o k:=by
  have hlt:=h.lt
  refine ⟨h.at12,by rw [List.length_append];omega,h.dep,?_⟩
  rcases h.ent with ⟨x,post,e,u1,u2,u3,u4⟩ | ⟨j,p,post,hj,hp,r1,r2,r3,r4,r5,e,u4⟩
  · exact .inl ⟨x,post++ex,by rw [List.drop_append_of_le_length (by omega),e,List.append_assoc],u1,u2,u3,by rw [nx_more hk hq];exact u4⟩
  · exact .inr ⟨j,p,post++ex,hj,by rw [List.getElem?_append_left (by omega)];exact hp,r1,r2,r3,r4,r5,by rw [List.drop_append_of_le_length (by omega),e,List.append_assoc],by rw [nx_more hk hq];exact u4⟩
theorem addV_laid {chain:Int} (hc:chain≤8) {s:Pk} {v:IV} (h:LaidAll s) (hk:1≤v.1∧v.1≤4) (hl:v.2.length≤300) (h12:12≤s.bs.length) (hbs:s.bs.length≤20000):LaidAll (addV chain s v):=by
  obtain ⟨ht,htl⟩:=told_ok s.os chain v.1 v.2
  have old:∀ (q:Ob) (ex:List UInt8) (k:Nat) (o:Ob),s.os[k]?=some o→q.at_=s.bs.length→Laid1 (s.os++[q]) (s.bs++ex) o k:=fun q ex k o ho hq=>(h.each k o ho).more (List.getElem?_eq_some_iff.1 ho).1 hq
  have fin:∀ (q:Ob) (ex:List UInt8),q.kind=v.1→q.l=v.2→q.at_=s.bs.length→Laid1 (s.os++[q]) (s.bs++ex) q s.os.length→LaidAll ⟨s.bs++ex,s.os++[q]⟩:=fun q ex e1 e2 e3 hq=>by
    refine ⟨fun k o ho=>?_,fun o ho=>?_,fun o ho=>?_⟩
    · rcases Nat.lt_or_ge k s.os.length with g | g
      · rw [List.getElem?_append_left g] at ho
        exact old q ex k o ho e3
      · have hk2:=(List.getElem?_eq_some_iff.1 ho).1
        simp at hk2
        obtain rfl:k=s.os.length:=by omega
        rw [List.getElem?_concat_length] at ho
        cases ho
        exact hq
    · rcases List.mem_append.1 ho with ho | ho
      · exact h.kinds o ho
      · obtain rfl:=List.mem_singleton.1 ho
        rw [e1];exact hk
    · rcases List.mem_append.1 ho with ho | ho
      · exact h.short o ho
      · obtain rfl:=List.mem_singleton.1 ho
        rw [e2];exact hl
  unfold addV layO
  rcases ht with ⟨r1,r2⟩ | ⟨j,o,r1,ho,g1,g2,g3,g4⟩
  · rw [if_pos (by omega)]
    refine fin _ _ Z Z Z ⟨h12,by simp [aG_] <;> omega,by show (0:Nat)≤8;omega,.inl ⟨UInt8.ofNat v.1.toNat,[],?_,?_,rfl,by rw [r2],by rw [r2];unfold nx;rw [List.getElem?_eq_none (by simp)];show s.bs.length+_=(s.bs++_).length;rw [List.length_append]⟩⟩
    · show (s.bs++aG_ _ [] _).drop s.bs.length=_
      rw [List.drop_left,r2,List.append_nil]
    · show ((UInt8.ofNat v.1.toNat).toNat:Int)=v.1
      rw [UInt8.toNat_ofNat']
      omega
  · rw [if_neg (by omega)]
    have hj:(toldV s.os chain v.1 v.2).1.toNat=j:=by omega
    have ea:ofAt s.os (toldV s.os chain v.1 v.2).1=o.at_:=by unfold ofAt;rw [hj,ho];rfl
    have ed:ofDep s.os (toldV s.os chain v.1 v.2).1=o.dep:=by unfold ofDep;rw [hj,ho];rfl
    have hL:=h.each j o ho
    have hjl:=(List.getElem?_eq_some_iff.1 ho).1
    have hLt:=hL.lt
    rw [ea,ed]
    refine fin _ _ Z Z Z ⟨h12,by simp [aG_] <;> omega,by show o.dep+1≤8;omega,.inr ⟨j,o,[],hjl,by rw [List.getElem?_append_left hjl];exact ho,hLt,g1,rfl,by rw [g3],by rw [← g3];exact g4,?_,?_⟩⟩
    · show (s.bs++aG_ 5 _ _).drop s.bs.length=_
      rw [List.drop_left,g3,List.append_nil]
    · rw [g3];unfold nx;rw [List.getElem?_eq_none (by simp)];show s.bs.length+_=(s.bs++_).length;rw [List.length_append]
theorem pack_laid {chain:Int} (hc:chain≤8) {n:Nat} {l:List IV} (hs:∀ x ∈ l,x.2.length≤300) (hk:∀ x ∈ l,1≤x.1∧x.1≤4):∀ k,k≤l.length→k≤24→LaidAll (packN chain n (l.take k))
  | 0,_,_=>⟨fun k o ho=>by simp [packN] at ho,fun o ho=>by simp [packN] at ho,fun o ho=>by simp [packN] at ho⟩
  | k+1,hkl,h24=>by
    obtain ⟨x,hx⟩:∃ x,l[k]?=some x:=⟨_,List.getElem?_eq_getElem (by omega)⟩
    obtain ⟨h1,h2,h3⟩:=pack_inv (chain:=chain) (n:=n) hs k (by omega) (by omega)
    rw [packN_succ hx]
    exact addV_laid hc (pack_laid hc hs hk k (by omega) (by omega)) (hk x (List.mem_of_getElem? hx)) (hs x (List.mem_of_getElem? hx)) h2 (by omega)
theorem tail_pack {bs ex:List UInt8} {n:Nat} (he:ex.length=32):tailB (bs++ex) n=bs.drop n:=by
  rw [tail_take,show (bs++ex).length - 32=bs.length by rw [List.length_append];omega,List.take_left]
theorem entB_hd (x:UInt8) (bk load post:List UInt8):(aG_ x bk load++post)[0]?=some x:=by simp [aG_]
theorem open_laid {s:Pk} {ex:List UInt8} (he:ex.length=32) (h12:12≤s.bs.length) (hbs:s.bs.length≤20000) (h:LaidAll s) {k:Nat} {o:Ob} (ho:s.os[k]?=some o) :
    (∃ post,s.bs.drop o.at_=aG_ (UInt8.ofNat o.kind.toNat) [] o.l++post∧o.dep=0∧o.sum=crcL o.l∧∀ deep,opV (s.bs++ex) (o.at_:Int) deep=(0,⟨o.kind,0,nx s.os s.bs k,o.sum,o.l⟩)) ∨
    (∃ j p post,j < k∧s.os[j]?=some p∧p.kind=o.kind∧o.dep=p.dep+1∧s.bs.drop o.at_=aG_ 5 (vr (o.at_ - p.at_)) (scB p.l o.l)++post∧opV (s.bs++ex) (o.at_:Int) false=(0,⟨5,(p.at_:Int),nx s.os s.bs k,o.sum,scB p.l o.l⟩)):=by
  have hL:=h.each k o ho
  have h1:=hL.at12
  have h2:=hL.lt
  have hk:=h.kinds o (List.mem_of_getElem? ho)
  have hs:=h.short o (List.mem_of_getElem? ho)
  have hlen:(s.bs++ex).length=s.bs.length+32:=by rw [List.length_append,he]
  have hx0:∀ {x:UInt8} {bk load post:List UInt8},s.bs.drop o.at_=aG_ x bk load++post→(s.bs++ex)[((o.at_:Nat):Int).toNat]?=some x:=fun {x bk load post} e=>by
    have h4:=entB_hd x bk load post
    rw [← e,List.getElem?_drop,Nat.add_zero] at h4
    rw [Int.toNat_natCast,List.getElem?_append_left h2,h4]
  rcases hL.ent with ⟨x,post,e,r1,r2,r3,u4⟩ | ⟨j,p,post,hj,hp,r1,r2,r3,r4,r5,e,u4⟩
  · have hxe:x=UInt8.ofNat o.kind.toNat:=by
      apply UInt8.toNat_inj.1
      rw [UInt8.toNat_ofNat']
      omega
    refine .inl ⟨post,by rw [← hxe];exact e,r2,r3,fun deep=>?_⟩
    rw [opV_t (by omega) (by omega) (hx0 e),Int.toNat_natCast,tail_pack he,e,ent_whole (by omega) (by omega) (by omega),r1,r3,u4]
  · have hpL:=(h.each j p hp).at12
    refine .inr ⟨j,p,post,hj,hp,r2,r3,e,?_⟩
    rw [opV_t (by omega) (by omega) (hx0 e),Int.toNat_natCast,tail_pack he,e,ent_made (by omega) (by omega) (by omega) (by omega),r4,u4]
    have:(o.at_:Int) - ((o.at_ - p.at_:Nat):Int)=(p.at_:Int):=by omega
    rw [this]
theorem aplO_sc {a x:List UInt8} {k:Int} (ha:a.length≤300) (hx:x.length≤300):aplO (scB a x) (k,a,0)=(k,x,0):=by
  have h1:=Del.put_read (Del.mkV_err (a:=a) (t:=x) (by omega) (by omega))
  have h2:=Del.make_apl (a:=a) (t:=x) (by omega) (by omega)
  have h3:(Del.ag_ (scB a x)).2.2.2=0:=by unfold scB;rw [h1]
  have h4:Del.aplR a (Del.ag_ (scB a x)).1 (Del.ag_ (scB a x)).2.1 (Del.ag_ (scB a x)).2.2.1=(x,0):=by unfold scB;rw [h1];exact h2
  rw [aplO_4 Z h3 (by dsimp only;rw [h4])]
  dsimp only
  rw [h4]
theorem read_laid {s:Pk} {ex:List UInt8} (he:ex.length=32) (h12:12≤s.bs.length) (hbs:s.bs.length≤20000) (h:LaidAll s):∀ (k:Nat) (o:Ob),s.os[k]?=some o→∀ f,o.dep≤f→rdF (s.bs++ex) f (o.at_:Int)=(o.kind,o.l,0):=by
  intro k
  induction k using Nat.strongRecOn with
  | _ k ih =>
    intro o ho f hf
    have hk:=h.kinds o (List.mem_of_getElem? ho)
    have hs:=h.short o (List.mem_of_getElem? ho)
    rcases open_laid he h12 hbs h ho with ⟨post,_,_,_,hop⟩ | ⟨j,p,post,hj,hp,g1,g2,_,hop⟩
    · rw [rdF_ok (by rw [hop]),hop]
      unfold rest
      exact if_neg (by show ¬ o.kind=5;omega)
    · obtain ⟨f,rfl⟩:∃ f',f=f'+1:=⟨f - 1,by omega⟩
      have hb:(f+1 == 0)=false:=rfl
      rw [rdF_ok (by rw [hb,hop]),hb,hop]
      unfold rest
      rw [if_pos Z]
      show aplO (scB p.l o.l) (rdF (s.bs++ex) f (p.at_:Int))=_
      rw [ih j hj p hp f (by omega),g1,aplO_sc (h.short p (List.mem_of_getElem? hp)) hs]
end Go.Proofs.YtgaklngnfecdaaaGreat.Pak
namespace Go.Proofs.YtgaklngnfecdaaaGreat.Pak
open Go.RowKit Zk Zx
open Sha (N)
open Go.Proofs.YtgaklngnfecdaaaGreat.Obj (ab_ objB aN_ U_)
open Oct (vaN rwL rwP rwE rnL rnP rnE be tkP tkE numF vr tl M_)
def bt_ (b:List UInt8):Nat→Nat→Int × List Ob × Nat
  | 0,at_=>(0,[],at_)
  | n+1,at_=>if (opV b at_ false).1≠0 then ((opV b at_ false).1,[],0)
    else if (rest b 7 (opV b at_ false).2).2.2≠0 then ((rest b 7 (opV b at_ false).2).2.2,[],0)
    else if ab_ (rest b 7 (opV b at_ false).2).1 (rest b 7 (opV b at_ false).2).2.1≠0 then (ab_ (rest b 7 (opV b at_ false).2).1 (rest b 7 (opV b at_ false).2).2.1,[],0)
    else ((bt_ b n (opV b at_ false).2.fin).1,⟨(rest b 7 (opV b at_ false).2).1,(rest b 7 (opV b at_ false).2).2.1,0,at_,(opV b at_ false).2.sum⟩::(bt_ b n (opV b at_ false).2.fin).2.1,(bt_ b n (opV b at_ false).2.fin).2.2)
def glue (os:List Ob) (q:Int × List Ob × Nat):Int × List Ob × Nat:=(q.1,os++q.2.1,q.2.2)
section
variable {b : List UInt8} {n at_ : Nat}
theorem scan_1 (h:(opV b at_ false).1≠0):bt_ b (n+1) at_=((opV b at_ false).1,[],0):=by
  conv=>lhs;unfold bt_
  rw [if_pos h]
theorem scan_2 (h:(opV b at_ false).1=0) (h2:(rest b 7 (opV b at_ false).2).2.2≠0):bt_ b (n+1) at_=((rest b 7 (opV b at_ false).2).2.2,[],0):=by
  conv=>lhs;unfold bt_
  rw [if_neg (fun q=>q h),if_pos h2]
theorem scan_3 (h:(opV b at_ false).1=0) (h2:(rest b 7 (opV b at_ false).2).2.2=0) (h3:ab_ (rest b 7 (opV b at_ false).2).1 (rest b 7 (opV b at_ false).2).2.1≠0):bt_ b (n+1) at_=(ab_ (rest b 7 (opV b at_ false).2).1 (rest b 7 (opV b at_ false).2).2.1,[],0):=by
  conv=>lhs;unfold bt_
  rw [if_neg (fun q=>q h),if_neg (fun q=>q h2),if_pos h3]
theorem scan_4 (h:(opV b at_ false).1=0) (h2:(rest b 7 (opV b at_ false).2).2.2=0) (h3:ab_ (rest b 7 (opV b at_ false).2).1 (rest b 7 (opV b at_ false).2).2.1=0):bt_ b (n+1) at_=glue [⟨(rest b 7 (opV b at_ false).2).1,(rest b 7 (opV b at_ false).2).2.1,0,at_,(opV b at_ false).2.sum⟩] (bt_ b n (opV b at_ false).2.fin):=by
  conv=>lhs;unfold bt_
  rw [if_neg (fun q=>q h),if_neg (fun q=>q h2),if_neg (fun q=>q h3)]
  rfl
end
def headE (b:List UInt8):Int:=if b.length < 44 then 10 else if b.take 4≠[80,65,67,75]∨be ((b.drop 4).take 4)≠1 then 12 else if Sha.ofL (b.take (b.length - 32))≠b.drop (b.length - 32) then 13 else if 600 < be ((b.drop 8).take 4) then 5 else 0
def cntB (b:List UInt8):Nat:=be ((b.drop 8).take 4)
theorem headE_10 {b:List UInt8} (h:b.length < 44):headE b=10:=by unfold headE;rw [if_pos h]
theorem headE_12 {b:List UInt8} (h:¬ b.length < 44) (h2:b.take 4≠[80,65,67,75]∨be ((b.drop 4).take 4)≠1):headE b=12:=by unfold headE;rw [if_neg h,if_pos h2]
theorem headE_13 {b:List UInt8} (h:¬ b.length < 44) (h2:¬ (b.take 4≠[80,65,67,75]∨be ((b.drop 4).take 4)≠1)) (h3:Sha.ofL (b.take (b.length - 32))≠b.drop (b.length - 32)):headE b=13:=by unfold headE;rw [if_neg h,if_neg h2,if_pos h3]
theorem headE_5 {b:List UInt8} (h:¬ b.length < 44) (h2:¬ (b.take 4≠[80,65,67,75]∨be ((b.drop 4).take 4)≠1)) (h3:¬ Sha.ofL (b.take (b.length - 32))≠b.drop (b.length - 32)) (h4:600 < cntB b):headE b=5:=by unfold headE;rw [if_neg h,if_neg h2,if_neg h3];exact if_pos h4
theorem headE_0 {b:List UInt8} (h:¬ b.length < 44) (h2:¬ (b.take 4≠[80,65,67,75]∨be ((b.drop 4).take 4)≠1)) (h3:¬ Sha.ofL (b.take (b.length - 32))≠b.drop (b.length - 32)) (h4:¬ 600 < cntB b):headE b=0:=by unfold headE;rw [if_neg h,if_neg h2,if_neg h3];exact if_neg h4
theorem headE_ok {b:List UInt8} (h:headE b=0):¬ b.length < 44∧cntB b≤600:=by
  by_cases h1:b.length < 44
  · rw [headE_10 h1] at h;exact absurd h (by decide)
  · refine ⟨h1,Classical.byContradiction fun h4=>?_⟩
    unfold headE at h
    rw [if_neg h1] at h
    split at h
    · exact absurd h (by decide)
    · split at h
      · exact absurd h (by decide)
      · rw [if_pos (show 600 < be ((b.drop 8).take 4) by unfold cntB at h4;omega)] at h
        exact absurd h (by decide)
def scanV (b:List UInt8):Int × List Ob :=
  if headE b≠0 then (headE b,[]) else if (bt_ b (cntB b) 12).1≠0 then ((bt_ b (cntB b) 12).1,[])
  else if (bt_ b (cntB b) 12).2.2 < b.length - 32 then (11,[]) else (0,(bt_ b (cntB b) 12).2.1)
theorem scanV_h {b:List UInt8} (h:headE b≠0):scanV b=(headE b,[]):=by unfold scanV;rw [if_pos h]
theorem scanV_e {b:List UInt8} (h:headE b=0) {e:Int} (h2:(bt_ b (cntB b) 12).1=e) (he:e≠0):scanV b=(e,[]):=by subst h2;unfold scanV;rw [if_neg (fun q=>q h),if_pos he]
theorem scanV_11 {b:List UInt8} (h:headE b=0) {os:List Ob} {at_:Nat} (h2:bt_ b (cntB b) 12=(0,os,at_)) (h3:at_ < b.length - 32):scanV b=(11,[]):=by
  unfold scanV;rw [if_neg (fun q=>q h),h2,if_neg (fun q=>q Z),if_pos h3]
theorem scanV_0 {b:List UInt8} (h:headE b=0) {os:List Ob} {at_:Nat} (h2:bt_ b (cntB b) 12=(0,os,at_)) (h3:¬ at_ < b.length - 32):scanV b=(0,os):=by
  unfold scanV;rw [if_neg (fun q=>q h),h2,if_neg (fun q=>q Z),if_neg h3]
def SCI (b:List UInt8) (n k:Nat) (os:List Ob) (at_:Nat):Prop:=bt_ b n 12=glue os (bt_ b (n - k) at_)
theorem SCI.start (b:List UInt8) (n:Nat):SCI b n 0 [] 12:=rfl
theorem SCI.err {b:List UInt8} {n k at_:Nat} {os:List Ob} (h:SCI b n k os at_) {e:Int} (h2:(bt_ b (n - k) at_).1=e):(bt_ b n 12).1=e:=by
  unfold SCI at h;rw [h];exact h2
theorem SCI.next {b:List UInt8} {n k at_ at2:Nat} {os:List Ob} {o:Ob} (h:SCI b n k os at_) (hk:k < n) (h2:bt_ b (n - k - 1+1) at_=glue [o] (bt_ b (n - k - 1) at2)):SCI b n (k+1) (os++[o]) at2:=by
  unfold SCI at h ⊢
  rw [h,show n - k=n - k - 1+1 by omega,h2,show n - (k+1)=n - k - 1 by omega]
  unfold glue
  simp
theorem SCI.done {b:List UInt8} {n at_:Nat} {os:List Ob} (h:SCI b n n os at_):bt_ b n 12=(0,os,at_):=by
  unfold SCI at h
  rw [h,Nat.sub_self]
  unfold bt_ glue
  simp
def sc0 (o:Ob):Ob:={ o with dep:=0 }
theorem scan_laid {s:Pk} {ex:List UInt8} (he:ex.length=32) (h12:12≤s.bs.length) (hbs:s.bs.length≤20000) (h:LaidAll s) (hn:∀ o ∈ s.os,ab_ o.kind o.l=0):∀ (m k:Nat),k+m=s.os.length→bt_ (s.bs++ex) m (s.os[k]?.elim s.bs.length Ob.at_)=(0,(s.os.drop k).map sc0,s.bs.length)
  | 0,k,hk=>by
    rw [List.getElem?_eq_none (by omega),List.drop_of_length_le (by omega)]
    rfl
  | m + 1,k,hk=>by
    obtain ⟨o,ho⟩:∃ o,s.os[k]?=some o:=⟨_,List.getElem?_eq_getElem (by omega)⟩
    have hmem:=List.mem_of_getElem? ho
    have hrd:=read_laid he h12 hbs h k o ho 8 (h.each k o ho).dep
    have hop:∃ x,opV (s.bs++ex) (o.at_:Int) false=(0,x)∧x.fin=nx s.os s.bs k∧x.sum=o.sum:=by
      rcases open_laid he h12 hbs h ho with ⟨post,_,_,_,q⟩ | ⟨j,p,post,_,_,_,_,_,q⟩
      · exact ⟨_,q false,rfl,rfl⟩
      · exact ⟨_,q,rfl,rfl⟩
    obtain ⟨x,hx,hf,hsm⟩:=hop
    have hr:rest (s.bs++ex) 7 x=(o.kind,o.l,0):=by
      rw [rdF_ok (by rw [show ((8:Nat) == 0)=false from Z,hx]),show ((8:Nat) == 0)=false from Z,hx] at hrd
      exact hrd
    have ih:=scan_laid he h12 hbs h hn m (k+1) (by omega)
    rw [ho]
    show bt_ (s.bs++ex) (m+1) o.at_=_
    rw [scan_4 (by rw [hx]) (by rw [hx,hr]) (by rw [hx,hr];exact hn o hmem),hx]
    dsimp only
    rw [hr,hf]
    unfold nx
    rw [ih,hsm]
    unfold glue
    have hd:s.os.drop k=o::s.os.drop (k+1):=by
      obtain ⟨h1,h2⟩:=List.getElem?_eq_some_iff.1 ho
      rw [← h2,List.getElem_cons_drop]
    rw [hd]
    rfl
theorem first_at {chain:Int} {n:Nat} {l:List IV}:(packN chain n l).os[0]?.elim (packN chain n l).bs.length Ob.at_=12:=by
  have key:∀ (l:List IV) (s:Pk),s.os[0]?.elim s.bs.length Ob.at_=12→(l.foldl (addV chain) s).os[0]?.elim (l.foldl (addV chain) s).bs.length Ob.at_=12:=by
    intro l
    induction l with
    | nil=>exact fun s h=>h
    | cons v l ih =>
      intro s h
      refine ih _ ?_
      unfold addV layO
      cases ho:s.os with
      | nil =>
        rw [ho] at h
        split <;> exact h
      | cons o os =>
        rw [ho] at h
        split <;> exact h
  exact key l _ (by show (frontB n).length=12;exact frontB_len n)
theorem pack_front {chain:Int} {n:Nat} {l:List IV}:∃ r,(packN chain n l).bs=frontB n++r:=by
  have key:∀ (l:List IV) (s:Pk),(∃ r,s.bs=frontB n++r)→∃ r,(l.foldl (addV chain) s).bs=frontB n++r:=by
    intro l
    induction l with
    | nil=>exact fun s h=>h
    | cons v l ih =>
      intro s h
      obtain ⟨r,hr⟩:=h
      refine ih _ ?_
      unfold addV layO
      split
      · exact ⟨_,by show s.bs++_=_;rw [hr,List.append_assoc]⟩
      · exact ⟨_,by show s.bs++_=_;rw [hr,List.append_assoc]⟩
  exact key l _ ⟨[],by simp⟩
theorem kind_of {k:Int} {b:List UInt8} (h:ab_ k b=0):1≤k∧k≤4:=Classical.byContradiction fun q=>by
  unfold ab_ at h
  rw [if_pos q] at h
  exact absurd h (by decide)
structure Written (chain:Int) (l:List IV):Prop where
  inv:LaidAll (aA_ chain l)
  cnt:(aA_ chain l).os.length=l.length
  lo:12≤(aA_ chain l).bs.length
  hi:(aA_ chain l).bs.length≤10000
  items:(aA_ chain l).os.map (fun o=>(o.kind,o.l))=l
  good:∀ o ∈ (aA_ chain l).os,ab_ o.kind o.l=0
theorem written {chain:Int} (hc:chain≤8) {l:List IV} (h24:l.length≤24) (hs:∀ x ∈ l,x.2.length≤300) (hn:∀ x ∈ l,ab_ x.1 x.2=0):Written chain l:=by
  have h1:=pack_inv (chain:=chain) (n:=l.length) hs l.length (Nat.le_refl _) h24
  have h2:=pack_os (chain:=chain) (n:=l.length) (l:=l) l.length (Nat.le_refl _)
  have h3:=pack_laid hc (n:=l.length) hs (fun x hx=>kind_of (hn x hx)) l.length (Nat.le_refl _) h24
  rw [List.take_length] at h1 h2 h3
  refine ⟨h3,h1.1,h1.2.1,by have:=h1.2.2;unfold aA_;omega,h2,fun o ho=>hn (o.kind,o.l) ?_⟩
  have:(o.kind,o.l) ∈ (packN chain l.length l).os.map (fun o=>(o.kind,o.l)):=List.mem_map.2 ⟨o,ho,rfl⟩
  rwa [h2] at this
theorem Written.item {chain:Int} {l:List IV} (h:Written chain l) {k:Nat} {o:Ob} (ho:(aA_ chain l).os[k]?=some o):l[k]?=some (o.kind,o.l):=by
  have h1:((aA_ chain l).os.map (fun o=>(o.kind,o.l)))[k]?=some (o.kind,o.l):=by rw [List.getElem?_map,ho];rfl
  rwa [h.items] at h1
theorem Written.read {chain:Int} {l:List IV} (h:Written chain l) {k:Nat} {o:Ob} (ho:(aA_ chain l).os[k]?=some o):readP (aK_ chain l) (o.at_:Int)=(o.kind,o.l,0) :=
  read_laid (Sha.ad_ _) h.lo (by have:=h.hi;omega) h.inv k o ho 8 (h.inv.each k o ho).dep
theorem Written.scan {chain:Int} {l:List IV} (h:Written chain l) (h24:l.length≤24):scanV (aK_ chain l)=(0,(aA_ chain l).os.map sc0):=by
  have hlen:(aK_ chain l).length=(aA_ chain l).bs.length+32:=by unfold aK_;rw [List.length_append,Sha.ad_]
  have hlo:=h.lo
  have e1:(aK_ chain l).take ((aK_ chain l).length - 32)=(aA_ chain l).bs:=by rw [hlen,Nat.add_sub_cancel];unfold aK_;exact List.take_left
  have e2:(aK_ chain l).drop ((aK_ chain l).length - 32)=Sha.ofL (aA_ chain l).bs:=by rw [hlen,Nat.add_sub_cancel];unfold aK_;exact List.drop_left
  obtain ⟨r,hr⟩:=pack_front (chain:=chain) (n:=l.length) (l:=l)
  have hb:aK_ chain l=frontB l.length++(r++Sha.ofL (aA_ chain l).bs):=by unfold aK_ aA_;rw [hr,List.append_assoc]
  have hc:cntB (aK_ chain l)=l.length:=by
    unfold cntB
    rw [hb]
    have:((frontB l.length++(r++Sha.ofL (aA_ chain l).bs)).drop 8).take 4=tl l.length 4:=by simp [frontB,tl]
    rw [this,be_tl (by omega)]
  have hh:headE (aK_ chain l)=0:=by
    refine headE_0 (by omega) (fun q=>?_) (by rw [e1,e2];exact fun q=>q Z) (by rw [hc];omega)
    rcases q with q | q
    · exact q (by rw [hb];simp [frontB])
    · refine q ?_
      have:((aK_ chain l).drop 4).take 4=tl 1 4:=by rw [hb];simp [frontB,tl]
      rw [this];rfl
  have hsc:=scan_laid (s:=aA_ chain l) (ex:=Sha.ofL (aA_ chain l).bs) (Sha.ad_ _) h.lo (by have:=h.hi;omega) h.inv h.good l.length 0 (by rw [h.cnt];omega)
  have hf:(aA_ chain l).os[0]?.elim (aA_ chain l).bs.length Ob.at_=12:=first_at
  rw [hf,List.drop_zero] at hsc
  exact scanV_0 hh (by rw [hc];exact hsc) (by rw [hlen];omega)
end Go.Proofs.YtgaklngnfecdaaaGreat.Pak
namespace Go.Proofs.YtgaklngnfecdaaaGreat.Pak
open Go.RowKit Zk Zx
open Sha (N xorN andN notN N_ge N_le)
open Go.Proofs.YtgaklngnfecdaaaGreat.Obj (ab_ objB aN_ U_ aM_ bl_ zB y_ aS_)
open Oct (vaN rwL rwP rwE rnL rnP rnE be vr tl M_)
open Del (scA opf OP OkO mkV encV putR ag_ aplR)
theorem add_ (g:Nat) (A:Option Addr) (n c:Nat) (A1:Option Addr) (c1:Nat) (A2:Option Addr) (c2:Nat) (A3:Option Addr) (c3:Nat) (its:List It) (s:Pk) (x:It) (chain:Int) (w0:World) (hw:(sepL (pkL g A n c A1 c1 A2 c2 A3 c3 its s)).holds w0) (hio:Same its s.os) (hits:∀ y ∈ its,OkM w0 (sepL (pkL g A n c A1 c1 A2 c2 A3 c3 its s)).dom y.p) (hsm:∀ y ∈ its,y.p.n≤300) (hp:OkM w0 (sepL (pkL g A n c A1 c1 A2 c2 A3 c3 its s)).dom x.p) (hp3:x.p.n≤300) (hk:1≤x.kind∧x.kind≤4) (hc8:chain≤8) (hbl:s.bs.length≤20000) (hil:its.length≤1000) (hat:∀ o ∈ s.os,o.at_≤s.bs.length):Calls Tryz.prog 57 #[.pointer (some ⟨g,0,none⟩),.agg (itf x).toArray,.agg (bA (aN_ x.kind x.p.l)),.int .i64 chain] w0 fun e w'=>∃ u,e=.returned u∧u=.tuple #[]∧∃ A' n' c' A1' c1' A2' c2' A3' c3',Turned w0 w' (sepL (pkL g A n c A1 c1 A2 c2 A3 c3 its s)) (sepL (pkL g A' n' c' A1' c1' A2' c2' A3' c3' (its++[x]) (addV chain s (x.kind,x.p.l)))):=by
  rcases (told_ok s.os chain x.kind x.p.l).1 with ⟨h1,_⟩ | ⟨k,o,h1,ho,_,hd,_⟩
  · exact add0 g A n c A1 c1 A2 c2 A3 c3 its s x chain w0 hw hio hits hsm hp hp3 hk hc8 hbl hil hat h1
  · exact add1 g A n c A1 c1 A2 c2 A3 c3 its s x chain w0 hw hio hits hsm hp hp3 hk hc8 hbl hil hat k o h1 ho hd
theorem names_bad {w0 w':World} {l:List IV} {u:Value} (h:NamesV w0 w' l u) (he:nameE l≠0):u=.tuple #[.slice none 0 0,.int .i64 (nameE l)]:=by
  rcases h with ⟨_,h⟩ | ⟨h,_⟩
  · exact h
  · exact absurd h he
theorem names_good {w0 w':World} {l:List IV} {u:Value} (h:NamesV w0 w' l u) (he:nameE l=0):∃ A c,u=.tuple #[.slice A l.length c,.int .i64 0]∧w'.ownsRow w0.heap.size 41 32 (.slice A l.length c) l.length (l.flatMap idB):=by
  rcases h with ⟨h,_⟩ | ⟨_,h⟩
  · exact absurd he h
  · exact h
structure PKM where
  A:Option Addr
  n:Nat
  c:Nat
  A1:Option Addr
  c1:Nat
  A2:Option Addr
  c2:Nat
  A3:Option Addr
  c3:Nat
def WriteV (w0 w':World) (chain:Int) (l:List IV) (u:Value):Prop:=(wrE chain l≠0∧Like w0 w'∧u=.tuple #[.slice none 0 0,.slice none 0 0,.int .i64 (wrE chain l)]) ∨
  (wrE chain l=0∧∃ A c A2 c2,u=.tuple #[.slice A (aK_ chain l).length c,.slice A2 l.length c2,.int .i64 0]∧Zx.St w0 noM [row 5 1 A (aK_ chain l).length c (bL (aK_ chain l)),row 67 34 A2 l.length c2 ((aA_ chain l).os.flatMap plO)] w')
theorem okM_of {w0 w:World} {ps rs:List Res} (S:Zx.St w0 noM (ps++rs) w) {p:Part} (h:p.ok w0):OkM w (sepL rs).dom p:=by
  refine ⟨S.rd h,fun ad hn hA ⟨r,hr,hd⟩=>?_⟩
  have h1:=old_block h hn hA
  have h2:=(S.res r (List.mem_append_right _ hr)).2 _ hd
  rcases h2.2 with h3 | h3
  · omega
  · exact h3
theorem same_take {its:List It} {chain:Int} {n k:Nat} (hk:k≤its.length):Same (its.take k) (packN chain n ((its.map It.v).take k)).os:=by
  unfold Same
  rw [List.map_take]
  exact (pack_os (chain:=chain) (n:=n) (l:=its.map It.v) k (by simpa using hk)).symm
theorem rs_dig {w:World} {b t:Nat} {l:List UInt8} (h:Blk w b t (bA (Sha.ofL l))):Rs w 1 (some ⟨b,0,none⟩) 32 32 (bL (Sha.ofL l)):=by
  have h1:(bL (Sha.ofL l)).length=32:=by rw [length_bL];exact Sha.ad_ l
  have:=Rs.of_blk (o:=0) (n:=32) h (by show 0+32≤(bL (Sha.ofL l)).toArray.size;rw [List.size_toArray,h1];omega) (by omega)
  rwa [List.drop_zero,show (bA (Sha.ofL l)).toList=bL (Sha.ofL l) from List.toList_toArray ..,List.take_of_length_le (by rw [h1];omega)] at this
theorem take1i {α:Type} {l:List α} {k:Nat} {x : α} (h:l[k]?=some x):l.take (k+1)=l.take k++[x]:=by rw [List.take_add_one,h];rfl
theorem cat1 (A:Option Addr) (n c:Nat) (l:List UInt8):Sha.cat [⟨A,n,c,l⟩]=l:=by simp [Sha.cat]
theorem write0 (A:Option Addr) (n c:Nat) (its:List It) (chain:Int) (w0:World) (hits:Rs w0 2 A n c (its.flatMap itf)) (hok:OkI w0 its) (hsm:∀ x ∈ its,x.p.n≤300) (h24:its.length≤24) (hne:nameE (its.map It.v)≠0) :
    Calls Tryz.prog 28 #[.slice A n c,.int .i64 chain] w0 fun e w'=>∃ u,e=.returned u∧WriteV w0 w' chain (its.map It.v) u:=by
 refine v_ (env:=[(0,.slice A n c),(1,.int .i64 chain)]) [.slice A n c,.int .i64 chain] Tryz.func28 Z Tryz.ntmps28 Z Z ?_;have hn:=its_len hits;have hcap:=hits.cap;have hmax:=hits.max;have S0:=St.start w0 noM;refine a_ fun K1 hK1=>b_ (La Z Z (La Z Z (Lan Z Z (hK1 _ _ (a_ fun K2 hK2=>a_ fun K3 hK3=>Rm Z Z (L_y (P_ Z Z) Z (Lm Z Z ?_)))))));refine B_ 16 Z (fun h16=>?_) (fun h16=>?_)
 ·
  refine h_ Z Z Z (h_ Z Z Z (Lp Z Z Z (d_ (hK3 _ _ (W_ Z (a_ fun K4 hK4=>b_ (La Z Z (La Z Z (Lan Z Z (hK4 _ _ (l_ ?_)))))))))));refine ur (ret3 Z Z Z Z ?_);have he:wrE chain (its.map It.v)=2:=by unfold wrE;rw [if_pos (by omega)]
  exact ⟨_,rfl,.inl ⟨by rw [he];decide,S0.like0,by rw [he]⟩⟩
 ·
  refine g_ Z Z (Lm Z Z (g_ Z Z (L_y (af_ Z Z) Z (Lp Z Z Z (d_ (hK3 _ _ ?_))))));refine n_ Z (fun h19=>?_) (fun h19=>?_)
  ·
   refine a_ fun K5 hK5=>b_ (La Z Z (La Z Z (Lan Z Z (hK5 _ _ (l_ (ur (ret3 Z Z Z Z ?_)))))));have he:wrE chain (its.map It.v)=2:=by unfold wrE;rw [if_pos (by omega)]
   exact ⟨_,rfl,.inl ⟨by rw [he];decide,S0.like0,by rw [he]⟩⟩
  ·
   refine m_ (hK2 _ _ (a_ fun K6 hK6=>a_ fun K7 hK7=>Rm Z Z (L_y (K_ Tryz.underlying48 Z) Z (L_y (af_ Z Z) Z (d_ (hK7 _ _ ?_))))));refine n_ Z (fun h22=>?_) (fun h22=>?_)
   ·
    omega
   ·
    refine m_ (hK6 _ _ (a_ fun K8 hK8=>Rm Z Z (L_o (o_ Tryz.func54 Z Z (names A n c its w0 (S0.rd hits) (OkI.like hok S0.like0) (fun y hy=>by have:=hsm y hy;omega) (by omega)) Z Z ?_))));rintro e2 w2 ⟨v2,rfl,l2,hN2⟩;refine ⟨_,rfl,?_⟩;have S2:=S0.like l2;obtain rfl:=names_bad hN2 hne;refine Lm Z Z (L_y (j_ Z Z) Z (L_y (j_ Z Z) Z (La Z Z (Lan Z Z (hK8 _ _ (a_ fun K9 hK9=>a_ fun K10 hK10=>Rm Z Z (L_y (V_ Z Z) Z (d_ (hK10 _ _ ?_)))))))));refine n_ Z (fun h29=>?_) (fun h29=>?_)
    ·
     refine a_ fun K11 hK11=>Rm Z Z (La Z Z (La Z Z (Lan Z Z (hK11 _ _ (l_ (ur (ret3 Z Z Z Z ?_)))))));have he:wrE chain (its.map It.v)=nameE (its.map It.v):=by unfold wrE;rw [if_neg (by omega)]
     exact ⟨_,rfl,.inl ⟨by rw [he];exact hne,S2.like0,by rw [he];rfl⟩⟩
    ·
     exact absurd hne h29
theorem write1 (A:Option Addr) (n c:Nat) (its:List It) (chain:Int) (w0:World) (hits:Rs w0 2 A n c (its.flatMap itf)) (hok:OkI w0 its) (hsm:∀ x ∈ its,x.p.n≤300) (h24:its.length≤24) (hne:nameE (its.map It.v)=0) :
    Calls Tryz.prog 28 #[.slice A n c,.int .i64 chain] w0 fun e w'=>∃ u,e=.returned u∧WriteV w0 w' chain (its.map It.v) u:=by
 refine v_ (env:=[(0,.slice A n c),(1,.int .i64 chain)]) [.slice A n c,.int .i64 chain] Tryz.func28 Z Tryz.ntmps28 Z Z ?_;have hn:=its_len hits;have hcap:=hits.cap;have hmax:=hits.max;have hvl:(its.map It.v).length=n:=by rw [List.length_map];exact hn.symm
 obtain ⟨hall,_⟩:=nameE_ok hne;have hs3:∀ y ∈ (its.map It.v),y.2.length≤300:=fun y hy=>by obtain ⟨z,hz,rfl⟩:=List.mem_map.1 hy;have h1:=(hok z hz).lenb;have h2:=hsm z hz;show z.p.l.length≤300;omega
 have hinv:=fun (k:Nat) (hk:k≤n)=>pack_inv (chain:=chain) (n:=n) hs3 k (by omega) (by omega);have hlaid:=fun (hc8:chain≤8) (k:Nat) (hk:k≤n)=>pack_laid hc8 (n:=n) hs3 (fun y hy=>kind_of (hall y hy)) k (by omega) (by omega);have S0:=St.start w0 noM;refine a_ fun K1 hK1=>b_ (La Z Z (La Z Z (Lan Z Z (hK1 _ _ (a_ fun K2 hK2=>a_ fun K3 hK3=>Rm Z Z (L_y (P_ Z Z) Z (Lm Z Z ?_)))))));refine B_ 16 Z (fun h16=>?_) (fun h16=>?_)
 ·
  refine h_ Z Z Z (h_ Z Z Z (Lp Z Z Z (d_ (hK3 _ _ (W_ Z (a_ fun K4 hK4=>b_ (La Z Z (La Z Z (Lan Z Z (hK4 _ _ (l_ ?_)))))))))));refine ur (ret3 Z Z Z Z ?_);have he:wrE chain (its.map It.v)=2:=by unfold wrE;rw [if_pos (by omega)]
  exact ⟨_,rfl,.inl ⟨by rw [he];decide,S0.like0,by rw [he]⟩⟩
 ·
  refine g_ Z Z (Lm Z Z (g_ Z Z (L_y (af_ Z Z) Z (Lp Z Z Z (d_ (hK3 _ _ ?_))))));refine n_ Z (fun h19=>?_) (fun h19=>?_)
  ·
   refine a_ fun K5 hK5=>b_ (La Z Z (La Z Z (Lan Z Z (hK5 _ _ (l_ (ur (ret3 Z Z Z Z ?_)))))));have he:wrE chain (its.map It.v)=2:=by unfold wrE;rw [if_pos (by omega)]
   exact ⟨_,rfl,.inl ⟨by rw [he];decide,S0.like0,by rw [he]⟩⟩
  ·
   refine m_ (hK2 _ _ (a_ fun K6 hK6=>a_ fun K7 hK7=>Rm Z Z (L_y (K_ Tryz.underlying48 Z) Z (L_y (af_ Z Z) Z (d_ (hK7 _ _ ?_))))));refine n_ Z (fun h22=>?_) (fun h22=>?_)
   ·
    omega
   ·
    refine m_ (hK6 _ _ (a_ fun K8 hK8=>Rm Z Z (L_o (o_ Tryz.func54 Z Z (names A n c its w0 (S0.rd hits) (OkI.like hok S0.like0) (fun y hy=>by have:=hsm y hy;omega) (by omega)) Z Z ?_))));rintro e2 w2 ⟨v2,rfl,l2,hN2⟩;refine ⟨_,rfl,?_⟩;have S2:=S0.like l2;obtain ⟨A7,c7,rfl,O7⟩:=names_good hN2 hne;have S3:=S0.adopt l2 O7;refine Lm Z Z (L_y (j_ Z Z) Z (L_y (j_ Z Z) Z (La Z Z (Lan Z Z (hK8 _ _ (a_ fun K9 hK9=>a_ fun K10 hK10=>Rm Z Z (L_y (V_ Z Z) Z (d_ (hK10 _ _ ?_)))))))));refine n_ Z (fun h29=>?_) (fun h29=>?_)
    ·
     exact absurd Z h29
    ·
     refine m_ (hK9 _ _ (a_ fun K11 hK11=>b_ (L_y (C_ Z (show _=some #[Value.slice none 0 0,.slice none 0 0,.slice none 0 0,.slice none 0 0] by kernel_rfl)) Z (L_o (o_box Z S3 Z fun b4 w4 hb4 S4=>have S5:=(((S4.nilrow 65 2).nilrow 67 34).nilrow 3 1).nilrow 5 1;have S5a:=S5.sel [0,2,3,4,1,5] (by decide);have S5b:Zx.St w0 noM [row 41 32 A7 (its.map It.v).length c7 ((its.map It.v).flatMap idB),row 65 2 none 0 0 [],row 67 34 none 0 0 [],row 3 1 none 0 0 [],wu (.slice none 0 0) (.slice none 0 0) (.slice none 0 0) b4 none 0 0 []] w4:=St.joinL (ps:=[_,_,_,_]) S5a;Lan Z Z (hK11 _ _ (a_ fun K12 hK12=>b_ ?_)))))));refine Lm Z Z (L_y (A_ Z) Z (L_y (f_ 0 Tryz.underlying113 Z sz110 Z Z Z) Z (L_o (aW_ [_,_,_,_] te22 zz5 S5b Z Z Z Z Z Z Z Z fun b6 w6 S6=>L_o (o_bconst S6 5 Z Tryz.underlying22 Tryz.underlying5 Z (by omega) Z fun w7 S7=>L_o (o_ Tryz.func55 Z Z (wrawW b4 none 0 0 ([]) _ _ _ [80,65,67,75] w7 (S7.get 4 Z) (S7.fix 5 Z) (by simp only [List.length_append,List.length_cons,List.length_nil,M_];omega)) Z Z ?_))))));rintro e8 w8 ⟨v8,rfl,A8,n8,c8,T8⟩;refine ⟨_,rfl,(have S8:=S7.turn 4 Z T8;d_ (hK12 _ _ (a_ fun K13 hK13=>Rm Z Z (L_y (A_ Z) Z (L_y (f_ 0 Tryz.underlying113 Z sz110 Z Z Z) Z (L_o (o_ Tryz.func56 Z Z (wu32W b4 A8 n8 c8 ([]++[80,65,67,75]) 1 w8 (S8.get 4 Z) (by omega) (by simp only [List.length_append,List.length_cons,List.length_nil,M_];omega)) Z Z ?_)))))))⟩;rintro e9 w9 ⟨v9,rfl,A9,n9,c9,T9⟩;refine ⟨_,rfl,(have S9:=S8.turn 4 Z T9;d_ (hK13 _ _ (a_ fun K14 hK14=>Rm Z Z (L_y (A_ Z) Z (L_y (f_ 0 Tryz.underlying113 Z sz110 Z Z Z) Z (Lm Z Z (L_y (K_ Tryz.underlying48 Z) Z (L_y (T_ is3 Tryz.underlying63 Z (u32w (by omega))) Z (L_o (o_ Tryz.func56 Z Z (wu32W b4 A9 n9 c9 ([]++[80,65,67,75]++tl 1 4) n w9 (S9.get 4 Z) (by omega) (by simp only [List.length_append,List.length_cons,List.length_nil,M_];omega)) Z Z ?_))))))))))⟩;rintro e10 w10 ⟨v10,rfl,A10,n10,c10,T10⟩;refine ⟨_,rfl,(have S10:=S9.turn 4 Z T10;d_ (hK14 _ _ (a_ fun K15 hK15=>a_ fun K16 hK16=>Rm Z Z (L_y (K_ Tryz.underlying48 Z) Z (Lm Z Z (d_ (hK16 _ _ (r_ ?_))))))))⟩;refine bx_ [(1,_),(7,_),(9,_),(50,_),(51,_)] (fun (k:Nat) (m:PKM)=>[(52,.int .i64 (k:Int))]) (fun (k:Nat) (m:PKM)=>n - k) (fun (k:Nat) (m:PKM) (w:World)=>k≤n∧Zx.St w0 noM ([row 41 32 A7 (its.map It.v).length c7 ((its.map It.v).flatMap idB)]++pkL b4 m.A m.n m.c m.A1 m.c1 m.A2 m.c2 m.A3 m.c3 (its.take k) (packN chain n ((its.map It.v).take k))) w) 0 ⟨A10,n10,c10,none,0,none,0,none,0⟩ (Sc Z (Sub.nil _)) (Sub.cons Z Z (Sub.cons Z Z (Sub.cons Z Z (Sub.cons Z Z (Sub.cons Z Z (Sub.nil _)))))) ?_ ?_
     ·
      have S11:=S10.sel [0,1,2,3,4] (by decide);have S70:Zx.St w0 noM ([row 41 32 A7 (its.map It.v).length c7 ((its.map It.v).flatMap idB)]++pkL b4 A10 n10 c10 none 0 none 0 none 0 (its.take 0) (packN chain n ((its.map It.v).take 0))) w10:=S11.cast (by rw [List.take_zero,List.take_zero];first | rfl | simp [pkL,packN,frontB]);exact ⟨by omega,S70⟩
     ·
      intro k m w12 hrel;obtain ⟨hk,S12⟩:=hrel;refine a_ fun K17 hK17=>b_ (L_y (P_ Z Z) Z (d_ (hK17 _ _ (a_ fun K18 hK18=>?_))));refine n_ Z (fun h53=>?_) (fun h53=>?_)
      ·
       obtain ⟨x,hx⟩:∃ x,its[k]?=some x:=⟨_,List.getElem?_eq_getElem (by omega)⟩;have hxo:=hok x (List.mem_of_getElem? hx);have hxs:=hsm x (List.mem_of_getElem? hx);have hkd:=kind_of (hall _ (List.mem_of_getElem? (vs_at hx)));obtain ⟨i1,i2,i3⟩:=hinv k (by omega);obtain ⟨j1,j2,j3⟩:=hinv (k+1) (by omega);have hla:=hlaid (by omega) k (by omega);refine m_ (hK18 _ _ (a_ fun K19 hK19=>r_ (a_ fun K20 hK20=>Rm Z Z (L_y (S_ Tryz.underlying48 sz65 Z Z (S12.rd hits) inferInstance (by omega)) Z (L_y (y_ldp (f:=itf) bC_ Tryz.underlying65 Z sz65 Z (S12.rd hits) (by omega) hx) Z (L_o (F_ zz65 S12 Z fun b13 w13 hb13 S13=>La Z Z (L_o (D_ S13 5 Z Z Z sz65 (by rfl) (fun u hu=>itf_one x u (by rw [List.toList_toArray] at hu;exact hu)) fun w14 S14=>?_)))))))));refine d_ (hK20 _ _ (a_ fun K21 hK21=>T_tail 7 hmix (by kernel_rfl) fun w15 l15 K22 hK22=>have S15:=S14.like l15;H_ (p_ Z) Z (H_ (X_ Tryz.underlying65 Z sz65 Z (S15.blk 5 Z) (show _=itf x∧_ from ⟨rfl,rfl⟩)) Z (H_ (p_ Z) Z (H_ (p_ Z) Z (H_ (S_ Tryz.underlying81 ae_ Z Z (S15.row 0 Z) inferInstance (by omega)) Z (H_ (y_ldp (f:=idB) idB_len Tryz.underlying41 Z ae_ Z (S15.row 0 Z) (by omega) (vs_at hx)) Z (H_ (p_ Z) Z (HL_nil (hK22 _ ?_))))))))));have Sq16:Zx.St w0 noM ([_,_]++pkL b4 m.A m.n m.c m.A1 m.c1 m.A2 m.c2 m.A3 m.c3 (its.take k) (packN chain n ((its.map It.v).take k))) w15:=S15.sel [0,5,1,2,3,4] (by decide);refine L_o (o_ Tryz.func57 Z Z (add_ b4 m.A m.n m.c m.A1 m.c1 m.A2 m.c2 m.A3 m.c3 (its.take k) (packN chain n ((its.map It.v).take k)) x chain w15 (St.getL (ps:=[_,_]) Sq16) (same_take (by omega)) (fun y hy=>okM_of (ps:=[_,_]) Sq16 (hok y (List.mem_of_mem_take hy))) (fun y hy=>hsm y (List.mem_of_mem_take hy)) (okM_of (ps:=[_,_]) Sq16 hxo) hxs hkd (by omega) (by omega) (by rw [List.length_take];omega) (fun y hy=>by obtain ⟨j,hj⟩:=List.mem_iff_getElem?.1 hy;exact Nat.le_of_lt (hla.each j y hj).lt)) Z Z ?_);rintro e16 w16 ⟨v16,rfl,rfl,A16,n16,c16,AA16,ca16,AB16,cb16,AC16,cc16,T16⟩;refine ⟨_,rfl,?_⟩;have S16:=St.turnL (ps:=[_,_]) Sq16 T16;have hnk:=wu_len (S16.get 5 Z);rw [← packN_succ (n:=n) (vs_at hx)] at hnk;refine d_ (hK21 _ _ (a_ fun K23 hK23=>Rm Z Z (L_y (A_ Z) Z (L_y (f_ 0 Tryz.underlying113 Z sz110 Z Z Z) Z (L_o (o_ Tryz.func58 Z Z (wlenW b4 _ _ _ _ w16 (S16.get 5 Z)) Z Z ?_))))));rintro e17 w17 ⟨v17,rfl,l17,rfl⟩;refine ⟨_,rfl,(have S17:=S16.like l17;L_y (af_ Z Z) Z (d_ (hK23 _ _ ?_)))⟩;refine n_ Z (fun h69=>?_) (fun h69=>?_)
       ·
        omega
       ·
        refine m_ (hK19 _ _ (b_ (L_y (w_ Z Z (E_ (by omega))) Z (Lm Z Z (d_ ?_)))));have S91:Zx.St w0 noM ([row 41 32 A7 (its.map It.v).length c7 ((its.map It.v).flatMap idB)]++pkL b4 _ _ _ _ _ _ _ _ _ (its.take k++[x]) (addV chain (packN chain n ((its.map It.v).take k)) (x.kind,x.p.l))) w17:=S17.sel [0,2,3,4,5] (by decide);rw [← packN_succ (n:=n) (vs_at hx), ← take1i hx] at S91;refine ⟨k+1,⟨_,_,_,_,_,_,_,_,_⟩,by omega,⟨by omega,S91⟩,?_⟩;exact (Sc Z (Sub.cons Z Z (Sub.cons Z Z (Sub.cons Z Z (Sub.cons Z Z (Sub.cons Z Z (Sub.nil _)))))))
      ·
       have hW:Written chain (its.map It.v):=written (by omega) (by omega) hs3 hall;have hke:k=n:=by omega
       subst hke;rw [List.take_of_length_le (l:=its) (by omega),List.take_of_length_le (l:=(its.map It.v)) (by omega)] at S12;subst hvl;have hnb:(aA_ chain (its.map It.v)).bs.length=m.n:=wu_len (S12.get 4 Z);have hWl:=hW.hi;refine Q_ (hK15 _ _ (a_ fun K24 hK24=>Rm Z Z (L_y (A_ Z) Z (L_y (f_ 0 Tryz.underlying113 Z sz110 Z Z Z) Z (L_o (o_ Tryz.func59 Z Z (wbytesW b4 _ _ _ _ w12 (S12.get 4 Z) (Nat.le_trans hWl (by decide))) Z Z ?_))))));rintro e18 w18 ⟨v18,rfl,l18,A18,m18,c18,rfl,O18⟩;refine ⟨_,rfl,(have S18:=S12.adopt l18 O18;have hm18:(aA_ chain (its.map It.v)).bs.length=m18:=(S18.row 5 Z).lenb;Lan Z Z (hK24 _ _ (a_ fun K25 hK25=>Rm Z Z (L_o (aW_ [_] te155 zz22 S18 Z Z Z Z Z Z Z Z fun b19 w19 S19=>L_o (o_ Tryz.func50 Z Z (Sha.shaof [⟨_,_,_,(aA_ chain (its.map It.v)).bs⟩] _ _ _ w19 (S19.row 6 Z) (fun p hp=>by obtain rfl:=List.mem_singleton.1 hp;exact S19.row 5 Z) (by rw [cat1];omega) (by simp)) Z Z ?_))))))⟩;rintro e20 w20 ⟨v20,rfl,l20,hu20⟩;refine ⟨_,rfl,?_⟩;have S20:=S19.like l20;rw [cat1] at hu20;subst hu20;refine L_o (F_ zz41 S20 Z fun b21 w21 hb21 S21=>have S22:=S21.blkc 7 Z (cs':=bA zB) (by kernel_rfl);L_o (D_ S22 7 Z Z Z (by first | exact ae_ | (rw [size_bA,Sha.ad_];exact ae_)) (by first | rfl | (rw [size_bA,size_bA,Sha.ad_];rfl)) (Sha.bA_one _) fun w23 S23=>?_));refine d_ (hK25 _ _ (a_ fun K26 hK26=>T_drawn (fun w=>Blk w b4 113 #[.slice m.A m.n m.c,.slice m.A1 its.length m.c1,.slice m.A2 (aA_ chain (its.map It.v)).os.length m.c2,.slice m.A3 (aA_ chain (its.map It.v)).os.length m.c3]) [(0,true),(1,true),(3,true),(4,true),(5,true),(6,true),(2,false),(7,true),(8,true),(9,true)] hmix (by kernel_rfl) (fun w l=>((S23.like l).get 4 Z).1) fun w24 l24=>have S24:=S23.like l24;u_ Z (p_ Z) Z (u_ Z (y_aslice Tryz.underlying41 sz5 Z) Z (u_ Z (p_ Z) Z (u_ Z (A_ Z) Z (u_ Z (f_ 2 Tryz.underlying113 Z sz50 Z Z Z) Z (u_ Z (y_ldS Tryz.underlying50 Z Z (fun w h=>(h.cell _).trans (by rfl))) Z ?_)))))));refine DL_o Z (aL_ te22 S24 5 Z Z Z (rs_dig (S24.blk 7 Z)) (R_ _) Z (by omega) (by omega) fun A25 c25 w25 S25=>⟨(S25.get 4 Z).1,(u_ Z (J_ Z) Z (u_ Z (J_ Z) Z (u_ Z (J_ Z) Z (aV_ (hK26 _ _ (l_ (ur (ret3 Z Z Z Z ?_))))))))⟩);have he:wrE chain (its.map It.v)=0:=by unfold wrE;rw [if_neg (by omega),hne]
       have S90:=S25.sel [5,2] (by decide);have hpl:(aK_ chain (its.map It.v)).length=(aA_ chain (its.map It.v)).bs.length+32:=by unfold aK_;rw [List.length_append,Sha.ad_]
       have S91:=S90.rowc 0 Z (n':=(aK_ chain (its.map It.v)).length) (xs':=bL (aK_ chain (its.map It.v))) (by rw [hpl];omega) (by unfold aK_;unfold bL;rw [List.map_append];rfl);have S92:=S91.rowc 1 Z (n':=(its.map It.v).length) (xs':=(aA_ chain (its.map It.v)).os.flatMap plO) hW.cnt Z;refine ⟨_,rfl,.inr ⟨he,_,_,_,_,?_,S92⟩⟩;rw [hpl,hm18,hW.cnt];rfl
end Go.Proofs.YtgaklngnfecdaaaGreat.Pak