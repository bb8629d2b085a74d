import Derived.Test.YtgaklngnfecdaaaGreatMgPWrites1
import Derived.WalkKit
import Derived.ProofKit
import Derived.OpenShut
import Derived.ShutString
import Derived.ChangeOld
import Derived.Below
import Derived.Deep.Slices
import Derived.Maps.RangeWalk
import Derived.Maps.OwnOps
import Derived.Maps.OwnSet
import Derived.ArgAppend
import Derived.Scope
import Derived.Test.YtgaklngnfecdaaaGreatRows
import Derived.Laws.StructEq
import Derived.Lib.Bytealg
import Derived.Shelf.Small.Strs
import Derived.Shelf.Strings.Search1
import Derived.Shelf.Bytes.SlIndexAt
set_option linter.unusedSimpArgs false
set_option linter.unusedVariables false
set_option maxRecDepth 100000
namespace Go.Proofs.YtgaklngnfecdaaaGreat
namespace Zx
open Go.RowKit Zk
section
variable {P : Program} {N : Nat} {Q : Post} {env : Env} {w w0 : World} {M : Nat → Prop} {rs : List Res} {K : Env → World → Prop} {d : Tmp} {ty : TypeId} {pos : String} {after : Array Edge} {g : Option (Nat × Bool)}
def idx:Nat→List Value→List (Nat × Value)
  | _,[]=>[]
  | k,v::vs=>(k,v)::idx (k+1) vs
theorem fill_all (size:Nat):∀ (vs:List Value) (k:Nat) (pre junk:List Value),(∀ v ∈ vs,v.cells.size=size)→pre.length=k*size→junk.length=vs.length*size →
    Instr.fill (fun i=>some (i*size,size)) (pre++junk).toArray (idx k vs)=some (pre++vs.flatMap fun v=>v.cells.toList).toArray
  | [],k,pre,junk,_,_,hj=>by
    obtain rfl:junk=[]:=List.eq_nil_of_length_eq_zero (by simpa using hj)
    simp [idx,Instr.fill]
  | v :: vs,k,pre,junk,hv,hp,hj=>by
    have hvs:=hv v (by simp)
    have hj':junk.length=size+vs.length*size:=by rw [hj,List.length_cons,Nat.succ_mul,Nat.add_comm]
    simp only [idx]
    rw [fill_part (fun i=>some (i*size,size)) _ k (k*size) size v.cells v Z _ Z hvs (by simp;omega)]
    have e1:(pre++junk).toArray.toList.take (k*size)=pre:=by simp [hp]
    have e2:(pre++junk).toArray.toList.drop (k*size+size)=junk.drop size:=by
      simp only [List.drop_append,hp]
      rw [List.drop_of_length_le (by omega),List.nil_append]
      congr 1
      omega
    rw [e1,e2,fill_all size vs (k+1) (pre++v.cells.toList) (junk.drop size) (fun u hu=>hv u (by simp [hu])) (by simp [hp,hvs,Nat.succ_mul]) (by simp;omega)]
    simp
theorem evp_idx (e:Env):∀ (parts:List (Nat × Operand)) (vs:List Value) (k:Nat),parts.map (·.1)=List.range' k parts.length→evl e (parts.map (·.2))=some vs→evp e parts=some (idx k vs)
  | [],vs,k,_,h=>by simp only [List.map_nil,evl,Option.some.injEq] at h;subst h;rfl
  | (i, x)::parts,vs,k,hi,h=>by
    simp only [List.map_cons,evl] at h
    simp only [List.map_cons,List.length_cons,List.range'_succ,List.cons.injEq] at hi
    cases hx:ev e x with
    | none=>rw [hx] at h;cases h
    | some v =>
      cases hxs:evl e (parts.map (·.2)) with
      | none=>rw [hx,hxs] at h;cases h
      | some us =>
        rw [hx,hxs] at h
        simp only [Option.some.injEq] at h
        subst h
        simp only [evp,hx,evp_idx e parts us (k+1) hi.2 hxs,idx,hi.1]
theorem eB_ {t e:TypeId} {z:Value} {size bytes len:Nat} {parts:Array (Nat × Operand)} {us:List Value} (vs:List Value) (TE:Elem P t e z size bytes) (hz:∀ W,(zeroValue e).run P W=.ok z W) (S:St w0 M rs w) (hp:evl env (parts.toList.map (·.2))=some us)
    (hi:parts.toList.map (·.1)=List.range' 0 parts.toList.length) (hlp:parts.toList.length=len) (hus:us.all (fun v=>Nat.beq v.cells.size size)=true) (hvs:us.flatMap (fun v=>v.cells.toList)=vs)
    (hl:Nat.ble (len*size) 16777216=true) (h0:Nat.blt 0 (len*size)=true) (hd:Nat.blt d N=true)
    (h:∀ b w',Like w w'→St w0 M (rs++[row e size (some ⟨b,0,none⟩) len len vs]) w'→K ((d,.slice (some ⟨b,0,none⟩) len len)::env) w') :
    O P N Q ⟨some d,.buildSlice t len parts,ty,pos,after,g⟩ env w K:=fun a ha=>by
  have hpe:(parts.map fun (i,x)=>(i,a.eval x)).toList=idx 0 us:=by
    rw [← lb_ ha parts.toList (idx 0 us) (evp_idx env parts.toList us 0 hi hp)]
    simp
  have hul:us.length=len:=by
    have h1:=eu_ ha _ _ hp
    rw [← h1]
    simpa using hlp
  have husz:∀ v ∈ us,v.cells.size=size:=fun v hv=>by
    have:=List.all_eq_true.1 hus v hv
    simpa using this
  have hvl:vs.length=len*size:=by
    rw [← hvs, ← hul]
    clear hvs hus hp hpe hul
    induction us with
    | nil=>simp
    | cons u us ih=>simp [husz u (by simp),ih (fun v hv=>husz v (by simp [hv])),Nat.succ_mul,Nat.add_comm]
  obtain ⟨i,hi,hz',hsize,hby⟩:=info_parts TE.hi
  have hsz:(P.info? e).map (·.size)=some size:=by rw [hi];simp [hsize]
  have hl':¬ len*size > 2 ^ 24:=by have:len*size≤16777216:=by simpa using hl
                                   omega
  have h0':¬ len*size=0:=by have:0 < len*size:=by simpa using h0
                            omega
  have hlen:len≤maxLen:=by
    have h1:len*1≤len*size:=Nat.mul_le_mul_left _ TE.hsz
    unfold maxLen
    omega
  have hfill:Instr.fill (fun i=>some (i*size,size)) ((Array.range (len*size)).map (z.cells[· % z.cells.size]!)) (idx 0 us)=some vs.toArray:=by
    have:=fill_all size us 0 [] ((Array.range (len*size)).map (z.cells[· % z.cells.size]!)).toList husz (by simp) (by simp [hul])
    simp only [List.nil_append,hvs] at this
    exact this
  have hrun:(Instr.buildSlice t len (parts.map fun (i,x)=>(i,a.eval x))).run P w=.ok (.slice (some ⟨w.heap.size,0,none⟩) len len) (w.alloc (.cells vs.toArray e)):=by
    simp only [Instr.buildSlice,Sem.run_bind,run_underlying TE.ht,Result.andThen_ok,aK_ hsz,if_neg hl',if_neg h0',hz,Sem.run_pure,hpe,hfill,newRow,run_newObj_alloc]
  unfold Oper.wp execOp
  simp only [Sem.run_bind,hrun,Result.andThen_ok,Sem.run_pure]
  refine ⟨_,ha.put d _ hd,h _ _ (bn_ w _) (S.new (bn_ w _) _ (World.ownsRow_lit w vs.toArray len (Nat.zero_le _) hlen (by simpa using hvl)) fun i hi=>?_)⟩
  change (Value.slice (some ⟨w.heap.size,0,none⟩) len len).ownBlock=some i at hi
  simp only [Value.ownBlock,Option.some.injEq] at hi
  subst hi
  exact ⟨Nat.le_refl _,by simp⟩
theorem ah_ {t e:TypeId} {z:Value} {size bytes len:Nat} {parts:Array (Nat × Operand)} {us:List Value} (vs:List Value) (TE:Elem P t e z size bytes) (hz:∀ W,(zeroValue e).run P W=.ok z W) (S:St w0 M rs w) (hp:evl env (parts.toList.map (·.2))=some us)
    (hi:parts.toList.map (·.1)=List.range' 0 parts.toList.length) (hlp:parts.toList.length=len) (hus:us.all (fun v=>Nat.beq v.cells.size size)=true) (hvs:us.flatMap (fun v=>v.cells.toList)=vs)
    (hl:Nat.ble (len*size) 16777216=true) (h0:Nat.blt 0 (len*size)=true) (hd:Nat.blt d N=true)
    (h:∀ b w',St w0 M (rs++[row e size (some ⟨b,0,none⟩) len len vs]) w'→K ((d,.slice (some ⟨b,0,none⟩) len len)::env) w') :
    O P N Q ⟨some d,.buildSlice t len parts,ty,pos,after,g⟩ env w K:=eB_ vs TE hz S hp hi hlp hus hvs hl h0 hd fun b w' _=>h b w'
theorem o_bsl0 {t e:TypeId} {z:Value} {size bytes:Nat} (TE:Elem P t e z size bytes) (S:St w0 M rs w) (hd:Nat.blt d N=true)
    (h:∀ b w',Like w w'→St w0 M (rs++[row e size (some ⟨b,0,none⟩) 0 0 []]) w'→K ((d,.slice (some ⟨b,0,none⟩) 0 0)::env) w') :
    O P N Q ⟨some d,.buildSlice t 0 #[],ty,pos,after,g⟩ env w K:=fun a ha=>by
  obtain ⟨i,hi,hz',hsize,hby⟩:=info_parts TE.hi
  have hsz:(P.info? e).map (·.size)=some size:=by rw [hi];simp [hsize]
  have hrun:(Instr.buildSlice t 0 ((#[]:Array (Nat × Operand)).map fun (i,x)=>(i,a.eval x))).run P w=.ok (.slice (some ⟨w.heap.size,0,none⟩) 0 0) (w.alloc (.cells #[] e)):=by
    have h1:¬ (0:Nat) > 2 ^ 24:=by omega
    simp only [Instr.buildSlice,Sem.run_bind,run_underlying TE.ht,Result.andThen_ok,aK_ hsz,Nat.zero_mul,if_neg h1,if_true,Sem.run_pure,List.map_toArray,List.map_nil,Instr.fill,newRow,show Array.range 0 = #[] from Z,Array.map_empty,run_newObj_alloc]
  unfold Oper.wp execOp
  simp only [Sem.run_bind,hrun,Result.andThen_ok,Sem.run_pure]
  refine ⟨_,ha.put d _ hd,h _ _ (bn_ w _) (S.new (bn_ w _) _ (World.ownsRow_lit w #[] 0 (Nat.zero_le _) (Nat.zero_le _) (by simp)) fun i hi=>?_)⟩
  change (Value.slice (some ⟨w.heap.size,0,none⟩) 0 0).ownBlock=some i at hi
  simp only [Value.ownBlock,Option.some.injEq] at hi
  subst hi
  exact ⟨Nat.le_refl _,by simp⟩
theorem o_make {t e:TypeId} {z:Value} {bytes:Nat} {x y:Operand} {k k':IntKind} {jn jc:Int} {n c:Nat} (TE:Elem P t e z 1 bytes) (hone:z.oneCell'=true) (S:St w0 M rs w) (hx:ev env x=some (.int k jn)) (hy:ev env y=some (.int k' jc)) (hn:Nt jn n) (hc:Nt jc c) (hd:Nat.blt d N=true)
    (hnc:n≤c) (hbytes:c*bytes≤281474976710656) (hcm:c≤9223372036854775807)
    (h:∀ b w',St w0 M (rs++[row e 1 (some ⟨b,0,none⟩) n c (List.replicate n z)]) w'→K ((d,.slice (some ⟨b,0,none⟩) n c)::env) w') :
    O P N Q ⟨some d,.makeSlice t x y,ty,pos,after,g⟩ env w K:=fun a ha=>by
  have e1:=hn.eq
  have e2:=hc.eq
  subst e1;subst e2
  obtain ⟨i,hi,hz',hsize,hby⟩:=info_parts TE.hi
  have hb:(i.bytes:Int)*(c:Int)≤281474976710656:=by
    have h:((i.bytes*c:Nat):Int)≤281474976710656:=by rw [hby,Nat.mul_comm];omega
    rwa [Int.natCast_mul] at h
  have hr:=run_make (P:=P) w t e i z TE.ht hi hz' k k' n c (by omega) (by omega) hb (by omega)
  simp only [Int.toNat_natCast] at hr
  unfold Oper.wp execOp
  simp only [ha.eval hx,ha.eval hy,Sem.run_bind,hr,Result.andThen_ok,Sem.run_pure]
  have hzc:z.cells.size=1:=TE.hzs
  have hcells:madeCells z.cells (c*i.size)=Array.replicate c z:=by
    rw [hsize,Nat.mul_one,cells_one hone]
    apply Array.ext
    · simp [madeCells]
    · intro j h1 h2
      simp [madeCells,Nat.mod_one]
  refine ⟨_,ha.put d _ hd,h _ _ (S.new (bn_ w _) _ ?_ fun i hi=>?_)⟩
  · refine ⟨by simp,.inr ⟨w.heap.size,c,_,rfl,Nat.zero_le _,heap_alloc_new w _,hnc,by unfold maxLen;omega,?_,?_⟩⟩
    · rw [hcells];simp
    · rw [hcells,Nat.mul_one]
      simp [hnc]
  · change (Value.slice (some ⟨w.heap.size,0,none⟩) n c).ownBlock=some i at hi
    simp only [Value.ownBlock,Option.some.injEq] at hi
    subst hi
    exact ⟨Nat.le_refl _,by simp⟩
theorem iB_ {x y:Operand} {dT sT el b o t dLen dCap sLen sCap:Nat} {A A':Option Addr} {cs:Array Value} {src news:List Value} (S:St w0 M rs w) (k:Nat) (hk:rs[k]?=some (blk b t cs)) (hu:P.underlying dT=some (.slice el)) (hsz:(P.info? el).map (·.size)=some 1)
    (hx:ev env x=some (.slice A dLen dCap)) (hA:A=some ⟨b,o,none⟩) (hy:ev env y=some (.slice A' sLen sCap)) (hr:Rs w 1 A' sLen sCap src) (hn:news=src.take dLen) (hfit:o+news.length≤cs.size) (h1:∀ u ∈ src,u.oneCell'=true) (hd:Nat.blt d N=true)
    (h:∀ w',St w0 M (rs.set k (blk b t (cs.toList.take o++news++cs.toList.drop (o+news.length)).toArray)) w'→K ((d,.int .i64 (news.length:Int))::env) w') :
    O P N Q ⟨some d,.call { callee:=.builtin .copy,args := #[x,y],argTypes := #[dT,sT]},ty,pos,after,g⟩ env w K:=fun a ha=>by
  subst hA
  have hl:news.length=Nat.min sLen dLen:=by
    rw [hn,List.length_take,hr.len,Nat.mul_one]
    exact Nat.min_comm _ _
  have hrd:Reads w w.heap.size 1 A' news.length news:=by
    have h2:=(hr.cut (l:=0) (u:=news.length) (Nat.zero_le _) (by rw [hl];exact Nat.min_le_left _ _)).rd
    unfold ct_ at h2
    have e1:((src.drop (0*1)).take ((news.length - 0)*1))=news:=by
      simp only [Nat.zero_mul,List.drop_zero,Nat.sub_zero,Nat.mul_one]
      rw [hn,List.length_take,List.take_eq_take_iff]
      omega
    rw [e1,Nat.sub_zero] at h2
    split at h2
    · exact h2
    · refine ⟨h2.1,fun h0=>?_⟩
      obtain ⟨ad,h3,h4,h5⟩:=h2.2 h0
      cases A' with
      | none=>cases h3
      | some a0 =>
        simp only [Nat.zero_mul,Option.map_some,Option.some.injEq] at h3
        have e2:a0.add 0=a0:=by unfold Addr.add;simp
        rw [e2] at h3
        subst h3
        exact ⟨_,rfl,h4,h5⟩
  refine wp_copyB w x y dT sT Z el hu hsz b o dLen dCap (ha.eval hx) (ha.eval hy) (S.blk k hk) news hl hrd hfit (fun u hu=>h1 u (by rw [hn] at hu;exact List.mem_of_mem_take hu)) fun w' h2 h3=>⟨_,ha.put d _ hd,h w' (S.upd k hk h3.os h3.tape h3.output h3.size (fun i hi hn=>h3.block i hi (fun e=>hn (by injection e))) h2 fun i hi=>.inl hi)⟩
theorem freeze_at (w:World) (g:Nat) (C:Array Value) (e:TypeId) (hg:w.heap[g]?=some (.cells C e (0,0))) :
    w.grownBy (w.freeze ⟨g,C.size,none⟩ 1) (some g)∧(w.freeze ⟨g,C.size,none⟩ 1).heap[g]?=some (.cells C e (C.size,C.size+1)):=by
  unfold World.freeze
  rw [if_neg (by decide)]
  refine ⟨⟨rfl,rfl,rfl,by simp,fun k hk hne=>?_⟩,?_⟩
  · have:g≠k:=fun e=>hne (by rw [e])
    simp [Array.getElem?_modify,this]
  · simp [Array.getElem?_modify,hg]
theorem jr_ {t e b n c:Nat} {x:Operand} {xs:List Value} (S:St w0 M rs w) (k:Nat) (hk:rs[k]?=some (row e 1 (some ⟨b,0,none⟩) n c xs)) (ht:P.underlying t=some (.slice e)) (he:P.underlying e=some (.int .u8)) (hx:ev env x=some (.slice (some ⟨b,0,none⟩) n c)) (hn:0 < n) (hd:Nat.blt d N=true)
    (h:∀ w',St w0 M (rs.set k (fixed 1 (some ⟨b,0,none⟩) n c xs)) w'→K ((d,.slice (some ⟨b,0,none⟩) n c)::env) w'):O P N Q ⟨some d,.convert t t x,ty,pos,after,g⟩ env w K:=fun a ha=>by
  have hown:w.ownsRow 0 e 1 (.slice (some ⟨b,0,none⟩) n c) n xs:=S.get k hk
  rcases hown.2 with ⟨h1,_⟩ | ⟨g',cap,cur,h1,_,hg,h2,h3,h4,h5⟩
  · cases h1
  · injection h1 with h1 _ h6
    injection h1 with h1
    injection h1 with h1
    subst h1;subst h6
    obtain ⟨f1,f2⟩:=freeze_at w b cur e hg
    have hsh:w.shape? b=some (e,cur.size):=by
      unfold World.shape?
      rw [hg]
    have hr:(convert t t (.slice (some ⟨b,0,none⟩) n c)).run P w=.ok (.slice (some ⟨b,0,none⟩) n c) (w.freeze ⟨b,cur.size,none⟩ 1):=by
      simp [convert,run_underlying ht,run_underlying he,markStringish,hsh]
    unfold Oper.wp execOp
    simp only [ha.eval hx,Sem.run_bind,hr,Result.andThen_ok,Sem.run_pure]
    refine ⟨_,ha.put d _ hd,h _ (S.upd k hk f1.os f1.tape f1.output f1.size (fun i hi hne=>f1.block i hi (fun e=>hne (by injection e with e;subst e;rfl))) ?_ fun i ⟨ad,_,hA,hi⟩=>.inl ?_)⟩
    · have hrs:=cd_ hown
      refine ⟨⟨hrs.rd.1,fun hn=>⟨_,rfl,?_,fun j u hu=>?_⟩⟩,hrs.cap,hrs.max⟩
      · exact (Array.getElem?_eq_some_iff.1 f2).1
      · have hc:=hrs.rd.2 hn
        obtain ⟨ad,had,_,hcell⟩:=hc
        cases had
        have:=hcell j u hu
        rw [Addr.add_mid] at this ⊢
        rw [cell_of_row _ b _ cur e (0,0) hg] at this
        rw [cell_of_row _ b _ cur e _ f2]
        exact this
    · cases hA
      subst hi
      rfl
theorem G_ {st:TypeId} {x y:Operand} {b t:Nat} {cs vs:Array Value} (S:St w0 M rs w) (k:Nat) (hk:rs[k]?=some (blk b t cs)) (hx:ev env x=some (.pointer (some ⟨b,0,none⟩))) (hy:ev env y=some (.agg vs))
    (hsz:(P.info? st).map (·.size)=some vs.size) (hl:vs.size=cs.size) (h1:∀ u ∈ vs.toList,u.oneCell'=true)
    (h:∀ w',St w0 M (rs.set k (blk b t vs)) w'→K env w'):O P N Q ⟨none,.store st x y,ty,pos,after,g⟩ env w K :=
  jo_ S k hk hx hy hsz (by omega) h1 fun w' S'=>h w' (by
    have:(cs.toList.take 0++vs.toList++cs.toList.drop (0+vs.size)).toArray=vs:=by
      rw [Nat.zero_add,hl, ← Array.length_toList,List.drop_length]
      simp
    rwa [this] at S')
theorem hm_ {st:TypeId} {x y:Operand} {e n c k:Nat} {A:Option Addr} {xs:List Value} {v:Value} (S:St w0 M rs w) (i:Nat) (hk:rs[i]?=some (row e 1 A n c xs)) (hx:ev env x=some (pR A k 1)) (hy:ev env y=some v)
    (hv:v.oneCell'=true) (hsz:(P.info? st).map (·.size)=some 1) (hkn:k < n)
    (h:∀ w',St w0 M (rs.set i (row e 1 A n c (xs.set k v))) w'→K env w'):O P N Q ⟨none,.store st x y,ty,pos,after,g⟩ env w K:=fun a ha=>by
  have hown:w.ownsRow 0 e 1 (.slice A n c) n xs:=S.get i hk
  obtain ⟨b,cap,hv',_,hlt⟩:=hown.form (by omega)
  injection hv' with hA _ hcap
  subst hA;subst hcap
  have hxa:a.eval x=.pointer (some ⟨b,k,none⟩):=by
    rw [ha.eval hx]
    simp [pR,Addr.add_mid]
  have hxl:xs.length=n:=by have:=hown.1;simpa using this
  have hc:w.cell? ⟨b,k,none⟩=some (xs[k]'(by omega)):=(hown.cellAt k (by omega)).trans (List.getElem?_eq_getElem (by omega))
  have hf:w.frozen? ⟨b,k,none⟩=false:=hown.frozenAt k
  have hr:(storeVar st ⟨b,k,none⟩ v).run P w=.ok () (w.setCell ⟨b,k,none⟩ v):=by
    simp only [storeVar,Sem.run_bind,aK_ hsz,cells_one hv,Result.andThen_ok]
    simp [storeCells,hv,stored,hc,hf,run_store,go_sem]
  unfold Oper.wp execOp
  simp only [hxa,ha.eval hy,Instr.storeAt,Instr.sureAddr,Sem.run_bind,Sem.run_pure,Result.andThen_ok,hr]
  refine ⟨env,ha,h _ (S.upd i hk Z Z Z (by simp) (fun j hj hn=>Below.heap_setCell w ⟨b,k,none⟩ v j (fun e=>hn (by simp [row,Value.ownBlock,e]))) ?_ fun j hj=>.inl hj)⟩
  exact (hown.stored k v).1
end
section
variable {P : Program} {S : World → Prop} {env : Env} {w : World} {dst : Option Tmp} {ty : TypeId} {pos : String} {after : Array Edge} {g : Option (Nat × Bool)}
theorem iP_ {α:Type} (a0 : α) {x:Operand} {A:Option Addr} {n c k:Nat} {f : α→Value} {l:List α} {lt:TypeId} {d:TypeDesc} (hd:P.underlying lt=some d) (hrow:d.isRow=false) (hx:ev env x=some (pR A k 1)) (hr:Rs w 1 A n c (l.map f)) (hk:k < n) :
    Y P (Like w) env ⟨dst,.load lt x,ty,pos,after,g⟩ (f (l.getD k a0)):=cj_ hd hrow hx hr (by
  have hl:k < l.length:=by have:=hr.len;simp at this;omega
  rw [List.getElem?_map,List.getElem?_eq_getElem hl,Option.map_some,List.getD_eq_getElem?_getD,List.getElem?_eq_getElem hl,Option.getD_some])
theorem bz_ {x i:Operand} {t:TypeId} {s:ByteArray} {q:IntKind} {j:Int} {k:Nat} (ht:P.underlying t=some .string) (hx:ev env x=some (.string s)) (hi:ev env i=some (.int q j)) (hj:Nt j k) (hk:k < s.size) :
    Y P S env ⟨dst,.index t x i,ty,pos,after,g⟩ (.int .u8 (g8 s.data.toList k)):=fun N a w' ha _=>by
  have hj':=hj.eq
  subst hj'
  have hl:k < s.data.toList.length:=by rw [aB_];exact hk
  have:=ds_ (P:=P) ht s k _ (List.getElem?_eq_getElem hl) q w'
  simp only [execOp,ha.eval hx,ha.eval hi,Sem.run_bind,this,Result.andThen_ok,Sem.run_pure]
  simp only [g8,List.getD_eq_getElem?_getD,List.getElem?_eq_getElem hl,Option.getD_some]
theorem iO_ {x i j:Operand} {t:TypeId} {s:ByteArray} {kl kh:IntKind} {jl jh:Int} {l u:Nat} (ht:P.underlying t=some .string) (hx:ev env x=some (.string s)) (hi:ev env i=some (.int kl jl)) (hj:ev env j=some (.int kh jh)) (hl:Nt jl l) (hu:Nt jh u) (h1:l≤u) (h2:u≤s.size) :
    Y P S env ⟨dst,.slice t x (some i) (some j) none,ty,pos,after,g⟩ (.string (s.extract l u)):=fun N a w' ha _=>by
  have e1:=hl.eq
  have e2:=hu.eq
  subst e1;subst e2
  have hb:(Instr.sliceBounds false s.size s.size (some (.int kl (l:Int))) (some (.int kh (u:Int))) none).run P w'=.ok (l,u,s.size) w':=by
    have i1:(0:Int)≤(u:Int)∧(u:Int)≤(s.size:Int):=by omega
    have i2:(0:Int)≤(l:Int)∧(l:Int)≤(u:Int):=by omega
    simp [Instr.sliceBounds,Instr.sliceBound,asIntOf,Sem.run_bind,h1,h2]
  simp only [execOp,ha.eval hx,Option.map_some,Option.map_none,ha.eval hi,ha.eval hj,Instr.sliceAt,Instr.slice,Sem.run_bind,run_underlying ht,Result.andThen_ok,hb,Sem.run_pure,Option.isSome_none,Bool.false_eq_true,if_false]
theorem cQ_ {x i:Operand} {t:TypeId} {s:ByteArray} {kl:IntKind} {jl:Int} {l:Nat} (ht:P.underlying t=some .string) (hx:ev env x=some (.string s)) (hi:ev env i=some (.int kl jl)) (hl:Nt jl l) (h1:l≤s.size) :
    Y P S env ⟨dst,.slice t x (some i) none none,ty,pos,after,g⟩ (.string (s.extract l s.size)):=fun N a w' ha _=>by
  have e1:=hl.eq
  subst e1
  have hb:(Instr.sliceBounds false s.size s.size (some (.int kl (l:Int))) none none).run P w'=.ok (l,s.size,s.size) w':=by
    simp [Instr.sliceBounds,Instr.sliceBound,asIntOf,Sem.run_bind,h1]
  simp only [execOp,ha.eval hx,Option.map_some,Option.map_none,ha.eval hi,Instr.sliceAt,Instr.slice,Sem.run_bind,run_underlying ht,Result.andThen_ok,hb,Sem.run_pure,Option.isSome_none,Bool.false_eq_true,if_false]
theorem eI_ {x j:Operand} {t:TypeId} {s:ByteArray} {kh:IntKind} {jh:Int} {u:Nat} (ht:P.underlying t=some .string) (hx:ev env x=some (.string s)) (hj:ev env j=some (.int kh jh)) (hu:Nt jh u) (h2:u≤s.size) :
    Y P S env ⟨dst,.slice t x none (some j) none,ty,pos,after,g⟩ (.string (s.extract 0 u)):=fun N a w' ha _=>by
  have e2:=hu.eq
  subst e2
  have hb:(Instr.sliceBounds false s.size s.size none (some (.int kh (u:Int))) none).run P w'=.ok (0,u,s.size) w':=by
    simp [Instr.sliceBounds,Instr.sliceBound,asIntOf,Sem.run_bind,h2]
  simp only [execOp,ha.eval hx,Option.map_some,Option.map_none,ha.eval hj,Instr.sliceAt,Instr.slice,Sem.run_bind,run_underlying ht,Result.andThen_ok,hb,Sem.run_pure,Option.isSome_none,Bool.false_eq_true,if_false]
theorem co_ {x:Operand} {src dt e:TypeId} {A:Option Addr} {n c:Nat} {l:List UInt8} (hs:P.underlying src=some (.slice e)) (he:P.underlying e=some (.int .u8)) (hd:P.underlying dt=some .string) (hx:ev env x=some (.slice A n c)) (hr:Rs w 1 A n c (bL l)) :
    Y P (Like w) env ⟨dst,.convert src dt x,ty,pos,after,g⟩ (.string ⟨l.toArray⟩):=fun N a w' ha hw=>by
  simp only [execOp,ha.eval hx,Sem.run_bind,jb_ c hs he hd (hr.rd.below hw),Sem.run_pure,Result.andThen_ok]
theorem gY_ {x:Operand} {t e:TypeId} {b o len size:Nat} (ht:P.underlying t=some (.array len e)) (hsz:(P.info? e).map (·.size)=some size) (hx:ev env x=some (.pointer (some ⟨b,o,none⟩))) :
    Y P S env ⟨dst,.slice t x none none none,ty,pos,after,g⟩ (.slice (some ⟨b,o,none⟩) len len):=fun N a w' ha _=>by
  simp only [execOp,ha.eval hx,Option.map_none,Instr.sliceAt,Instr.sureAddr,Instr.sliceBounds,Sem.run_bind,run_underlying ht,Result.andThen_ok,aK_ hsz,Sem.run_pure]
  congr 3
  · split
    · rfl
    · simp [Addr.add_mid]
theorem y_asliceL {x i:Operand} {t e:TypeId} {b o len size l:Nat} {kl:IntKind} {jl:Int} (ht:P.underlying t=some (.array len e)) (hsz:(P.info? e).map (·.size)=some size) (hx:ev env x=some (.pointer (some ⟨b,o,none⟩)))
    (hi:ev env i=some (.int kl jl)) (hl:Nt jl l) (h1:l≤len) :
    Y P S env ⟨dst,.slice t x (some i) none none,ty,pos,after,g⟩ (.slice (ct_ (some ⟨b,o,none⟩) len l size) (len - l) (len - l)):=fun N a w' ha _=>by
  have e1:=hl.eq
  subst e1
  have hb:(Instr.sliceBounds false len len (some (.int kl (l:Int))) none none).run P w'=.ok (l,len,len) w':=by
    simp [Instr.sliceBounds,Instr.sliceBound,asIntOf,Sem.run_bind,h1]
  simp only [execOp,ha.eval hx,Option.map_some,Option.map_none,ha.eval hi,Instr.sliceAt,Instr.sureAddr,Sem.run_bind,run_underlying ht,Result.andThen_ok,hb,aK_ hsz,Sem.run_pure]
  congr 3
  unfold ct_
  split <;> rfl
theorem Rs.of_blk {b t o n:Nat} {cs:Array Value} (h:Blk w b t cs) (hn:o+n≤cs.size) (hm:n≤9223372036854775807):Rs w 1 (some ⟨b,o,none⟩) n n ((cs.toList.drop o).take n) :=
  ⟨(h.reads o n hn).more (by have:=h.lt;omega),Nat.le_refl _,hm⟩
theorem C_ {t:TypeId} {parts:Array (Nat × Operand)} {ps:List (Nat × Value)} {cs:Array Value} (hp:evp env parts.toList=some ps) (hb:P.built t ps=some cs) :
    Y P S env ⟨dst,.build t parts,ty,pos,after,g⟩ (.agg cs):=fun N a w ha _=>by
  have hpe:(parts.map fun (i,x)=>(i,a.eval x)).toList=ps:=by
    rw [← lb_ ha parts.toList ps hp]
    simp
  simp only [execOp,Sem.run_bind,run_build (P:=P) w t _ cs (by rw [hpe];exact hb),Result.andThen_ok,Sem.run_pure]
theorem isAgg_run {t:TypeId} {d:TypeDesc} (hd:P.underlying t=some d) (w:World):(isAgg t).run P w=.ok d.isRow w:=by
  unfold isAgg
  rw [Sem.run_bind,run_underlying hd w]
  cases d <;> rfl
theorem y_idxV {x i:Operand} {t e:TypeId} {n:Nat} {d:TypeDesc} {cs:Array Value} {q:IntKind} {j:Int} {k:Nat} {v:Value} (ht:P.underlying t=some (.array n e)) (hd:P.underlying e=some d) (hrow:d.isRow=false) (hsz:(P.info? e).map (·.size)=some 1)
    (hx:ev env x=some (.agg cs)) (hi:ev env i=some (.int q j)) (hj:Nt j k) (hk:k < n) (hv:cs[k]?=some v):Y P S env ⟨dst,.index t x i,ty,pos,after,g⟩ v:=fun N a w ha _=>by
  have hj':=hj.eq
  subst hj'
  have h1:=isAgg_run hd w
  rw [hrow] at h1
  have h2:(0:Int)≤(k:Int)∧(k:Int) < (n:Int):=by omega
  simp only [execOp,ha.eval hx,ha.eval hi,Instr.index,asIntOf,Sem.run_bind,run_underlying ht,Result.andThen_ok,Sem.run_pure,h2,and_self,if_true,aK_ hsz,part,h1,Bool.false_eq_true,if_false,Int.toNat_natCast,Nat.mul_one,hv]
theorem Y_ {x:Operand} {b o t size:Nat} {cs:Array Value} {vs:List Value} {lt:TypeId} {d:TypeDesc} (hd:P.underlying lt=some d) (hrow:d.isRow=true) (hsz:(P.info? lt).map (·.size)=some size) (hx:ev env x=some (.pointer (some ⟨b,o,none⟩))) (hb:Blk w b t cs) (hv:(cs.toList.drop o).take size=vs∧vs.length=size) :
    Y P (Like w) env ⟨dst,.load lt x,ty,pos,after,g⟩ (.agg vs.toArray):=by
  obtain ⟨h1,h2⟩:=hv
  refine y_ldR hd hrow (by rw [h2];exact hsz) hx fun j v hj=>?_
  rw [hb.cell]
  rw [← h1,List.getElem?_take] at hj
  split at hj
  · rw [List.getElem?_drop] at hj
    simpa using hj
  · cases hj
theorem eY_ {x:Operand} {t e:TypeId} {u:TypeId} {p:Option Addr} (ht:P.underlying t=some (.pointer e)) (hx:ev env x=some (.pointer p)):Y P S env ⟨dst,.binOp .eql t x (.const (.pointer none)) u,ty,pos,after,g⟩ (.bool p.isNone):=fun N a w ha _=>by
  have hy:a.eval (.const (.pointer none))=.pointer none:=rfl
  have hr:(Op.equal t (.pointer p) (.pointer none)).run P w=.ok p.isNone w:=by
    have:∀ d,(Op.equalIn (d+1) t (.pointer p) (.pointer none)).run P w=.ok p.isNone w:=fun d=>by cases p <;> simp [Op.equalIn,run_underlying ht]
    exact this 9999
  simp only [execOp,ha.eval hx,hy,eqGuard,binOp,Bool.not_true,Bool.false_eq_true,if_false,ite_self,Sem.run_bind,Sem.run_pure,Result.andThen_ok,hr]
theorem iu_ {x:Operand} {t e:TypeId} {u:TypeId} {p:Option Addr} (ht:P.underlying t=some (.pointer e)) (hx:ev env x=some (.pointer p)):Y P S env ⟨dst,.binOp .neq t x (.const (.pointer none)) u,ty,pos,after,g⟩ (.bool (!p.isNone)):=fun N a w ha _=>by
  have hy:a.eval (.const (.pointer none))=.pointer none:=rfl
  have hr:(Op.equal t (.pointer p) (.pointer none)).run P w=.ok p.isNone w:=by
    have:∀ d,(Op.equalIn (d+1) t (.pointer p) (.pointer none)).run P w=.ok p.isNone w:=fun d=>by cases p <;> simp [Op.equalIn,run_underlying ht]
    exact this 9999
  simp only [execOp,ha.eval hx,hy,eqGuard,binOp,Bool.not_true,Bool.false_eq_true,if_false,ite_self,Sem.run_bind,Sem.run_pure,Result.andThen_ok,hr]
theorem y_seqn {x:Operand} {t e:TypeId} {u:TypeId} {A:Option Addr} {n c:Nat} (ht:P.underlying t=some (.slice e)) (hx:ev env x=some (.slice A n c)):Y P S env ⟨dst,.binOp .eql t x (.const (.slice none 0 0)) u,ty,pos,after,g⟩ (.bool A.isNone):=fun N a w ha _=>by
  have hy:a.eval (.const (.slice none 0 0))=.slice none 0 0:=rfl
  simp only [execOp,ha.eval hx,hy,eqGuard,binOp,Bool.not_true,Bool.false_eq_true,if_false,ite_self,Sem.run_bind,Sem.run_pure,Result.andThen_ok,run_equal_slice_nil w t e A n c ht]
theorem ir_ (op:BinOp) {t:TypeId} (x y:Operand) (xs ys:Array Value) (hm:P.eqGuardType P.depth t=false) (w:World):(eqGuard op t x y (.agg xs) (.agg ys)).run P w=.ok () w:=run_eqGuard_agg (w:=w) op t x y xs ys hm
theorem y_eqB {x y:Operand} {t e u:TypeId} {n:Nat} {l m:List UInt8} (ht:P.underlying t=some (.array n e)) (he:P.underlying e=some (.int .u8)) (hs:(P.info? e).map (·.size)=some 1) (hm:P.eqGuardType P.depth t=false)
    (hx:ev env x=some (.agg (bA l))) (hy:ev env y=some (.agg (bA m))) (hl:l.length=n) (hml:m.length=n):Y P S env ⟨dst,.binOp .eql t x y u,ty,pos,after,g⟩ (.bool (decide (l=m))):=fun N a w ha _=>by
  have h1:=run_eql_bytes (P:=P) ht he hs l m hl hml w
  have h2:(l == m)=decide (l=m):=by by_cases h:l=m <;> simp [h]
  rw [h2] at h1
  simp only [execOp,ha.eval hx,ha.eval hy,Sem.run_bind,ir_ .eql x y _ _ hm w,Result.andThen_ok,h1,Sem.run_pure]
theorem y_neB {x y:Operand} {t e u:TypeId} {n:Nat} {l m:List UInt8} (ht:P.underlying t=some (.array n e)) (he:P.underlying e=some (.int .u8)) (hs:(P.info? e).map (·.size)=some 1) (hm:P.eqGuardType P.depth t=false)
    (hx:ev env x=some (.agg (bA l))) (hy:ev env y=some (.agg (bA m))) (hl:l.length=n) (hml:m.length=n):Y P S env ⟨dst,.binOp .neq t x y u,ty,pos,after,g⟩ (.bool (decide (l≠m))):=fun N a w ha _=>by
  have h1:=jQ_ (P:=P) ht he hs l m hl hml w
  have h2:(!(l == m))=decide (l≠m):=by
    by_cases h:l=m <;> simp [h]
  rw [h2] at h1
  simp only [execOp,ha.eval hx,ha.eval hy,Sem.run_bind,ir_ .neq x y _ _ hm w,Result.andThen_ok,h1,Sem.run_pure]
theorem retc {fn:Func} {R:Ending→World→Prop} {p:Tmp} {lt b t:Nat} {cs:Array Value} {d:TypeDesc} (hr:fn.results = #[.cell p lt]) (hp:look env p=some (.pointer (some ⟨b,0,none⟩))) (hb:Blk w b t cs) (hd:P.underlying lt=some d) (hrow:d.isRow=true)
    (hsz:(P.info? lt).map (·.size)=some cs.size) (h:R (.returned (.agg cs)) w) (hd0:dfs env=[]:=by rfl):dj_ P fn R .ret env w :=
  ⟨hd0,_,fun N a ha=>resB hr a.tmps (ha.getD hp) hb d hd hrow hsz,h⟩
theorem af_ {fn:Func} {R:Ending→World→Prop} {p q:Tmp} {lt b t:Nat} {cs:Array Value} {d:TypeDesc} {v:Value} (hr:fn.results = #[.cell p lt,.tmp q]) (hp:look env p=some (.pointer (some ⟨b,0,none⟩))) (hq:look env q=some v) (hb:Blk w b t cs) (hd:P.underlying lt=some d) (hrow:d.isRow=true)
    (hsz:(P.info? lt).map (·.size)=some cs.size) (h:R (.returned (.tuple #[.agg cs,v])) w) (hd0:dfs env=[]:=by rfl):dj_ P fn R .ret env w :=
  ⟨hd0,_,fun N a ha=>by rw [fM_ hr a.tmps (ha.getD hp) hb d hd hrow hsz,ha.getD hq],h⟩
end
end Zx
namespace Zk
open Go.ChangeShapes Go.WideShapes Go.ChangeAt Go.RowKit
open Go.ChangeMaps (open_string shut_string)
section
variable {H : Type} {enc : TypeId × Value → H} {P : Program} {w : World} {base : Nat} {spare : Nat → Bool} {held : Bool}
theorem u8_of (n:Int) (h:(Lit.int .u8 n).wf=true):∃ c:UInt8,n=(c.toNat:Int):=by
  have hb:=bounds_u8 h
  refine ⟨UInt8.ofNat n.toNat,?_⟩
  rw [UInt8.toNat_ofNat']
  omega
end
end Zk
namespace Zx
open Go.ChangeShapes Go.WideShapes Go.ChangeAt Go.RowKit Go.Deep Zk
section
variable {H : Type} {enc : TypeId × Value → H} {P : Program} {w : World} {base : Nat} {spare : Nat → Bool} {held : Bool}
theorem kU_ {α:Type} (p:Nat → α→Prop):∀ n,(∀ i,i < n→∃ x,p i x)→∃ l:List α,l.length=n∧∀ i x,l[i]?=some x→p i x
  | 0,_=>⟨[],rfl,fun i x h=>by simp at h⟩
  | n + 1,h=>by
    obtain ⟨l,hl,hp⟩:=kU_ p n (fun i hi=>h i (by omega))
    obtain ⟨x,hx⟩:=h n (by omega)
    refine ⟨l++[x],by simp [hl],fun i y hy=>?_⟩
    rw [List.getElem?_append] at hy
    split at hy
    · exact hp i y hy
    · rename_i hi
      have:i=n:=by
        have:=(List.getElem?_eq_some_iff.1 hy).1
        simp at this
        omega
      subst this
      simp [hl] at hy
      rw [← hy]
      exact hx
theorem read_row1 {α:Type} (f : α→Value) (φ : α→Prop) {t e:TypeId} (ht:P.underlying t=some (.slice e)) (hc:P.cellsOf e=1)
    (hread:∀ n v x,DataW.trod enc P w base spare held n e [v]=some x→∃ y,v=f y ∧ φ y)
    {fuel:Nat} {cs:List Value} {x:DataW H × List MemPlace} (h:DataW.trod enc P w base spare held fuel t cs=some x) :
    ∃ A n c,∃ l:List α,cs=[.slice A n c]∧Rs w 1 A n c (l.map f)∧∀ y ∈ l, φ y:=by
  rcases open_slice1 ht hc h with ⟨rfl,_⟩ | ⟨a,len,cap,m,n,V,D,Pl,rfl,_,hl,hm,hmm,_,hi⟩
  · exact ⟨none,0,0,[],rfl,Rs.nil w 1,fun y hy=>by cases hy⟩
  · have hle:len≤m:=by rw [hmm];split <;> omega
    obtain ⟨l,hll,hp⟩:=kU_ (fun i (y : α)=>V i=f y ∧ φ y) len (fun i hil=>by
      obtain ⟨_,h2⟩:=hi i (by omega)
      obtain ⟨y,h3,h4⟩:=hread n (V i) _ h2
      exact ⟨y,h3,h4⟩)
    refine ⟨some a,len,cap,l,rfl,⟨⟨by simp [hll],fun h0=>⟨a,rfl,?_,fun j u hu=>?_⟩⟩,hl,by unfold maxLen at hm;exact hm⟩,fun y hy=>?_⟩
    · have h1:=(hi 0 (by omega)).1
      have:=World.block_lt_of_cell? w _ h1
      rwa [bJ_] at this
    · rw [List.getElem?_map] at hu
      cases hj:l[j]? with
      | none=>rw [hj] at hu;cases hu
      | some y =>
        rw [hj] at hu
        simp only [Option.map_some,Option.some.injEq] at hu
        have hjl:j < len:=by rw [← hll];exact (List.getElem?_eq_some_iff.1 hj).1
        rw [← hu, ← (hp j y hj).1]
        exact (hi j (by omega)).1
    · obtain ⟨i,hi2,rfl⟩:=List.getElem_of_mem hy
      exact (hp i _ (List.getElem?_eq_getElem hi2)).2
theorem read_u8 {e:TypeId} (he:P.underlying e=some (.int .u8)) (n:Nat) (v:Value) (x:DataW H × List MemPlace) (h:DataW.trod enc P w base spare held n e [v]=some x):∃ y,v=bV y∧True:=by
  obtain ⟨a,ha,_,hw⟩:=DataW.trod_int he h
  obtain ⟨c,rfl⟩:=u8_of a hw
  simp only [List.cons.injEq,and_true] at ha
  exact ⟨c,ha,trivial⟩
theorem ls_ {t e:TypeId} (ht:P.underlying t=some (.slice e)) (he:P.underlying e=some (.int .u8)) (hc:P.cellsOf e=1)
    {fuel:Nat} {cs:List Value} {x:DataW H × List MemPlace} (h:DataW.trod enc P w base spare held fuel t cs=some x) :
    ∃ A n c l,cs=[.slice A n c]∧Rs w 1 A n c (bL l):=by
  obtain ⟨A,n,c,l,h1,h2,_⟩:=read_row1 bV (fun _=>True) ht hc (read_u8 he) h
  exact ⟨A,n,c,l,h1,h2⟩
structure Part where
  A:Option Addr
  n:Nat
  c:Nat
  l:List UInt8
def pv (p:Part):Value:=.slice p.A p.n p.c
def p0:Part:=⟨none,0,0,[]⟩
def Part.ok (w:World) (p:Part):Prop:=Rs w 1 p.A p.n p.c (bL p.l)
theorem iZ_ {r:Reach} {b0:Nat} {t e:TypeId} {v:Value} {A:Option Addr} {n c:Nat} (ht:P.underlying t=some (.slice e)) (hv:Value.okWide P w r b0 t v) (h:v.cells.toList=[.slice A n c]):v=.slice A n c:=by
  obtain ⟨A',n',c',rfl⟩:=okWide_slice ht hv
  simpa [Value.cells] using h
end
end Zx
namespace Zx
open Go.RowKit Zk
structure Turned (w w':World) (r r':Res):Prop where
  os:w'.os=w.os
  tape:w'.tape=w.tape
  output:w'.output=w.output
  size:w.heap.size≤w'.heap.size
  old:∀ i,i < w.heap.size→¬ r.dom i→w'.heap[i]?=w.heap[i]?
  holds:r'.holds w'
  dom:∀ i,r'.dom i→r.dom i∨(w.heap.size≤i∧i < w'.heap.size)
def both (r s:Res):Res where
  dom i:=r.dom i∨s.dom i
  holds w:=r.holds w∧s.holds w
  stable w w' h hh:=⟨r.stable w w' (fun i hi=>h i (.inl hi)) hh.1,s.stable w w' (fun i hi=>h i (.inr hi)) hh.2⟩
section
variable {w0 w w' : World} {M : Nat → Prop} {rs : List Res}
theorem St.turn (S:St w0 M rs w) (k:Nat) {r r':Res} (hk:rs[k]?=some r) (h:Turned w w' r r'):St w0 M (rs.set k r') w' :=
  S.upd k hk h.os h.tape h.output h.size h.old h.holds h.dom
theorem Turned.refl {w:World} {r:Res} (h:r.holds w):Turned w w r r:=⟨rfl,rfl,rfl,Nat.le_refl _,fun _ _ _=>rfl,h,fun i hi=>.inl hi⟩
theorem Turned.like {r:Res} (l:Like w w') (h:r.holds w) (hd:∀ i,r.dom i→i < w.heap.size):Turned w w' r r :=
  ⟨l.os,l.tape,l.output,l.size,fun i hi _=>l.block i hi,r.stable w w' (fun i hi=>l.block i (hd i hi)) h,fun i hi=>.inl hi⟩
theorem St.newT (S:St w0 M rs w) (k:Nat) {r r':Res} (hk:rs[k]?=some r) (h:Turned w w' r r') (hdom:∀ i,r'.dom i→r.dom i) {new:Res} (hn:new.holds w') (hd:∀ i,new.dom i→w.heap.size≤i∧i < w'.heap.size):St w0 M (rs.set k r'++[new]) w':=by
  have S':=S.turn k hk h
  have hin:∀ q ∈ rs.set k r',∀ i,q.dom i→i < w.heap.size:=fun q hq i hi=>by
    rcases List.mem_or_eq_of_mem_set hq with hq | rfl
    · exact ((S.res q hq).2 i hi).1
    · exact ((S.res r (List.mem_of_getElem? hk)).2 i (hdom i hi)).1
  refine ⟨S'.os,S'.tape,S'.output,S'.size,S'.old,fun q hq=>?_,?_⟩
  · rcases List.mem_append.1 hq with hq | hq
    · exact S'.res q hq
    · obtain rfl:=List.mem_singleton.1 hq
      exact ⟨hn,fun i hi=>⟨(hd i hi).2,.inl (Nat.le_trans S.size (hd i hi).1)⟩⟩
  · rw [List.pairwise_append]
    refine ⟨S'.apart,List.pairwise_singleton _ _,fun q hq s hs i hi hsi=>?_⟩
    obtain rfl:=List.mem_singleton.1 hs
    have h1:=hin q hq i hi
    have h2:=(hd i hsi).1
    omega
theorem St.borrow2 (r s:Res) (hr:r.holds w) (hs:s.holds w) (hd:∀ i,r.dom i∨s.dom i→i < w.heap.size) (hap:∀ i,r.dom i→¬ s.dom i):St w (fun i=>r.dom i∨s.dom i) [r,s] w :=
  ⟨rfl,rfl,rfl,Nat.le_refl _,fun _ _ _=>rfl,fun q hq=>by
    rcases List.mem_cons.1 hq with rfl | hq
    · exact ⟨hr,fun i hi=>⟨hd i (.inl hi),.inr (.inl hi)⟩⟩
    · obtain rfl:=List.mem_singleton.1 hq
      exact ⟨hs,fun i hi=>⟨hd i (.inr hi),.inr (.inr hi)⟩⟩,List.pairwise_cons.2 ⟨fun s' hs'=>by obtain rfl:=List.mem_singleton.1 hs';exact hap,List.pairwise_singleton _ _⟩⟩
theorem St.borrow1 (r:Res) (hr:r.holds w) (hd:∀ i,r.dom i→i < w.heap.size):St w r.dom [r] w :=
  ⟨rfl,rfl,rfl,Nat.le_refl _,fun _ _ _=>rfl,fun q hq=>by
    obtain rfl:=List.mem_singleton.1 hq
    exact ⟨hr,fun i hi=>⟨hd i hi,.inr hi⟩⟩,List.pairwise_singleton _ _⟩
theorem St.turned1 {r:Res} (S:St w0 r.dom rs w) (k:Nat) {r':Res} (hk:rs[k]?=some r'):Turned w0 w r r' :=
  ⟨S.os,S.tape,S.output,S.size,S.old,S.get k hk,fun i hi=>by
    have h:=(S.res r' (List.mem_of_getElem? hk)).2 i hi
    rcases h.2 with h2 | h2
    · exact .inr ⟨h2,h.1⟩
    · exact .inl h2⟩
theorem St.turned2 {r s:Res} (S:St w0 (fun i=>r.dom i∨s.dom i) rs w) (j k:Nat) {r' s':Res} (hj:rs[j]?=some r') (hk:rs[k]?=some s'):Turned w0 w (both r s) (both r' s') :=
  ⟨S.os,S.tape,S.output,S.size,S.old,⟨S.get j hj,S.get k hk⟩,fun i hi=>by
    have h:i < w.heap.size∧(w0.heap.size≤i∨(r.dom i∨s.dom i)):=by
      rcases hi with hi | hi
      · exact (S.res r' (List.mem_of_getElem? hj)).2 i hi
      · exact (S.res s' (List.mem_of_getElem? hk)).2 i hi
    rcases h.2 with h2 | h2
    · exact .inr ⟨h2,h.1⟩
    · exact .inl h2⟩
theorem St.lt (S:St w0 M rs w) (k:Nat) {r:Res} (hk:rs[k]?=some r):∀ i,r.dom i→i < w.heap.size:=fun i hi=>((S.res r (List.mem_of_getElem? hk)).2 i hi).1
theorem St.apart_ (S:St w0 M rs w) (i j:Nat) {r s:Res} (hi:rs[i]?=some r) (hj:rs[j]?=some s) (hij:Nat.beq i j=false):∀ x,r.dom x→¬ s.dom x:=fun x hx hsx=>by
  have hap:=List.pairwise_iff_getElem.1 S.apart
  obtain ⟨hil,hie⟩:=List.getElem?_eq_some_iff.1 hi
  obtain ⟨hjl,hje⟩:=List.getElem?_eq_some_iff.1 hj
  have hne:i≠j:=fun e=>by subst e;simp at hij
  rcases Nat.lt_or_gt_of_ne hne with h | h
  · exact hap i j hil hjl h x (by rw [hie];exact hx) (by rw [hje];exact hsx)
  · exact hap j i hjl hil h x (by rw [hje];exact hsx) (by rw [hie];exact hx)
theorem St.join {r s:Res} (S:St w0 M [r,s] w):St w0 M [both r s] w :=
  ⟨S.os,S.tape,S.output,S.size,S.old,fun q hq=>by
    obtain rfl:=List.mem_singleton.1 hq
    have h1:=S.res r (by simp)
    have h2:=S.res s (by simp)
    exact ⟨⟨h1.1,h2.1⟩,fun i hi=>by rcases hi with hi | hi;exact h1.2 i hi;exact h2.2 i hi⟩,List.pairwise_singleton _ _⟩
end
section
variable {P : Program} {S : World → Prop} {env : Env} {w w0 : World} {M : Nat → Prop} {rs : List Res} {N : Nat} {Q : Post} {K : Env → World → Prop} {dst : Option Tmp} {d : Tmp} {ty : TypeId} {pos : String} {after : Array Edge} {g : Option (Nat × Bool)}
theorem dk_ {fn:Fn} {first captured:Array Operand} {fs cs:List Value} (hf:evl env first.toList=some fs) (hc:evl env captured.toList=some cs):Y P S env ⟨dst,.makeFunc fn first captured,ty,pos,after,g⟩ (.func fn fs.toArray cs.toArray):=fun N a w ha _=>by
  have e1:first.map a.eval=fs.toArray:=by
    rw [← eu_ ha first.toList fs hf]
    apply Array.ext'
    simp
  have e2:captured.map a.eval=cs.toArray:=by
    rw [← eu_ ha captured.toList cs hc]
    apply Array.ext'
    simp
  simp only [execOp,e1,e2,Instr.makeFunc,Sem.run_bind,Sem.run_pure,Result.andThen_ok]
theorem fj_ {f : FuncId} {fn : Func} {v : Operand} {xs : Array Operand} {ts : Array TypeId} {fs cs vs args : List Value} {R : Ending → World → Prop} (hv : ev env v = some (.func (.func f) fs.toArray cs.toArray)) (hf : P.funcs[f]? = some fn) (hn : (fn.name == "runtime.NumGoroutine") = false) (hb : fn.body.isNone = false)
    (hc:Calls P f args.toArray w R) (hargs:evl env xs.toList=some vs) (hall:fs++vs++cs=args) (hd:∀ d',dst=some d'→Nat.blt d' N=true)
    (h:∀ e w',R e w'→∃ u,e=.returned u∧K (match dst with | some d'=>(d',u)::env | none=>env) w') :
    O P N Q ⟨dst,.call { callee:=.value v,args:=xs,argTypes:=ts },ty,pos,after,g⟩ env w K:=fun a ha=>by
  have hmap:xs.map a.eval=vs.toArray:=by
    rw [← eu_ ha xs.toList vs hargs]
    apply Array.ext'
    simp
  unfold Oper.wp
  have hrun:(execOp a.eval ⟨dst,.call { callee:=.value v,args:=xs,argTypes:=ts },ty,pos,after,g⟩).run P w=.ok (.enter f args.toArray) w:=by
    simp only [execOp,resolve,hmap,ha.eval hv,Deferred.ofValue,invoke,callFunc,Sem.run_bind,Sem.run_pure,Result.andThen_ok,run_program,hf,hn,hb,Bool.false_eq_true,if_false]
    rw [← hall]
    simp
  rw [hrun]
  refine hc.mono fun e w' hR=>?_
  obtain ⟨u,rfl,hK⟩:=h e w' hR
  cases dst with
  | none=>exact ⟨env,ha,hK⟩
  | some d'=>exact ⟨_,ha.put d' u (hd d' Z),hK⟩
theorem o_sbytes {src dt e:TypeId} {x:Operand} {s:ByteArray} (hs:P.underlying src=some .string) (hd:P.underlying dt=some (.slice e)) (he:P.underlying e=some (.int .u8)) (hx:ev env x=some (.string s)) (hlen:s.size≤4611686018427387904) (S:St w0 M rs w) (hdN:Nat.blt d N=true)
    (h:∀ b c w',Like w w'→St w0 M (rs++[fixed 1 (some ⟨b,0,none⟩) s.size c (bL s.data.toList)]) w'→K ((d,.slice (some ⟨b,0,none⟩) s.size c)::env) w') :
    O P N Q ⟨some d,.convert src dt x,ty,pos,after,g⟩ env w K:=fun a ha=>by
  have hr:=run_bytes_of_string (P:=P) w src dt e s hs hd he
  have hcap:=grownCap_ge w s.size 0 e
  have hmax:=grownCap_le_maxLen w s.size 0 e (by unfold maxLen;omega)
  generalize grownCap w s.size 0 e=cap at *
  generalize hC:bytesRow s cap=C at *
  have hl:Like w (w.drew.alloc (.cells C e (C.size,C.size+1))):=Like.trans (Like.drew w) (bn_ _ _)
  have hblk:(w.drew.alloc (.cells C e (C.size,C.size+1))).heap[w.heap.size]?=some (.cells C e (C.size,C.size+1)):=heap_alloc_new w.drew _
  unfold Oper.wp execOp
  simp only [ha.eval hx,Sem.run_bind,hr,Result.andThen_ok,Sem.run_pure]
  refine ⟨_,ha.put d _ hdN,h _ _ _ hl (S.new hl _ ⟨⟨by simp [aB_],fun h0=>⟨_,rfl,(Array.getElem?_eq_some_iff.1 hblk).1,fun j u hu=>?_⟩⟩,hcap,by unfold maxLen at hmax;exact hmax⟩ fun i ⟨ad,_,hA,hi⟩=>?_)⟩
  · rw [Addr.add_mid,cell_of_row _ _ _ C e _ hblk,Nat.zero_add, ← hC]
    have hj:j < s.data.toList.length:=by have:=(List.getElem?_eq_some_iff.1 hu).1;simpa using this
    have hj2:j < s.data.size:=by simpa using hj
    unfold bytesRow
    rw [Array.getElem?_append_left (by simpa using hj2), ← hu]
    simp [bL]
    rfl
  · cases hA
    subst hi
    exact ⟨Nat.le_refl _,(Array.getElem?_eq_some_iff.1 hblk).1⟩
theorem o_makeL {t e:TypeId} {z:Value} {bytes:Nat} {x y:Operand} {k k':IntKind} {jn jc:Int} {n c:Nat} (TE:Elem P t e z 1 bytes) (hone:z.oneCell'=true) (S:St w0 M rs w) (hx:ev env x=some (.int k jn)) (hy:ev env y=some (.int k' jc)) (hn:Nt jn n) (hc:Nt jc c) (hd:Nat.blt d N=true)
    (hnc:n≤c) (hbytes:c*bytes≤281474976710656) (hcm:c≤9223372036854775807)
    (h:∀ b w',Like w w'→St w0 M (rs++[row e 1 (some ⟨b,0,none⟩) n c (List.replicate n z)]) w'→K ((d,.slice (some ⟨b,0,none⟩) n c)::env) w') :
    O P N Q ⟨some d,.makeSlice t x y,ty,pos,after,g⟩ env w K:=fun a ha=>by
  have e1:=hn.eq
  have e2:=hc.eq
  subst e1;subst e2
  obtain ⟨i,hi,hz',hsize,hby⟩:=info_parts TE.hi
  have hb:(i.bytes:Int)*(c:Int)≤281474976710656:=by
    have h:((i.bytes*c:Nat):Int)≤281474976710656:=by rw [hby,Nat.mul_comm];omega
    rwa [Int.natCast_mul] at h
  have hr:=run_make (P:=P) w t e i z TE.ht hi hz' k k' n c (by omega) (by omega) hb (by omega)
  simp only [Int.toNat_natCast] at hr
  unfold Oper.wp execOp
  simp only [ha.eval hx,ha.eval hy,Sem.run_bind,hr,Result.andThen_ok,Sem.run_pure]
  have hzc:z.cells.size=1:=TE.hzs
  have hcells:madeCells z.cells (c*i.size)=Array.replicate c z:=by
    rw [hsize,Nat.mul_one,cells_one hone]
    apply Array.ext
    · simp [madeCells]
    · intro j h1 h2
      simp [madeCells,Nat.mod_one]
  refine ⟨_,ha.put d _ hd,h _ _ (bn_ w _) (S.new (bn_ w _) _ ?_ fun i hi=>?_)⟩
  · refine ⟨by simp,.inr ⟨w.heap.size,c,_,rfl,Nat.zero_le _,heap_alloc_new w _,hnc,by unfold maxLen;omega,?_,?_⟩⟩
    · rw [hcells];simp
    · rw [hcells,Nat.mul_one]
      simp [hnc]
  · change (Value.slice (some ⟨w.heap.size,0,none⟩) n c).ownBlock=some i at hi
    simp only [Value.ownBlock,Option.some.injEq] at hi
    subst hi
    exact ⟨Nat.le_refl _,by simp⟩
end
section
variable {w0 w : World} {M : Nat → Prop} {rs : List Res}
theorem St.join2 {r s:Res} (S:St w0 M (rs++[r,s]) w):St w0 M (rs++[both r s]) w :=
  ⟨S.os,S.tape,S.output,S.size,S.old,fun q hq=>by
    rcases List.mem_append.1 hq with hq | hq
    · exact S.res q (List.mem_append_left _ hq)
    · obtain rfl:=List.mem_singleton.1 hq
      have h1:=S.res r (by simp)
      have h2:=S.res s (by simp)
      exact ⟨⟨h1.1,h2.1⟩,fun i hi=>by rcases hi with hi | hi;exact h1.2 i hi;exact h2.2 i hi⟩,by
    have h:=S.apart
    rw [List.pairwise_append] at h ⊢
    refine ⟨h.1,List.pairwise_singleton _ _,fun a ha b hb i hi=>?_⟩
    obtain rfl:=List.mem_singleton.1 hb
    intro hx
    rcases hx with hx | hx
    · exact h.2.2 a ha r (by simp) i hi hx
    · exact h.2.2 a ha s (by simp) i hi hx⟩
theorem dP_ {size n c:Nat} {A:Option Addr} {xs:List Value} (h:Rs w size A n c xs) {ad:Addr} (hn:0 < n) (hA:A=some ad):ad.block < w.heap.size:=by
  obtain ⟨ad',hA',hb,_⟩:=h.rd.2 hn
  rw [hA] at hA'
  cases hA'
  exact hb
end
end Zx
namespace Zx
open Go.RowKit Zk
section
variable {P : Program} {N : Nat} {Q : Post} {env : Env} {w : World}
theorem y_ldS {S:World→Prop} {x:Operand} {p:Addr} {v:Value} {lt:TypeId} {d:TypeDesc} {dst:Option Tmp} {ty:TypeId} {pos:String} {after:Array Edge} {g:Option (Nat × Bool)} (hd:P.underlying lt=some d) (hrow:d.isRow=false) (hx:ev env x=some (.pointer (some p))) (hc:∀ w,S w→w.cell? p=some v) :
    Y P S env ⟨dst,.load lt x,ty,pos,after,g⟩ v:=fun N a w' ha hw=>by
  simp only [execOp,ha.eval hx,Instr.loadAt,Instr.sureAddr,Sem.run_bind,Sem.run_pure,Result.andThen_ok,fg_ hd hrow (hc w' hw)]
theorem aQ_ {ops:Array Oper} {rest:List Oper} {d:Tmp} {op:Op} {ty:TypeId} {pos:String} {after:Array Edge} {j:Nat} {b:Bool} {t:Tmp}
    (hj:(ops[j]?).bind (·.dst)=some t) (ht:look env t=some undef) (hd:Nat.blt d N=true) (h:L P N ops Q rest ((d,undef)::env) w):L P N ops Q (⟨some d,op,ty,pos,after,some (j,b)⟩::rest) env w:=fun a ha=>by
  have h1:=h _ (ha.put d undef hd)
  have hw:yielded ops a.tmps j=none:=by
    simp [yielded,hj,ha.vals t _ ht,undef]
  unfold wpList
  have hne:((none:Option Bool) == some b)=false:=by cases b <;> rfl
  simp only [Region.wanted,hw,hne,Bool.false_eq_true,if_false]
  exact h1
def DCalls (P:Program) (f:FuncId) (args:Array Value) (w:World) (R:Ending→World→Prop):Prop:=∀ u,CallsD P f args u w fun e u' w'=>u'=u∧R e w'
theorem enterd1 {f:FuncId} {fn:Func} {c:Code} (args:List Value) {R:Ending→World→Prop} (hf:P.funcs[f]?=some fn) (hb:fn.body=some c) (hn:fn.ntmps=N)
    (hN:Nat.ble args.length N=true) (he:jF_ args 0=env) (h:T P N c (dj_ P fn R) env w) (hd0:dfs env=[]:=by rfl) (hsm:Nat.ble N 1000000=true:=by rfl):DCalls P f args.toArray w R:=by
  intro u
  refine callsD_of_wp hf hb ?_
  have hsm':N≤1000000:=by simpa using hsm
  have hN':args.length≤N:=by simpa using hN
  have hfit:Fits N env { tmps:=args.toArray++Array.replicate (fn.ntmps - args.toArray.size) undef,defers:=[]}:=by
    refine ⟨hd0.symm,hsm',by simp [hn];omega,fun i v hv=>?_⟩
    have h1:args[i]?=some v:=by subst he;simpa using (dX_ _ _ _ _ hv).2
    have h2:=(List.getElem?_eq_some_iff.1 h1).1
    rw [Array.getElem?_append_left (by simpa using h2)]
    simpa using h1
  refine Code.wp_mono (fun e a w hq=>?_) (h _ hfit)
  cases e with
  | normal =>
    obtain ⟨e',h1,h0,v,h2,h3⟩:=hq
    exact ⟨h1.defers.trans h0,v,h2 N a h1,h3⟩
  | ret =>
    obtain ⟨e',h1,h0,v,h2,h3⟩:=hq
    exact ⟨h1.defers.trans h0,v,h2 N a h1,h3⟩
  | panic c =>
    obtain ⟨e',h1,h0,h2⟩:=hq
    exact ⟨h1.defers.trans h0,h2⟩
  | outgrown=>exact hq.elim
  | exit i=>obtain ⟨_,_,h⟩:=hq;exact h.elim
  | goto i=>obtain ⟨_,_,h⟩:=hq;exact h.elim
def fY_ (P:Program) (fn:Func) (R:Ending→World→Prop):Post
  | .ret,env,w | .normal,env,w=>∀ N a,Fits N env a→Leaves P fn a.tmps R (dfs env) .returning w
  | .panic c,env,w=>∃ es:Env,(∀ i v,look es i=some v→i < 4)∧Sub es env∧∀ N a,Fits N es a→Leaves P fn a.tmps R (dfs es) (.panicking c) w
  | _,_,_=>False
theorem jx_ {d i:Nat} (h:i≠d):∀ e:Env,look (rm d e) i=look e i
  | []=>rfl
  | (j, u)::e=>by
    have ih:=jx_ h e
    unfold rm at ih ⊢
    rw [List.filter_cons]
    cases hb:Nat.beq j d with
    | true =>
      have e1:j=d:=by simpa using hb
      have e2:Nat.beq j i=false:=by
        cases hc:Nat.beq j i with
        | true=>exact absurd (by have:j=i:=by simpa using hc
                                 omega) h
        | false=>rfl
      simp only [Bool.not_true,Bool.false_eq_true,if_false,look,e2,cond_false]
      exact ih
    | false =>
      simp only [Bool.not_false,if_true,look]
      rw [ih]
instance {P:Program} {fn:Func} {R:Ending→World→Prop} {d:Nat}:PSt (fY_ P fn R) (d+4):=⟨fun hd c env w h=>by
  obtain ⟨es,h1,h2,h3⟩:=h
  refine ⟨es,h1,⟨h2.1.trans (dfs_rm _ hd env).symm,fun i v hi=>?_⟩,h3⟩
  have h4:=h1 i v hi
  rw [jx_ (by omega)]
  exact h2.2 i v hi⟩
theorem lc_ {f:FuncId} {fn:Func} {c:Code} (args:List Value) {R:Ending→World→Prop} (hf:P.funcs[f]?=some fn) (hb:fn.body=some c) (hn:fn.ntmps=N)
    (hN:Nat.ble args.length N=true) (he:jF_ args 0=env) (h:T P N c (fY_ P fn R) env w) (hd0:dfs env=[]:=by rfl) (hsm:Nat.ble N 1000000=true:=by rfl):Calls P f args.toArray w R:=by
  refine calls_of_wp_defers hf hb ?_
  have hsm':N≤1000000:=by simpa using hsm
  have hN':args.length≤N:=by simpa using hN
  have hfit:Fits N env { tmps:=args.toArray++Array.replicate (fn.ntmps - args.toArray.size) undef,defers:=[]}:=by
    refine ⟨hd0.symm,hsm',by simp [hn];omega,fun i v hv=>?_⟩
    have h1:args[i]?=some v:=by subst he;simpa using (dX_ _ _ _ _ hv).2
    have h2:=(List.getElem?_eq_some_iff.1 h1).1
    rw [Array.getElem?_append_left (by simpa using h2)]
    simpa using h1
  refine Code.wp_mono (fun e a w hq=>?_) (h _ hfit)
  cases e with
  | normal =>
    obtain ⟨e',h1,h2⟩:=hq
    have h3:=h2 N a h1
    rw [← h1.defers] at h3
    exact h3
  | ret =>
    obtain ⟨e',h1,h2⟩:=hq
    have h3:=h2 N a h1
    rw [← h1.defers] at h3
    exact h3
  | panic c =>
    obtain ⟨e',h1,es,_,h2,h3⟩:=hq
    have h4:=h3 N a (h1.sub h2)
    rw [← (h1.sub h2).defers] at h4
    exact h4
  | outgrown=>exact hq.elim
  | exit i=>obtain ⟨_,_,h⟩:=hq;exact h.elim
  | goto i=>obtain ⟨_,_,h⟩:=hq;exact h.elim
theorem retd1 {fn:Func} {R:Ending→World→Prop} {t:Tmp} {v:Value} (hr:fn.results = #[.tmp t]) (ht:look env t=some v) (h:R (.returned v) w) (hd0:dfs env=[]:=by rfl):fY_ P fn R .ret env w:=fun N a ha=>by
  rw [hd0]
  exact ⟨v,by rw [results_tmp hr,ha.getD ht],h⟩
theorem retD1 {fn gn:Func} {R Rc:Ending→World→Prop} {t:Tmp} {v:Value} {f:FuncId} {args:Array Value} (hr:fn.results = #[.tmp t]) (ht:look env t=some v)
    (hdf : dfs env = [⟨.fn (.func f) #[], args⟩]) (hf : P.funcs[f]? = some gn) (hn : (gn.name == "runtime.NumGoroutine") = false) (hb : gn.body.isNone = false)
    (hc:DCalls P f args w Rc) (h:∀ e w',Rc e w'→∃ u,e=.returned u∧R (.returned v) w'):fY_ P fn R .ret env w:=fun N a ha=>by
  rw [hdf]
  refine leaves_cons (f:=f) (args:=args) (by simp) ?_ ?_
  · simp only [invoke,callFunc,Sem.run_bind,Sem.run_pure,Result.andThen_ok,run_program,hf,hn,hb,Bool.false_eq_true,if_false,Array.append_empty,Array.empty_append]
  · refine (hc .returning).mono fun e u' w' ⟨hu,hR⟩=>?_
    subst hu
    obtain ⟨u,rfl,h1⟩:=h e w' hR
    exact ⟨v,by rw [results_tmp hr,ha.getD ht],h1⟩
theorem L_defer {ops:Array Oper} {rest:List Oper} {f:FuncId} {xs:Array Operand} {ts:Array TypeId} {args:List Value} {ty:TypeId} {pos:String} {after:Array Edge}
    (hargs:evl env xs.toList=some args) (h:L P N ops Q rest ((1000000,.agg #[.agg #[.int .i64 (f:Int),.agg args.toArray]])::env) w) (hd0:dfs env=[]:=by rfl) :
    L P N ops Q (⟨none,.defer { callee:=.value (.func f),args:=xs,argTypes:=ts },ty,pos,after,none⟩::rest) env w :=
  L_o fun a ha=>by
    have hmap:xs.map a.eval=args.toArray:=by
      rw [← eu_ ha xs.toList args hargs]
      apply Array.ext'
      simp
    unfold Oper.wp
    have hrun:(execOp a.eval ⟨none,.defer { callee:=.value (.func f),args:=xs,argTypes:=ts },ty,pos,after,none⟩).run P w=.ok (.defer ⟨.fn (.func f) #[],args.toArray⟩) w:=by
      simp only [execOp,resolve,hmap,Act.eval,Deferred.ofValue,Sem.run_bind,Sem.run_pure,Result.andThen_ok,Array.append_empty,Array.empty_append]
    rw [hrun]
    refine ⟨_,⟨?_,ha.small,ha.size,fun i v hv=>?_⟩,h⟩
    · show _::a.defers=_
      rw [ha.defers,hd0]
      rfl
    · simp only [look] at hv
      cases hb:Nat.beq 1000000 i with
      | false =>
        rw [hb] at hv
        exact ha.vals i v hv
      | true =>
        rw [hb] at hv
        cases hv
end
end Zx
namespace Zx
open Go.RowKit Zk
abbrev DU:=DataW Unit
def mapR (P:Program) (k e:TypeId) (b n:Nat) (D:DU):Res where
  dom i:=i=b
  holds w:=w.ownsMap P k (plainElem P e) b n D
  stable w w' h hh:=by
    obtain ⟨es,clock,hb,rest⟩:=hh
    exact ⟨es,clock,(h b Z).trans hb,rest⟩
section
variable {P : Program} {w w' w0 : World} {M : Nat → Prop} {rs : List Res} {k e : TypeId}
theorem St.keepM (S:St w0 M rs w) {r:Res} (h:r.holds w0) (hd:∀ i,r.dom i→i < w0.heap.size) (hM:∀ i,r.dom i→¬ M i):r.holds w:=r.stable w0 w (fun i hi=>S.old i (hd i hi) (hM i hi)) h
end
section
variable {P : Program} {N : Nat} {Q : Post} {env : Env} {w w0 : World} {M : Nat → Prop} {rs : List Res} {K : Env → World → Prop} {d : Tmp} {dst : Option Tmp} {ty : TypeId} {pos : String} {after : Array Edge} {g : Option (Nat × Bool)}
theorem o_makeMap {t k e:TypeId} (S:St w0 M rs w) (hd:Nat.blt d N=true)
    (h:∀ b w',w0.heap.size≤b→St w0 M (rs++[mapR P k e b 0 (.map [])]) w'→K ((d,.map (some b))::env) w') :
    O P N Q ⟨some d,.makeMap t none,ty,pos,after,g⟩ env w K:=fun a ha=>by
  unfold Oper.wp execOp
  simp only [run_makeMap,Option.map_none,Sem.run_bind,Sem.run_pure,Result.andThen_ok]
  refine ⟨_,ha.put d _ hd,h _ _ S.size (S.new (bn_ w _) _ (World.ownsMap_made w P k (plainElem P e)) fun i hi=>?_)⟩
  have hi':i=w.heap.size:=hi
  subst hi'
  exact ⟨Nat.le_refl _,(World.ownsMap_made (H:=Unit) w P k (plainElem P e)).lt⟩
end
end Zx
namespace Zx
open Go.RowKit Zk
section
variable {P : Program} {t e : TypeId} {z : Value} {size bytes : Nat}
variable {N : Nat} {Q : Post} {K : Env → World → Prop} {env : Env} {w0 w : World} {M : Nat → Prop} {rs : List Res} {d : Tmp} {ty : TypeId} {pos : String} {after : Array Edge} {g : Option (Nat × Bool)}
end
end Zx
namespace Zx
open Go.RowKit Zk
def upd (ss:Nat→Option (Array Value)) (b:Nat) (cur:Array Value):Nat→Option (Array Value):=fun i=>if i=b then some cur else ss i
def sep (r s:Res):Res where
  dom i:=r.dom i∨s.dom i
  holds w:=r.holds w∧s.holds w∧∀ i,r.dom i→¬ s.dom i
  stable w w' h hh:=⟨r.stable w w' (fun i hi=>h i (.inl hi)) hh.1,s.stable w w' (fun i hi=>h i (.inr hi)) hh.2.1,hh.2.2⟩
section
variable {w0 w w' : World} {M : Nat → Prop} {rs : List Res}
theorem St.sepj {r s:Res} (S:St w0 M (rs++[r,s]) w):St w0 M (rs++[sep r s]) w :=
  ⟨S.os,S.tape,S.output,S.size,S.old,fun q hq=>by
    rcases List.mem_append.1 hq with hq | hq
    · exact S.res q (List.mem_append_left _ hq)
    · obtain rfl:=List.mem_singleton.1 hq
      have h1:=S.res r (by simp)
      have h2:=S.res s (by simp)
      have h:=S.apart
      rw [List.pairwise_append,List.pairwise_cons] at h
      exact ⟨⟨h1.1,h2.1,h.2.1.1 s (by simp)⟩,fun i hi=>by rcases hi with hi | hi;exact h1.2 i hi;exact h2.2 i hi⟩,by
    have h:=S.apart
    rw [List.pairwise_append] at h ⊢
    refine ⟨h.1,List.pairwise_singleton _ _,fun a ha b hb i hi=>?_⟩
    obtain rfl:=List.mem_singleton.1 hb
    intro hx
    rcases hx with hx | hx
    · exact h.2.2 a ha r (by simp) i hi hx
    · exact h.2.2 a ha s (by simp) i hi hx⟩
theorem St.seps {r s:Res} (S:St w0 M (rs++[sep r s]) w):St w0 M (rs++[r,s]) w:=by
  have h:=S.res (sep r s) (by simp)
  have hp:=S.apart
  rw [List.pairwise_append] at hp
  refine ⟨S.os,S.tape,S.output,S.size,S.old,fun q hq=>?_,?_⟩
  · rcases List.mem_append.1 hq with hq | hq
    · exact S.res q (List.mem_append_left _ hq)
    · rcases List.mem_cons.1 hq with rfl | hq
      · exact ⟨h.1.1,fun i hi=>h.2 i (.inl hi)⟩
      · obtain rfl:=List.mem_singleton.1 hq
        exact ⟨h.1.2.1,fun i hi=>h.2 i (.inr hi)⟩
  · rw [List.pairwise_append,List.pairwise_cons]
    refine ⟨hp.1,⟨fun b hb=>?_,List.pairwise_singleton _ _⟩,fun a ha b hb i hi hx=>?_⟩
    · obtain rfl:=List.mem_singleton.1 hb
      exact h.1.2.2
    · rcases List.mem_cons.1 hb with rfl | hb
      · exact hp.2.2 a ha _ (List.mem_singleton_self _) i hi (.inl hx)
      · obtain rfl:=List.mem_singleton.1 hb
        exact hp.2.2 a ha _ (List.mem_singleton_self _) i hi (.inr hx)
end
section
variable {P : Program} {S : World → Prop} {N : Nat} {Q : Post} {K : Env → World → Prop} {env : Env} {w0 w : World} {M : Nat → Prop} {rs : List Res} {dst : Option Tmp} {d : Tmp} {ty : TypeId} {pos : String} {after : Array Edge} {g : Option (Nat × Bool)}
theorem T_loop7 {t1 t2 t3 t4 t5 t6 t7:Type} {c:Code} (ks:Env) (V:t1→t2→t3→t4→t5→t6→t7→Env) (μ:t1→t2→t3→t4→t5→t6→t7→Nat) (Rel:t1→t2→t3→t4→t5→t6→t7→World→Prop) (z1:t1) (z2:t2) (z3:t3) (z4:t4) (z5:t5) (z6:t6) (z7:t7) (hs:Sub (V z1 z2 z3 z4 z5 z6 z7) env) (hk:Sub ks env) (h0:Rel z1 z2 z3 z4 z5 z6 z7 w)
    (round:∀ a1 a2 a3 a4 a5 a6 a7 w,Rel a1 a2 a3 a4 a5 a6 a7 w→T P N c (bf_ (fun e' w'=>∃ p1 p2 p3 p4 p5 p6 p7, μ p1 p2 p3 p4 p5 p6 p7 < μ a1 a2 a3 a4 a5 a6 a7∧Rel p1 p2 p3 p4 p5 p6 p7 w'∧Sub (V p1 p2 p3 p4 p5 p6 p7++ks) e') Q) (V a1 a2 a3 a4 a5 a6 a7++ks) w):T P N (.loop c) Q env w :=
  fv_ (fun m e w=>∃ a1 a2 a3 a4 a5 a6 a7,m = μ a1 a2 a3 a4 a5 a6 a7∧Rel a1 a2 a3 a4 a5 a6 a7 w∧Sub (V a1 a2 a3 a4 a5 a6 a7++ks) e) (μ z1 z2 z3 z4 z5 z6 z7) ⟨z1,z2,z3,z4,z5,z6,z7,rfl,h0,Sub.app hs hk⟩ fun m e w ⟨a1,a2,a3,a4,a5,a6,a7,hm,hr,hsub⟩=>ej_ hsub (fu_ (fun e w ⟨p1,p2,p3,p4,p5,p6,p7,h1,h2,h3⟩=>⟨μ p1 p2 p3 p4 p5 p6 p7,by omega,p1,p2,p3,p4,p5,p6,p7,rfl,h2,h3⟩) (round a1 a2 a3 a4 a5 a6 a7 w hr))
theorem T_loop8 {t1 t2 t3 t4 t5 t6 t7 t8:Type} {c:Code} (ks:Env) (V:t1→t2→t3→t4→t5→t6→t7→t8→Env) (μ:t1→t2→t3→t4→t5→t6→t7→t8→Nat) (Rel:t1→t2→t3→t4→t5→t6→t7→t8→World→Prop) (z1:t1) (z2:t2) (z3:t3) (z4:t4) (z5:t5) (z6:t6) (z7:t7) (z8:t8) (hs:Sub (V z1 z2 z3 z4 z5 z6 z7 z8) env) (hk:Sub ks env) (h0:Rel z1 z2 z3 z4 z5 z6 z7 z8 w)
    (round:∀ a1 a2 a3 a4 a5 a6 a7 a8 w,Rel a1 a2 a3 a4 a5 a6 a7 a8 w→T P N c (bf_ (fun e' w'=>∃ p1 p2 p3 p4 p5 p6 p7 p8, μ p1 p2 p3 p4 p5 p6 p7 p8 < μ a1 a2 a3 a4 a5 a6 a7 a8∧Rel p1 p2 p3 p4 p5 p6 p7 p8 w'∧Sub (V p1 p2 p3 p4 p5 p6 p7 p8++ks) e') Q) (V a1 a2 a3 a4 a5 a6 a7 a8++ks) w):T P N (.loop c) Q env w :=
  fv_ (fun m e w=>∃ a1 a2 a3 a4 a5 a6 a7 a8,m = μ a1 a2 a3 a4 a5 a6 a7 a8∧Rel a1 a2 a3 a4 a5 a6 a7 a8 w∧Sub (V a1 a2 a3 a4 a5 a6 a7 a8++ks) e) (μ z1 z2 z3 z4 z5 z6 z7 z8) ⟨z1,z2,z3,z4,z5,z6,z7,z8,rfl,h0,Sub.app hs hk⟩ fun m e w ⟨a1,a2,a3,a4,a5,a6,a7,a8,hm,hr,hsub⟩=>ej_ hsub (fu_ (fun e w ⟨p1,p2,p3,p4,p5,p6,p7,p8,h1,h2,h3⟩=>⟨μ p1 p2 p3 p4 p5 p6 p7 p8,by omega,p1,p2,p3,p4,p5,p6,p7,p8,rfl,h2,h3⟩) (round a1 a2 a3 a4 a5 a6 a7 a8 w hr))
theorem T_loop9 {t1 t2 t3 t4 t5 t6 t7 t8 t9:Type} {c:Code} (ks:Env) (V:t1→t2→t3→t4→t5→t6→t7→t8→t9→Env) (μ:t1→t2→t3→t4→t5→t6→t7→t8→t9→Nat) (Rel:t1→t2→t3→t4→t5→t6→t7→t8→t9→World→Prop) (z1:t1) (z2:t2) (z3:t3) (z4:t4) (z5:t5) (z6:t6) (z7:t7) (z8:t8) (z9:t9) (hs:Sub (V z1 z2 z3 z4 z5 z6 z7 z8 z9) env) (hk:Sub ks env) (h0:Rel z1 z2 z3 z4 z5 z6 z7 z8 z9 w)
    (round:∀ a1 a2 a3 a4 a5 a6 a7 a8 a9 w,Rel a1 a2 a3 a4 a5 a6 a7 a8 a9 w→T P N c (bf_ (fun e' w'=>∃ p1 p2 p3 p4 p5 p6 p7 p8 p9, μ p1 p2 p3 p4 p5 p6 p7 p8 p9 < μ a1 a2 a3 a4 a5 a6 a7 a8 a9∧Rel p1 p2 p3 p4 p5 p6 p7 p8 p9 w'∧Sub (V p1 p2 p3 p4 p5 p6 p7 p8 p9++ks) e') Q) (V a1 a2 a3 a4 a5 a6 a7 a8 a9++ks) w):T P N (.loop c) Q env w :=
  fv_ (fun m e w=>∃ a1 a2 a3 a4 a5 a6 a7 a8 a9,m = μ a1 a2 a3 a4 a5 a6 a7 a8 a9∧Rel a1 a2 a3 a4 a5 a6 a7 a8 a9 w∧Sub (V a1 a2 a3 a4 a5 a6 a7 a8 a9++ks) e) (μ z1 z2 z3 z4 z5 z6 z7 z8 z9) ⟨z1,z2,z3,z4,z5,z6,z7,z8,z9,rfl,h0,Sub.app hs hk⟩ fun m e w ⟨a1,a2,a3,a4,a5,a6,a7,a8,a9,hm,hr,hsub⟩=>ej_ hsub (fu_ (fun e w ⟨p1,p2,p3,p4,p5,p6,p7,p8,p9,h1,h2,h3⟩=>⟨μ p1 p2 p3 p4 p5 p6 p7 p8 p9,by omega,p1,p2,p3,p4,p5,p6,p7,p8,p9,rfl,h2,h3⟩) (round a1 a2 a3 a4 a5 a6 a7 a8 a9 w hr))
theorem DL_gnu {ops:Array Oper} {i:Nat} {d:Tmp} [PSt Q d] {op:Op} {order:List (Nat × Bool)} {j:Nat} {b:Bool} {t:Tmp} (hi:ops[i]?=some ⟨some d,op,ty,pos,after,some (j,b)⟩)
    (hj:(ops[j]?).bind (·.dst)=some t) (ht:look env t=some undef) (hd:Nat.blt d N=true) (h:DL P N ops Q S order ((d,undef)::env) w):DL P N ops Q S ((i,true)::order) env w :=
  DL_yi hi Z (fun a ha=>.inr ⟨by
    have:((none:Option Bool) == some b)=false:=by cases b <;> rfl
    simp [Region.wanted,yielded,hj,ha.vals t _ ht,undef],rfl⟩) hd h
end
end Zx
namespace Zx
open Go.RowKit Zk
section
variable {P : Program} {N : Nat} {Q : Post} {env : Env} {w w0 : World} {M : Nat → Prop} {rs : List Res} {K : Env → World → Prop} {ty : TypeId} {pos : String} {after : Array Edge} {g : Option (Nat × Bool)}
theorem kc_ {w:World} {e k n c:Nat} {A:Option Addr} {xs:List Value} (h:w.ownsRow 0 e k (.slice A n c) n xs) (hn:0 < n):∃ b cur,A=some ⟨b,0,none⟩∧Blk w b e cur∧n≤c∧c≤maxLen∧cur.size=c*k∧cur.toList.take (n*k)=xs:=by
  rcases h.2 with ⟨h1,h2⟩ | ⟨b,cap,cur,h1,_,hg,hnc,hcm,hcs,hx⟩
  · omega
  · cases h1
    exact ⟨b,cur,rfl,hg,hnc,hcm,hcs,hx⟩
theorem kv_ {w:World} {e k n c b:Nat} {xs:List Value} {cur:Array Value} (hg:Blk w b e cur) (hnc:n≤c) (hcm:c≤maxLen) (hcs:cur.size=c*k) (hx:cur.toList.take (n*k)=xs) (hl:xs.length=n*k):w.ownsRow 0 e k (.slice (some ⟨b,0,none⟩) n c) n xs :=
  ⟨hl,.inr ⟨b,c,cur,rfl,Nat.zero_le _,hg,hnc,hcm,hcs,hx⟩⟩
theorem St.rowcut (S:St w0 M rs w) (i:Nat) {e k n c m:Nat} {A:Option Addr} {xs:List Value} (hk:rs[i]?=some (Zx.row e k A n c xs)) (hm:m≤n):St w0 M (rs.set i (Zx.row e k A m c (xs.take (m*k)))) w:=by
  have hown:w.ownsRow 0 e k (.slice A n c) n xs:=S.get i hk
  refine S.upd i hk Z Z Z (Nat.le_refl _) (fun _ _ _=>rfl) ?_ fun j hj=>.inl (show (Value.slice A n c).ownBlock=some j by
      have h2:(Value.slice A m c).ownBlock=some j:=hj
      cases A <;> exact h2)
  show w.ownsRow 0 e k (.slice A m c) m (xs.take (m*k))
  have hle:m*k≤n*k:=Nat.mul_le_mul_right _ hm
  have hl:(xs.take (m*k)).length=m*k:=by rw [List.length_take,hown.1];omega
  rcases hown.2 with ⟨h1,h2⟩ | ⟨b,cap,cur,h1,h0,hg,hnc,hcm,hcs,hx⟩
  · cases h1
    exact ⟨hl,.inl ⟨by rw [show m=0 by omega,h2],by omega⟩⟩
  · cases h1
    exact ⟨hl,.inr ⟨b,c,cur,rfl,h0,hg,by omega,hcm,hcs,by rw [← hx,List.take_take,Nat.min_eq_left hle]⟩⟩
theorem o_strowE {st:TypeId} {x y:Operand} {e n c k size:Nat} {A:Option Addr} {xs:List Value} {vs:Array Value} (S:St w0 M rs w) (i:Nat) (hk:rs[i]?=some (row e size A n c xs)) (hx:ev env x=some (pR A k size)) (hy:ev env y=some (.agg vs))
    (hv:∀ u ∈ vs.toList,u.oneCell'=true) (hvs:vs.size=size) (hsz:(P.info? st).map (·.size)=some size) (hkn:k < n)
    (h:∀ w',St w0 M (rs.set i (row e size A n c (xs.take (k*size)++vs.toList++xs.drop ((k+1)*size)))) w'→K env w'):O P N Q ⟨none,.store st x y,ty,pos,after,g⟩ env w K:=fun a ha=>by
  have hown:w.ownsRow 0 e size (.slice A n c) n xs:=S.get i hk
  obtain ⟨b,cur,rfl,hg,hnc,hcm,hcs,hxs⟩:=kc_ hown (by omega)
  have hxa:a.eval x=.pointer (some ⟨b,k*size,none⟩):=by
    rw [ha.eval hx]
    simp [pR,Addr.add_mid]
  have hle:(k+1)*size≤n*size:=Nat.mul_le_mul_right _ hkn
  have hle2:n*size≤c*size:=Nat.mul_le_mul_right _ hnc
  have e1:(k+1)*size=k*size+size:=Nat.succ_mul _ _
  have hcl:cur.toList.length=c*size:=by rw [Array.length_toList];exact hcs
  refine wp_stB st x y Z b (k*size) hxa vs (ha.eval hy) e cur hg (by rw [hvs];exact hsz) (by rw [hvs];omega) hv fun w' h2 h3=>⟨env,ha,h w' (S.upd i hk h3.os h3.tape h3.output h3.size (fun j hj hn=>h3.block j hj (fun e=>hn (by injection e with e;rw [e];rfl))) ?_ fun j hj=>.inl hj)⟩
  have hvl:vs.toList.length=size:=by rw [Array.length_toList,hvs]
  refine kv_ h2 hnc hcm ?_ ?_ ?_
  · rw [List.size_toArray,List.length_append,List.length_append,List.length_take,List.length_drop,hvl,hvs,hcl];omega
  rotate_left
  · rw [List.length_append,List.length_append,List.length_take,List.length_drop,hvl,hown.1];omega
  rw [hvs]
  show (cur.toList.take (k*size)++vs.toList++cur.toList.drop (k*size+size)).take (n*size)=_
  have l1:(cur.toList.take (k*size)++vs.toList).length=k*size+size:=by rw [List.length_append,List.length_take,hvl];omega
  rw [List.take_append,l1,List.take_of_length_le (by rw [l1];omega), ← hxs,List.take_take,Nat.min_eq_left (by omega),e1,List.drop_take]
theorem o_clearR {x:Operand} {t e n c l size:Nat} {z:Value} {A:Option Addr} {xs:List Value} (S:St w0 M rs w) (i:Nat) (hk:rs[i]?=some (row e size A n c xs)) (ht:P.underlying t=some (.slice e)) (hz:∀ W,(zeroValue e).run P W=.ok z W) (hzs:z.cells.size=size)
    (hz1:∀ u ∈ z.cells.toList,u.oneCell'=true) (hx:ev env x=some (.slice (ct_ A c l size) (n - l) (c - l))) (hl:l < n)
    (h:∀ w' ys,ys.take (l*size)=xs.take (l*size)→ys.length=n*size→St w0 M (rs.set i (row e size A n c ys)) w'→K env w'):O P N Q ⟨none,.call { callee:=.builtin .clear,args := #[x],argTypes := #[t]},ty,pos,after,g⟩ env w K:=fun a ha=>by
  have hown:w.ownsRow 0 e size (.slice A n c) n xs:=S.get i hk
  obtain ⟨b,cur,rfl,hg,hnc,hcm,hcs,hxs⟩:=kc_ hown (by omega)
  have hle2:n*size≤c*size:=Nat.mul_le_mul_right _ hnc
  have hle1:l*size≤n*size:=Nat.mul_le_mul_right _ (by omega)
  have hsub:(n - l)*size=n*size - l*size:=Nat.sub_mul _ _ _
  have hxa:a.eval x=.slice (some ⟨b,l*size,none⟩) (n - l) (c - l):=by
    rw [ha.eval hx]
    unfold ct_
    rw [if_neg (by omega)]
    simp [Addr.add_mid]
  have hzl:(Builtin.zeroCells z.cells (n - l)).size=(n - l)*size:=by simp [Builtin.zeroCells,hzs]
  have hz1':∀ u ∈ (Builtin.zeroCells z.cells (n - l)).toList,u.oneCell'=true:=fun u hu=>by
    rcases Nat.eq_zero_or_pos size with h0 | h0
    · rw [h0,Nat.mul_zero] at hzl
      rw [Array.eq_empty_of_size_eq_zero hzl] at hu
      simp at hu
    · simp only [Builtin.zeroCells,Array.toList_map,List.mem_map] at hu
      obtain ⟨q,hq,rfl⟩:=hu
      have:q % z.cells.size < z.cells.size:=Nat.mod_lt _ (by omega)
      rw [getElem!_pos z.cells _ this]
      exact hz1 _ (by simp)
  have hr:=run_storeCells_at (P:=P) b (l*size) e (Builtin.zeroCells z.cells (n - l)).toList 0 cur w hg (by simp only [Nat.add_zero,Array.length_toList,hzl];omega) hz1'
  simp only [Nat.add_zero,Array.length_toList,hzl] at hr
  obtain ⟨m,hm⟩:∃ m,n - l=m+1:=⟨n - l - 1,by omega⟩
  have hrun:(Builtin.clear_ #[t] ty #[.slice (some ⟨b,l*size,none⟩) (n - l) (c - l)]).run P w=.ok (.tuple #[]) (w.setRow b (cur.toList.take (l*size)++(Builtin.zeroCells z.cells (n - l)).toList++cur.toList.drop (l*size+(n - l)*size)).toArray):=by
    rw [hm] at hr ⊢
    simp [Builtin.clear_,run_underlying ht,hz,hr]
  have h2:=setRow_heap w b cur (cur.toList.take (l*size)++(Builtin.zeroCells z.cells (n - l)).toList++cur.toList.drop (l*size+(n - l)*size)).toArray e _ hg
  generalize hw':w.setRow b (cur.toList.take (l*size)++(Builtin.zeroCells z.cells (n - l)).toList++cur.toList.drop (l*size+(n - l)*size)).toArray=w' at hrun h2
  have h3:w.grownBy w' (some b):=by
    subst hw'
    exact ⟨rfl,rfl,rfl,by simp,fun k hk hne=>setRow_other w b k _ (fun e=>hne (by rw [e]))⟩
  unfold Oper.wp execOp
  simp only [resolve,invoke,builtin,Sem.run_bind,Sem.run_pure,Result.andThen_ok,List.map_toArray,List.map_cons,List.map_nil,hxa,hrun]
  have hll:(cur.toList.take (l*size)).length=l*size:=by rw [List.length_take,Array.length_toList];omega
  refine ⟨env,ha,h w' ((cur.toList.take (l*size)++(Builtin.zeroCells z.cells (n - l)).toList++cur.toList.drop (l*size+(n - l)*size)).take (n*size)) ?_ ?_ (S.upd i hk h3.os h3.tape h3.output h3.size (fun j hj hn=>h3.block j hj (fun e=>hn (by injection e with e;rw [e];rfl))) ?_ fun j hj=>.inl hj)⟩
  · rw [List.take_take,Nat.min_eq_left hle1,List.append_assoc,List.take_left' hll, ← hxs,List.take_take,Nat.min_eq_left hle1]
  · rw [List.length_take,List.length_append,List.length_append,hll,Array.length_toList,hzl,List.length_drop,Array.length_toList]
    omega
  · refine kv_ h2 hnc hcm ?_ Z ?_
    · rw [List.size_toArray,List.length_append,List.length_append,hll,Array.length_toList,hzl,List.length_drop,Array.length_toList]
      omega
    · rw [List.length_take,List.length_append,List.length_append,hll,Array.length_toList,hzl,List.length_drop,Array.length_toList]
      omega
end
theorem flat_set {α:Type} (f : α→List Value) {size:Nat} (hf:∀ x,(f x).length=size):∀ (xs:List α) (k:Nat) (x : α),k < xs.length→(xs.flatMap f).take (k*size)++f x++(xs.flatMap f).drop ((k+1)*size)=(xs.set k x).flatMap f
  | y::xs,0,x,_=>by
    rw [Nat.zero_mul,List.take_zero,List.nil_append,Nat.zero_add,Nat.one_mul,List.flatMap_cons,List.drop_left' (hf y),List.set_cons_zero,List.flatMap_cons]
  | y::xs,k+1,x,h=>by
    have ih:=flat_set f hf xs k x (by simpa using h)
    have e1:(k+1)*size=(f y).length+k*size:=by rw [hf,Nat.succ_mul];omega
    have e2:(k+1+1)*size=(f y).length+(k+1)*size:=by rw [hf,Nat.succ_mul (k+1)];omega
    have e3:(f y++xs.flatMap f).drop ((k+1+1)*size)=(xs.flatMap f).drop ((k+1)*size):=by rw [e2,List.drop_length_add_append]
    have e4:(f y++xs.flatMap f).take ((k+1)*size)=f y++(xs.flatMap f).take (k*size):=by rw [e1,List.take_length_add_append]
    rw [List.flatMap_cons,e3,e4,List.set_cons_succ,List.flatMap_cons, ← ih]
    simp only [List.append_assoc]
theorem kp_ {α:Type} (f : α→List Value) {size:Nat} (hf:∀ x,(f x).length=size):∀ (xs:List α) (k:Nat),(xs.flatMap f).take (k*size)=(xs.take k).flatMap f
  | _,0=>by simp
  | [],k+1=>by simp
  | y::xs,k+1=>by
    rw [List.flatMap_cons,List.take_succ_cons,List.flatMap_cons, ← kp_ f hf xs k,show (k+1)*size=(f y).length+k*size by rw [hf,Nat.succ_mul];omega,List.take_length_add_append]
end Zx
open Go.RowKit Zk Zx
theorem aS_:Tryz.prog.follows .mixedOrders=true:=by kernel_rfl
theorem is3:(Tryz.prog.underlying 3).isSome=true:=by kernel_rfl
theorem sz3:(Tryz.prog.info? 3).map (·.size)=some 1:=by kernel_rfl
theorem zz3 (W:World):(zeroValue 3).run Tryz.prog W=.ok (.int .i64 0) W:=by kernel_rfl
theorem sz4:(Tryz.prog.info? 4).map (·.size)=some 1:=by kernel_rfl
theorem zz4 (W:World):(zeroValue 4).run Tryz.prog W=.ok (.bool false) W:=by kernel_rfl
theorem is5:(Tryz.prog.underlying 5).isSome=true:=by kernel_rfl
theorem sz5:(Tryz.prog.info? 5).map (·.size)=some 1:=by kernel_rfl
theorem zz5 (W:World):(zeroValue 5).run Tryz.prog W=.ok (.int .u8 0) W:=by kernel_rfl
theorem sz9:(Tryz.prog.info? 9).map (·.size)=some 1:=by kernel_rfl
theorem zz9 (W:World):(zeroValue 9).run Tryz.prog W=.ok (.string ⟨#[]⟩) W:=by kernel_rfl
theorem br_:(Tryz.prog.info? 22).map (·.size)=some 1:=by kernel_rfl
theorem eW_ (W:World):(zeroValue 22).run Tryz.prog W=.ok (.slice none 0 0) W:=by kernel_rfl
theorem ba_:Elem Tryz.prog 22 5 (.int .u8 0) 1 1:=⟨Tryz.underlying22,by kernel_rfl,rfl,by decide⟩
theorem dm_:(Tryz.prog.info? 24).map (·.size)=some 1:=by kernel_rfl
theorem zz24 (W:World):(zeroValue 24).run Tryz.prog W=.ok (.int .i64 0) W:=by kernel_rfl
theorem ao_:(Tryz.prog.info? 41).map (·.size)=some 32:=by kernel_rfl
theorem dK_ (W:World):(zeroValue 41).run Tryz.prog W=.ok (.agg (Array.replicate 32 (.int .u8 0))) W:=by kernel_rfl
theorem sz48:(Tryz.prog.info? 48).map (·.size)=some 1:=by kernel_rfl
theorem te48:Elem Tryz.prog 48 65 (.agg #[.int .i64 0,.slice none 0 0]) 2 32:=⟨Tryz.underlying48,by kernel_rfl,rfl,by decide⟩
theorem sz50:(Tryz.prog.info? 50).map (·.size)=some 1:=by kernel_rfl
theorem te50:Elem Tryz.prog 50 67 (.agg #[.int .u8 0,.int .u8 0,.int .u8 0,.int .u8 0,.int .u8 0,.int .u8 0,.int .u8 0,.int .u8 0,.int .u8 0,.int .u8 0,.int .u8 0,.int .u8 0,.int .u8 0,.int .u8 0,.int .u8 0,.int .u8 0,.int .u8 0,.int .u8 0,.int .u8 0,.int .u8 0,.int .u8 0,.int .u8 0,.int .u8 0,.int .u8 0,.int .u8 0,.int .u8 0,.int .u8 0,.int .u8 0,.int .u8 0,.int .u8 0,.int .u8 0,.int .u8 0,.int .i64 0,.int .u32 0]) 34 48:=⟨Tryz.underlying50,by kernel_rfl,rfl,by decide⟩
theorem te53:Elem Tryz.prog 53 125 (.agg #[.int .u8 0,.int .u8 0,.int .u8 0,.int .u8 0,.int .u8 0,.int .u8 0,.int .u8 0,.int .u8 0,.int .u8 0,.int .u8 0,.int .u8 0,.int .u8 0,.int .u8 0,.int .u8 0,.int .u8 0,.int .u8 0,.int .u8 0,.int .u8 0,.int .u8 0,.int .u8 0,.int .u8 0,.int .u8 0,.int .u8 0,.int .u8 0,.int .u8 0,.int .u8 0,.int .u8 0,.int .u8 0,.int .u8 0,.int .u8 0,.int .u8 0,.int .u8 0,.int .i64 0,.int .u32 0]) 34 48:=⟨Tryz.underlying53,by kernel_rfl,rfl,by decide⟩
theorem te56:Elem Tryz.prog 56 119 (.agg #[.int .i64 0,.slice none 0 0]) 2 32:=⟨Tryz.underlying56,by kernel_rfl,rfl,by decide⟩
theorem is63:(Tryz.prog.underlying 63).isSome=true:=by kernel_rfl
theorem bk_:(Tryz.prog.info? 63).map (·.size)=some 1:=by kernel_rfl
theorem zz63 (W:World):(zeroValue 63).run Tryz.prog W=.ok (.int .u32 0) W:=by kernel_rfl
theorem gx_:(Tryz.prog.info? 65).map (·.size)=some 2:=by kernel_rfl
theorem zz65 (W:World):(zeroValue 65).run Tryz.prog W=.ok (.agg #[.int .i64 0,.slice none 0 0]) W:=by kernel_rfl
theorem sz67:(Tryz.prog.info? 67).map (·.size)=some 34:=by kernel_rfl
theorem zz67 (W:World):(zeroValue 67).run Tryz.prog W=.ok (.agg #[.int .u8 0,.int .u8 0,.int .u8 0,.int .u8 0,.int .u8 0,.int .u8 0,.int .u8 0,.int .u8 0,.int .u8 0,.int .u8 0,.int .u8 0,.int .u8 0,.int .u8 0,.int .u8 0,.int .u8 0,.int .u8 0,.int .u8 0,.int .u8 0,.int .u8 0,.int .u8 0,.int .u8 0,.int .u8 0,.int .u8 0,.int .u8 0,.int .u8 0,.int .u8 0,.int .u8 0,.int .u8 0,.int .u8 0,.int .u8 0,.int .u8 0,.int .u8 0,.int .i64 0,.int .u32 0]) W:=by kernel_rfl
theorem te78:Elem Tryz.prog 78 149 (.agg #[.string ⟨#[]⟩,.int .i64 0,.int .u8 0,.int .u8 0,.int .u8 0,.int .u8 0,.int .u8 0,.int .u8 0,.int .u8 0,.int .u8 0,.int .u8 0,.int .u8 0,.int .u8 0,.int .u8 0,.int .u8 0,.int .u8 0,.int .u8 0,.int .u8 0,.int .u8 0,.int .u8 0,.int .u8 0,.int .u8 0,.int .u8 0,.int .u8 0,.int .u8 0,.int .u8 0,.int .u8 0,.int .u8 0,.int .u8 0,.int .u8 0,.int .u8 0,.int .u8 0,.int .u8 0,.int .u8 0]) 34 56:=⟨Tryz.underlying78,by kernel_rfl,rfl,by decide⟩
theorem sz81:(Tryz.prog.info? 81).map (·.size)=some 1:=by kernel_rfl
theorem te81:Elem Tryz.prog 81 41 (.agg (Array.replicate 32 (.int .u8 0))) 32 32:=⟨Tryz.underlying81,by kernel_rfl,rfl,by decide⟩
theorem bg_:(Tryz.prog.info? 83).map (·.size)=some 36:=by kernel_rfl
theorem zz83 (W:World):(zeroValue 83).run Tryz.prog W=.ok (.agg #[.int .u8 0,.int .u8 0,.int .u8 0,.int .u8 0,.int .u8 0,.int .u8 0,.int .u8 0,.int .u8 0,.int .u8 0,.int .u8 0,.int .u8 0,.int .u8 0,.int .u8 0,.int .u8 0,.int .u8 0,.int .u8 0,.int .u8 0,.int .u8 0,.int .u8 0,.int .u8 0,.int .u8 0,.int .u8 0,.int .u8 0,.int .u8 0,.int .u8 0,.int .u8 0,.int .u8 0,.int .u8 0,.int .u8 0,.int .u8 0,.int .u8 0,.int .u8 0,.slice none 0 0,.string ⟨#[]⟩,.int .i64 0,.string ⟨#[]⟩]) W:=by kernel_rfl
theorem bS_:(Tryz.prog.info? 87).map (·.size)=some 36:=by kernel_rfl
theorem zz87 (W:World):(zeroValue 87).run Tryz.prog W=.ok (.agg #[.int .u8 0,.int .u8 0,.int .u8 0,.int .u8 0,.int .u8 0,.int .u8 0,.int .u8 0,.int .u8 0,.int .u8 0,.int .u8 0,.int .u8 0,.int .u8 0,.int .u8 0,.int .u8 0,.int .u8 0,.int .u8 0,.int .u8 0,.int .u8 0,.int .u8 0,.int .u8 0,.int .u8 0,.int .u8 0,.int .u8 0,.int .u8 0,.int .u8 0,.int .u8 0,.int .u8 0,.int .u8 0,.int .u8 0,.int .u8 0,.int .u8 0,.int .u8 0,.int .i64 0,.string ⟨#[]⟩,.int .i64 0,.string ⟨#[]⟩]) W:=by kernel_rfl
theorem te90:Elem Tryz.prog 90 9 (.string ⟨#[]⟩) 1 16:=⟨Tryz.underlying90,by kernel_rfl,rfl,by decide⟩
theorem di_:(Tryz.prog.underlying 102).isSome=true:=by kernel_rfl
theorem sz102:(Tryz.prog.info? 102).map (·.size)=some 1:=by kernel_rfl
theorem cm_:(Tryz.prog.info? 103).map (·.size)=some 8:=by kernel_rfl
theorem zz103 (W:World):(zeroValue 103).run Tryz.prog W=.ok (.agg #[.int .u32 0,.int .u32 0,.int .u32 0,.int .u32 0,.int .u32 0,.int .u32 0,.int .u32 0,.int .u32 0]) W:=by kernel_rfl
theorem dI_:(Tryz.prog.info? 110).map (·.size)=some 1:=by kernel_rfl
theorem ij_:(Tryz.prog.info? 111).map (·.size)=some 1:=by kernel_rfl
theorem zz111 (W:World):(zeroValue 111).run Tryz.prog W=.ok (.slice none 0 0) W:=by kernel_rfl
theorem eK_:Elem Tryz.prog 111 3 (.int .i64 0) 1 8:=⟨Tryz.underlying111,by kernel_rfl,rfl,by decide⟩
theorem ii_:(Tryz.prog.info? 119).map (·.size)=some 2:=by kernel_rfl
theorem zz119 (W:World):(zeroValue 119).run Tryz.prog W=.ok (.agg #[.int .i64 0,.slice none 0 0]) W:=by kernel_rfl
theorem sz125:(Tryz.prog.info? 125).map (·.size)=some 34:=by kernel_rfl
theorem zz125 (W:World):(zeroValue 125).run Tryz.prog W=.ok (.agg #[.int .u8 0,.int .u8 0,.int .u8 0,.int .u8 0,.int .u8 0,.int .u8 0,.int .u8 0,.int .u8 0,.int .u8 0,.int .u8 0,.int .u8 0,.int .u8 0,.int .u8 0,.int .u8 0,.int .u8 0,.int .u8 0,.int .u8 0,.int .u8 0,.int .u8 0,.int .u8 0,.int .u8 0,.int .u8 0,.int .u8 0,.int .u8 0,.int .u8 0,.int .u8 0,.int .u8 0,.int .u8 0,.int .u8 0,.int .u8 0,.int .u8 0,.int .u8 0,.int .i64 0,.int .u32 0]) W:=by kernel_rfl
theorem bD_:(Tryz.prog.info? 127).map (·.size)=some 5:=by kernel_rfl
theorem zz127 (W:World):(zeroValue 127).run Tryz.prog W=.ok (.agg #[.int .i64 0,.int .i64 0,.int .i64 0,.int .u32 0,.slice none 0 0]) W:=by kernel_rfl
theorem dH_:(Tryz.prog.info? 135).map (·.size)=some 1:=by kernel_rfl
theorem ih_:Elem Tryz.prog 135 190 (.agg #[.bool false,.int .i64 0,.int .i64 0,.slice none 0 0]) 4 48:=⟨Tryz.underlying135,by kernel_rfl,rfl,by decide⟩
theorem fB_:(Tryz.prog.info? 137).map (·.size)=some 3:=by kernel_rfl
theorem zz137 (W:World):(zeroValue 137).run Tryz.prog W=.ok (.agg #[.int .i64 0,.int .i64 0,.slice none 0 0]) W:=by kernel_rfl
theorem au_:(Tryz.prog.info? 149).map (·.size)=some 34:=by kernel_rfl
theorem gV_ (W:World):(zeroValue 149).run Tryz.prog W=.ok (.agg #[.string ⟨#[]⟩,.int .i64 0,.int .u8 0,.int .u8 0,.int .u8 0,.int .u8 0,.int .u8 0,.int .u8 0,.int .u8 0,.int .u8 0,.int .u8 0,.int .u8 0,.int .u8 0,.int .u8 0,.int .u8 0,.int .u8 0,.int .u8 0,.int .u8 0,.int .u8 0,.int .u8 0,.int .u8 0,.int .u8 0,.int .u8 0,.int .u8 0,.int .u8 0,.int .u8 0,.int .u8 0,.int .u8 0,.int .u8 0,.int .u8 0,.int .u8 0,.int .u8 0,.int .u8 0,.int .u8 0]) W:=by kernel_rfl
theorem cS_:Elem Tryz.prog 155 22 (.slice none 0 0) 1 24:=⟨Tryz.underlying155,by kernel_rfl,rfl,by decide⟩
theorem te159:Elem Tryz.prog 159 63 (.int .u32 0) 1 4:=⟨Tryz.underlying159,by kernel_rfl,rfl,by decide⟩
theorem fJ_:(Tryz.prog.info? 172).map (·.size)=some 1:=by kernel_rfl
theorem fA_:(Tryz.prog.info? 177).map (·.size)=some 1:=by kernel_rfl
theorem te177:Elem Tryz.prog 177 221 (.agg #[.bool false,.int .i64 0,.int .i64 0,.slice none 0 0]) 4 48:=⟨Tryz.underlying177,by kernel_rfl,rfl,by decide⟩
theorem cr_:(Tryz.prog.info? 179).map (·.size)=some 3:=by kernel_rfl
theorem iM_ (W:World):(zeroValue 179).run Tryz.prog W=.ok (.agg #[.int .i64 0,.int .i64 0,.slice none 0 0]) W:=by kernel_rfl
theorem eq_:(Tryz.prog.info? 190).map (·.size)=some 4:=by kernel_rfl
theorem zz190 (W:World):(zeroValue 190).run Tryz.prog W=.ok (.agg #[.bool false,.int .i64 0,.int .i64 0,.slice none 0 0]) W:=by kernel_rfl
theorem sz208:(Tryz.prog.info? 208).map (·.size)=some 64:=by kernel_rfl
theorem sz210:(Tryz.prog.info? 210).map (·.size)=some 74:=by kernel_rfl
theorem zz210 (W:World):(zeroValue 210).run Tryz.prog W=.ok (.agg #[.bool false,.int .u64 0,.int .u32 0,.int .u32 0,.int .u32 0,.int .u32 0,.int .u32 0,.int .u32 0,.int .u32 0,.int .u32 0,.int .u8 0,.int .u8 0,.int .u8 0,.int .u8 0,.int .u8 0,.int .u8 0,.int .u8 0,.int .u8 0,.int .u8 0,.int .u8 0,.int .u8 0,.int .u8 0,.int .u8 0,.int .u8 0,.int .u8 0,.int .u8 0,.int .u8 0,.int .u8 0,.int .u8 0,.int .u8 0,.int .u8 0,.int .u8 0,.int .u8 0,.int .u8 0,.int .u8 0,.int .u8 0,.int .u8 0,.int .u8 0,.int .u8 0,.int .u8 0,.int .u8 0,.int .u8 0,.int .u8 0,.int .u8 0,.int .u8 0,.int .u8 0,.int .u8 0,.int .u8 0,.int .u8 0,.int .u8 0,.int .u8 0,.int .u8 0,.int .u8 0,.int .u8 0,.int .u8 0,.int .u8 0,.int .u8 0,.int .u8 0,.int .u8 0,.int .u8 0,.int .u8 0,.int .u8 0,.int .u8 0,.int .u8 0,.int .u8 0,.int .u8 0,.int .u8 0,.int .u8 0,.int .u8 0,.int .u8 0,.int .u8 0,.int .u8 0,.int .u8 0,.int .u8 0]) W:=by kernel_rfl
theorem bq_:(Tryz.prog.info? 221).map (·.size)=some 4:=by kernel_rfl
theorem gU_ (W:World):(zeroValue 221).run Tryz.prog W=.ok (.agg #[.bool false,.int .i64 0,.int .i64 0,.slice none 0 0]) W:=by kernel_rfl
theorem sz235:(Tryz.prog.info? 235).map (·.size)=some 1:=by kernel_rfl
theorem zz235 (W:World):(zeroValue 235).run Tryz.prog W=.ok (.agg #[.int .i64 0]) W:=by kernel_rfl
theorem sz244:(Tryz.prog.info? 244).map (·.size)=some 64:=by kernel_rfl
theorem zz244 (W:World):(zeroValue 244).run Tryz.prog W=.ok (.agg (Array.replicate 64 (.int .u32 0))) W:=by kernel_rfl
theorem sz265:(Tryz.prog.info? 265).map (·.size)=some 6:=by kernel_rfl
theorem zz265 (W:World):(zeroValue 265).run Tryz.prog W=.ok (.agg #[.int .u8 0,.int .u8 0,.int .u8 0,.int .u8 0,.int .u8 0,.int .u8 0]) W:=by kernel_rfl
namespace Zx
open Go.RowKit Zk
theorem St.perm {w0 w:World} {M:Nat→Prop} {rs rs':List Res} (S:St w0 M rs w) (h:rs.Perm rs'):St w0 M rs' w :=
  ⟨S.os,S.tape,S.output,S.size,S.old,fun r hr=>S.res r (h.mem_iff.2 hr),(h.pairwise_iff (by intro a b hab i hi hj;exact hab i hj hi)).1 S.apart⟩
section
variable {P : Program} {N : Nat} {Q : Post} {env : Env} {w w0 : World} {M : Nat → Prop} {rs : List Res} {S : World → Prop} {ops : Array Oper} {listed : Array Bool} {fuel : Nat}
theorem eZ_ {o:Oper} {v:Value} (h:∀ w,S w→Y P (Like w) env o v):Y P S env o v:=fun N a w' ha hw=>h w' hw N a w' ha (Like.refl w')
def DX (P:Program) (N:Nat) (ops:Array Oper) (Q:Post) (S:World→Prop) (listed:Array Bool) (fuel:Nat) (env:Env) (w:World):Prop :=
  Region.noSelect ops=true→S w→∀ a,Fits N env a→wpAnyH P .any ops (lift N Q) S fuel listed a w
theorem cH_ {id:Nat} {l:List Oper} (S:World→Prop) (hm:P.follows .mixedOrders=true) (hB:Region.noSelect l.toArray=true) (hS:∀ w1,Like w w1→S w1)
    (h:∀ w1,Like w w1→DX P N l.toArray Q S (Array.replicate l.toArray.size false) l.toArray.size env w1):T P N (.region id l.toArray true) Q env w:=fun a ha =>
  wp_region_held hm (h _ (Like.drew w) hB (hS _ (Like.drew w)) a ha)
theorem aj_ {d:Tmp} [PSt Q d] {op:Op} {ty:TypeId} {pos:String} {after:Array Edge} {v:Value} (i:Nat) (hr:((Region.ready .any ops listed).contains i && Region.free .any ops listed i)=true) (hi:ops[i]?=some ⟨some d,op,ty,pos,after,none⟩)
    (hy:Y P S env ⟨some d,op,ty,pos,after,none⟩ v) (hd:Nat.blt d N=true) (h:DX P N ops Q S (listed.setIfInBounds i true) fuel ((d,v)::env) w):DX P N ops Q S listed (fuel+1) env w:=fun hs hS a ha=>by
  simp only [Bool.and_eq_true] at hr
  exact wpAnyH_take hi hs hr.2 hr.1 (fun c a w hq=>by first | exact gq_ hd hq | (rw [hdst] at hq;exact gq_ hd hq)) (.inl ⟨by simp [Region.wanted],fun w hw=>hy N a w ha hw⟩) hS (h hs hS _ (ha.put d v hd))
end
end Zx
namespace Zx
open Go.RowKit Zk
section
variable {w w0 : World} {M : Nat → Prop} {rs : List Res}
theorem St.sel (S:St w0 M rs w) (ix:List Nat) (hnd:ix.Nodup):St w0 M (ix.filterMap (rs[·]?)) w:=by
  refine ⟨S.os,S.tape,S.output,S.size,S.old,fun r hr=>?_,?_⟩
  · obtain ⟨i,_,hi⟩:=List.mem_filterMap.1 hr
    exact S.res r (List.mem_of_getElem? hi)
  · rw [List.pairwise_filterMap]
    refine List.Pairwise.imp ?_ hnd
    intro i j hij a ha b hb x hx hy
    have hp:=List.pairwise_iff_getElem.1 S.apart
    obtain ⟨h1,h2⟩:=List.getElem?_eq_some_iff.1 ha
    obtain ⟨h3,h4⟩:=List.getElem?_eq_some_iff.1 hb
    rcases Nat.lt_or_gt_of_ne hij with h | h
    · exact hp i j h1 h3 h x (by rw [h2];exact hx) (by rw [h4];exact hy)
    · exact hp j i h3 h1 h x (by rw [h4];exact hy) (by rw [h2];exact hx)
def fam (L:List Res):Res where
  dom i:=∃ r ∈ L,r.dom i
  holds w:=(∀ r ∈ L,r.holds w)∧L.Pairwise fun (r s:Res)=>∀ i,r.dom i→¬ s.dom i
  stable w w' h hh:=⟨fun r hr=>r.stable w w' (fun i hi=>h i ⟨r,hr,hi⟩) (hh.1 r hr),hh.2⟩
theorem St.fam0 (S:St w0 M rs w):St w0 M (rs++[fam []]) w:=by
  refine ⟨S.os,S.tape,S.output,S.size,S.old,fun r hr=>?_,?_⟩
  · rcases List.mem_append.1 hr with hr | hr
    · exact S.res r hr
    · obtain rfl:=List.mem_singleton.1 hr
      exact ⟨⟨fun r hr=>(List.not_mem_nil hr).elim,List.Pairwise.nil⟩,fun i ⟨r,hr,_⟩=>(List.not_mem_nil hr).elim⟩
  · rw [List.pairwise_append]
    exact ⟨S.apart,List.pairwise_singleton _ _,fun a _ b hb i _ hi=>by
      obtain rfl:=List.mem_singleton.1 hb
      obtain ⟨r,hr,_⟩:=hi
      cases hr⟩
theorem St.famIn {L1 L2:List Res} {r:Res} (S:St w0 M (rs++[fam (L1++L2),r]) w):St w0 M (rs++[fam (L1++r::L2)]) w:=by
  have hap:=S.apart
  rw [List.pairwise_append] at hap
  obtain ⟨a1,a2,a3⟩:=hap
  have hfr:=(List.pairwise_cons.1 a2).1 r (by simp)
  have hf:=S.res (fam (L1++L2)) (by simp)
  have hr:=S.res r (by simp)
  refine ⟨S.os,S.tape,S.output,S.size,S.old,fun q hq=>?_,?_⟩
  · rcases List.mem_append.1 hq with hq | hq
    · exact S.res q (by simp [hq])
    · obtain rfl:=List.mem_singleton.1 hq
      refine ⟨⟨fun q hq=>?_,?_⟩,fun i ⟨q,hq,hi⟩=>?_⟩
      · rcases List.mem_append.1 hq with h | h
        · exact hf.1.1 q (by simp [h])
        · rcases List.mem_cons.1 h with rfl | h
          · exact hr.1
          · exact hf.1.1 q (by simp [h])
      · have h2:=hf.1.2
        rw [List.pairwise_append] at h2 ⊢
        refine ⟨h2.1,List.pairwise_cons.2 ⟨fun q hq i hi hqi=>hfr i ⟨q,by simp [hq],hqi⟩ hi,h2.2.1⟩,fun a ha b hb i hi hbi=>?_⟩
        rcases List.mem_cons.1 hb with rfl | hb
        · exact hfr i ⟨a,by simp [ha],hi⟩ hbi
        · exact h2.2.2 a ha b hb i hi hbi
      · rcases List.mem_append.1 hq with h | h
        · exact hf.2 i ⟨q,by simp [h],hi⟩
        · rcases List.mem_cons.1 h with rfl | h
          · exact hr.2 i hi
          · exact hf.2 i ⟨q,by simp [h],hi⟩
  · rw [List.pairwise_append]
    refine ⟨a1,List.pairwise_singleton _ _,fun a ha b hb i hi hbi=>?_⟩
    obtain rfl:=List.mem_singleton.1 hb
    obtain ⟨q,hq,hqi⟩:=hbi
    rcases List.mem_append.1 hq with h | h
    · exact a3 a ha (fam (L1++L2)) (by simp) i hi ⟨q,by simp [h],hqi⟩
    · rcases List.mem_cons.1 h with rfl | h
      · exact a3 a ha q (by simp) i hi hqi
      · exact a3 a ha (fam (L1++L2)) (by simp) i hi ⟨q,by simp [h],hqi⟩
theorem St.famOut {L1 L2:List Res} {r:Res} (S:St w0 M (rs++[fam (L1++r::L2)]) w):St w0 M (rs++[fam (L1++L2),r]) w:=by
  have hap:=S.apart
  rw [List.pairwise_append] at hap
  obtain ⟨a1,_,a3⟩:=hap
  have hf:=S.res (fam (L1++r::L2)) (by simp)
  have hp:=hf.1.2
  rw [List.pairwise_append,List.pairwise_cons] at hp
  have hsub:∀ q,q ∈ L1++L2→q ∈ L1++r::L2:=fun q hq=>by
    rcases List.mem_append.1 hq with h | h
    · simp [h]
    · simp [h]
  have hfr:∀ i,(fam (L1++L2)).dom i→¬ r.dom i:=fun i ⟨q,hq,hqi⟩ hri=>by
    rcases List.mem_append.1 hq with h | h
    · exact hp.2.2 q h r (by simp) i hqi hri
    · exact hp.2.1.1 q h i hri hqi
  refine ⟨S.os,S.tape,S.output,S.size,S.old,fun q hq=>?_,?_⟩
  · rcases List.mem_append.1 hq with hq | hq
    · exact S.res q (by simp [hq])
    · rcases List.mem_cons.1 hq with rfl | hq
      · refine ⟨⟨fun q hq=>hf.1.1 q (hsub q hq),?_⟩,fun i ⟨q,hq,hi⟩=>hf.2 i ⟨q,hsub q hq,hi⟩⟩
        rw [List.pairwise_append]
        exact ⟨hp.1,hp.2.1.2,fun a ha b hb=>hp.2.2 a ha b (by simp [hb])⟩
      · obtain rfl:=List.mem_singleton.1 hq
        exact ⟨hf.1.1 q (by simp),fun i hi=>hf.2 i ⟨q,by simp,hi⟩⟩
  · rw [List.pairwise_append]
    refine ⟨a1,List.pairwise_cons.2 ⟨fun b hb=>by rw [List.mem_singleton.1 hb];exact hfr,List.pairwise_singleton _ _⟩,fun a ha b hb i hi hbi=>?_⟩
    rcases List.mem_cons.1 hb with rfl | hb
    · obtain ⟨q,hq,hqi⟩:=hbi
      exact a3 a ha (fam (L1++r::L2)) (by simp) i hi ⟨q,hsub q hq,hqi⟩
    · rw [List.mem_singleton.1 hb] at hbi
      exact a3 a ha (fam (L1++r::L2)) (by simp) i hi ⟨r,by simp,hbi⟩
end
section
variable {P : Program}
theorem run_equalB {t e:TypeId} {n:Nat} (ht:P.underlying t=some (.array n e)) (he:P.underlying e=some (.int .u8)) (hs:(P.info? e).map (·.size)=some 1) (a b:List UInt8) (ha:a.length=n) (hb:b.length=n) (w:World) :
    (Op.equal t (.agg (bA a)) (.agg (bA b))).run P w=.ok (a == b) w:=by
  unfold Op.equal
  exact run_equalIn_bytes w 9998 ht he hs a b ha hb _ _ (dE_ a) (dE_ b)
theorem gK_ {t e:TypeId} {n:Nat} (ht:P.underlying t=some (.array n e)) (he:P.underlying e=some (.int .u8)) (hs:(P.info? e).map (·.size)=some 1) (a:List UInt8) (ha:a.length=n) (w:World) (b:Bool) :
    (Instr.checkKey b 10000 t (.agg (bA a))).run P w=.ok () w:=by
  have hel:∀ v,(Instr.checkKey b 9999 e v).run P w=.ok () w:=fun v=>by
    unfold Instr.checkKey
    simp only [Sem.run_bind,run_underlying he,Result.andThen_ok]
    rfl
  have hsz:(sizeOf e).run P w=.ok 1 w:=aK_ hs w
  have hpart:∀ i,i < n→∃ v,(part e (bA a) (i*1)).run P w=.ok v w:=fun i hi=>by
    have hg:(bA a)[i]?=some (.int .u8 (a[i].toNat:Int)):=dE_ a i _ (List.getElem?_eq_getElem (by omega))
    have hagg:(isAgg e).run P w=.ok false w:=by
      unfold isAgg
      rw [Sem.run_bind,run_underlying he w]
      rfl
    exact ⟨.int .u8 (a[i].toNat:Int),by simp [part,Sem.run_bind,hagg,hg]⟩
  have key:∀ (m s:Nat),s+m≤n→(forIn (m:=Sem) (List.range' s m) PUnit.unit fun i _=>do
      Instr.checkKey b 9999 e (← part e (bA a) (i*(← sizeOf e)))
      pure (ForInStep.yield PUnit.unit)).run P w=.ok PUnit.unit w:=by
    intro m
    induction m with
    | zero=>intro s _;simp
    | succ m ih =>
      intro s hs
      obtain ⟨v,hv⟩:=hpart s (by omega)
      simp only [List.range'_succ,List.forIn_cons,Sem.run_bind,hsz,Result.andThen_ok,hv,hel,Sem.run_pure]
      exact ih (s+1) (by omega)
  unfold Instr.checkKey
  simp only [Sem.run_bind,run_underlying ht,Result.andThen_ok]
  have h:=key n 0 (by omega)
  rw [Std.Legacy.Range.forIn_eq_forIn_range']
  have hr:[:n].size=n:=by simp [Std.Legacy.Range.size]
  rw [hr]
  rw [h]
  rfl
def aP_ (D:List (List UInt8 × Value)):List MapEntry:=D.zipIdx.map fun p=>⟨.agg (bA p.1.1),p.1.2,p.2⟩
theorem entB_len (D:List (List UInt8 × Value)):(aP_ D).length=D.length:=by simp [aP_]
theorem ec_ (D:List (List UInt8 × Value)) (i:Nat):(aP_ D)[i]?=D[i]?.map fun p=>⟨.agg (bA p.1),p.2,i⟩:=by
  unfold aP_
  rw [List.getElem?_map,List.getElem?_zipIdx,Option.map_map]
  cases D[i]? <;> simp
def eA_ (a:List UInt8):List (List UInt8 × Value)→Nat→Option (Nat × Value)
  | [],_=>none
  | p::r,i=>if a == p.1 then some (i,p.2) else eA_ a r (i+1)
theorem dO_ {a:List UInt8}:∀ {D:List (List UInt8 × Value)} {i j:Nat} {v:Value},eA_ a D i=some (j,v)→i≤j∧D[j - i]?=some (a,v)
  | [],i,j,v,h=>by cases h
  | p :: r,i,j,v,h=>by
    unfold eA_ at h
    split at h
    · rename_i e
      cases h
      have e2:a=p.1:=by simpa using e
      refine ⟨Nat.le_refl _,?_⟩
      rw [Nat.sub_self,e2]
      rfl
    · obtain ⟨h1,h2⟩:=dO_ h
      refine ⟨by omega,?_⟩
      rw [show j - i=j - (i+1)+1 by omega,List.getElem?_cons_succ]
      exact h2
theorem hP_ {a:List UInt8}:∀ {D:List (List UInt8 × Value)} {i:Nat},eA_ a D i=none→∀ p ∈ D,p.1≠a
  | [],i,h=>by intro p hp;cases hp
  | q :: r,i,h=>by
    unfold eA_ at h
    split at h
    · cases h
    · rename_i e
      intro p hp
      rcases List.mem_cons.1 hp with rfl | hp
      · intro e2;exact e (by simp [e2])
      · exact hP_ h p hp
theorem lu_ {n:Nat} {e:TypeId} (a:List UInt8) (m:MapEntry) (es:List MapEntry) (i:Nat):Instr.findNow (.array n e) (.agg (bA a)) (m::es) i=none:=rfl
theorem jc_ {t e:TypeId} {n:Nat} (ht:P.underlying t=some (.array n e)) (he:P.underlying e=some (.int .u8)) (hs:(P.info? e).map (·.size)=some 1) (a:List UInt8) (ha:a.length=n) (w:World) :
    ∀ (D:List (List UInt8 × Value)) (i:Nat),(∀ p ∈ D,p.1.length=n)→∀ es:List MapEntry,es.map (fun m=>(m.key,m.val))=D.map (fun p=>(.agg (bA p.1),p.2))→(Instr.findAsking t (.agg (bA a)) es i).run P w=.ok (eA_ a D i) w
  | [],i,_,es,h=>by
    have:es=[]:=by simpa using h
    subst this
    rfl
  | p :: D,i,hD,es,h=>by
    cases es with
    | nil=>cases h
    | cons m es =>
      simp only [List.map_cons,List.cons.injEq,Prod.mk.injEq] at h
      obtain ⟨⟨h1,h2⟩,h3⟩:=h
      unfold Instr.findAsking eA_
      rw [h1,Sem.run_bind,run_equalB ht he hs a p.1 ha (hD p (by simp)) w,Result.andThen_ok]
      cases hap:a == p.1 with
      | true=>simp [h2]
      | false =>
        simp only [Bool.false_eq_true,if_false]
        exact jc_ ht he hs a ha w D (i+1) (fun q hq=>hD q (by simp [hq])) es h3
theorem hK_ {t e:TypeId} {n:Nat} (ht:P.underlying t=some (.array n e)) (he:P.underlying e=some (.int .u8)) (hs:(P.info? e).map (·.size)=some 1) (a:List UInt8) (ha:a.length=n) (w:World) (D:List (List UInt8 × Value)) (hD:∀ p ∈ D,p.1.length=n) :
    (Instr.findKey t (.agg (bA a)) (aP_ D)).run P w=.ok (eA_ a D 0) w:=by
  have hk:=jc_ ht he hs a ha w D 0 hD (aP_ D) (by
    unfold aP_
    rw [List.map_map]
    apply List.ext_getElem?
    intro i
    rw [List.getElem?_map,List.getElem?_map,List.getElem?_zipIdx]
    cases D[i]? <;> simp)
  unfold Instr.findKey
  simp only [Sem.run_bind,run_underlying ht,Result.andThen_ok]
  cases D with
  | nil=>rfl
  | cons p D =>
    rw [show aP_ (p::D)=⟨.agg (bA p.1),p.2,0⟩::(aP_ (p::D)).tail from Z,lu_]
    exact hk
def eM_ (n b:Nat) (D:List (List UInt8 × Value)):Res where
  dom i:=i=b
  holds w:=w.heap[b]?=some (.map (aP_ D).toArray D.length)∧∀ p ∈ D,p.1.length=n
  stable w w' h hh:=⟨(h b Z).trans hh.1,hh.2⟩
def getB (a:List UInt8) (D:List (List UInt8 × Value)) (z:Value):Value:=(eA_ a D 0).elim z (·.2)
end
section
variable {P : Program} {N : Nat} {Q : Post} {env : Env} {w w0 : World} {M : Nat → Prop} {rs : List Res} {K : Env → World → Prop} {d : Tmp} {ty : TypeId} {pos : String} {after : Array Edge} {g : Option (Nat × Bool)} {dst : Option Tmp}
theorem getM {r:Nat} {es:Array MapEntry} {clock:Nat} (hb:w.heap[r]?=some (.map es clock)):(getObj r).run P w=.ok (.map es clock) w:=by
  simp [getObj,Sem.run,hb]
theorem setM {r:Nat} {es:Array MapEntry} {clock:Nat} (o:Obj) (hb:w.heap[r]?=some (.map es clock)):(setObj r o).run P w=.ok () { w with heap:=w.heap.setIfInBounds r o }:=by
  simp [setObj,Sem.run,hb]
theorem y_lookB {t k e u:TypeId} {n b:Nat} {D:List (List UInt8 × Value)} {m x:Operand} {a:List UInt8} {z:Value} (hw:(eM_ n b D).holds w) (ht:P.underlying t=some (.map k e)) (hk:P.underlying k=some (.array n u)) (hu:P.underlying u=some (.int .u8)) (hs:(P.info? u).map (·.size)=some 1)
    (hz:∀ W,(zeroValue e).run P W=.ok z W) (hm:ev env m=some (.map (some b))) (hx:ev env x=some (.agg (bA a))) (ha:a.length=n) :
    Y P (Like w) env ⟨dst,.lookup t m x false,ty,pos,after,g⟩ (getB a D z):=fun N c w' hc hl=>by
  have hh:w'.heap[b]?=some (.map (aP_ D).toArray D.length):=by
    have hb:b < w.heap.size:=by
      rcases Nat.lt_or_ge b w.heap.size with q | q
      · exact q
      · have:=hw.1;rw [Array.getElem?_eq_none q] at this;cases this
    rw [hl.block b hb];exact hw.1
  have hf:=hK_ (P:=P) hk hu hs a ha w' D hw.2
  simp only [execOp,hc.eval hm,hc.eval hx,Instr.lookup,Sem.run_bind,run_underlying ht,Result.andThen_ok,getM hh,Sem.run_pure,gK_ hk hu hs a ha w',hf]
  unfold getB
  cases eA_ a D 0 with
  | none=>simp [hz]
  | some p=>rfl
theorem jp_ {t n:Nat} (S:St w0 M rs w) (hd:Nat.blt d N=true)
    (h:∀ b w',w0.heap.size≤b→St w0 M (rs++[eM_ n b []]) w'→K ((d,.map (some b))::env) w') :
    O P N Q ⟨some d,.makeMap t none,ty,pos,after,g⟩ env w K:=fun a ha=>by
  unfold Oper.wp execOp
  simp only [run_makeMap,Option.map_none,Sem.run_bind,Sem.run_pure,Result.andThen_ok]
  refine ⟨_,ha.put d _ hd,h _ _ S.size (S.new (bn_ w _) _ ⟨heap_alloc_new w _,fun p hp=>by cases hp⟩ fun i hi=>?_)⟩
  have hi':i=w.heap.size:=hi
  subst hi'
  exact ⟨Nat.le_refl _,by simp⟩
theorem ey_ (w:World) (b:Nat) (o:Obj) (i:Nat) (h:i≠b):({ w with heap:=w.heap.setIfInBounds b o }:World).heap[i]?=w.heap[i]?:=by
  show (w.heap.setIfInBounds b o)[i]?=_
  rw [Array.getElem?_setIfInBounds_ne (Ne.symm h)]
theorem kb_ (a:List UInt8):Instr.sameBits 10000 (.agg (bA a)) (.agg (bA a))=true:=by
  unfold Instr.sameBits
  simp only [BEq.rfl,Bool.true_and]
  rw [List.all_eq_true]
  intro p hp
  obtain ⟨i,hi,rfl⟩:=List.getElem_of_mem hp
  rw [List.getElem_zip]
  have h1:i < (bA a).toList.length:=by rw [List.length_zip] at hi;omega
  have hx:(bA a).toList[i]=.int .u8 ((a[i]'(by simpa [bA,bL] using h1)).toNat:Int):=by simp [bA,bL,bV]
  rw [hx]
  simp [Instr.sameBits]
theorem o_entryB {t k e u:TypeId} {n b:Nat} {D:List (List UInt8 × Value)} {m x:Operand} {a:List UInt8} {z:Value} (S:St w0 M rs w) (j:Nat) (hj:rs[j]?=some (eM_ n b D)) (ht:P.underlying t=some (.map k e)) (hk:P.underlying k=some (.array n u)) (hu:P.underlying u=some (.int .u8)) (hs:(P.info? u).map (·.size)=some 1)
    (hz:∀ W,(zeroValue e).run P W=.ok z W) (hm:ev env m=some (.map (some b))) (hx:ev env x=some (.agg (bA a))) (ha:a.length=n) (hd:Nat.blt d N=true)
    (h1:∀ i v,eA_ a D 0=some (i,v)→St w0 M rs w→K ((d,.tuple #[v,.int .i64 (i:Int)])::env) w)
    (h2:eA_ a D 0=none→∀ w',St w0 M (rs.set j (eM_ n b (D++[(a,z)]))) w'→K ((d,.tuple #[z,.int .i64 (D.length:Int)])::env) w') :
    O P N Q ⟨some d,.mapEntry t m x,ty,pos,after,g⟩ env w K:=fun c hc=>by
  have hw:=S.get j hj
  have hf:=hK_ (P:=P) hk hu hs a ha w D hw.2
  unfold Oper.wp execOp
  simp only [hc.eval hm,hc.eval hx,Instr.mapEntry,Sem.run_bind,run_underlying ht,Result.andThen_ok,getM hw.1,Sem.run_pure,gK_ hk hu hs a ha w,hf]
  cases hp:eA_ a D 0 with
  | some p =>
    obtain ⟨i,v⟩:=p
    obtain ⟨_,hi⟩:=dO_ hp
    rw [Nat.sub_zero] at hi
    have hg:(aP_ D).toArray[i]?=some ⟨.agg (bA a),v,i⟩:=by rw [List.getElem?_toArray,ec_,hi];rfl
    have hil:=(Array.getElem?_eq_some_iff.1 hg).1
    have hget:=(Array.getElem?_eq_some_iff.1 hg).2
    have hmod:((aP_ D).toArray.modify i fun e=>{ e with key:=Value.agg (bA a)})=(aP_ D).toArray:=by
      apply Array.ext_getElem?
      intro q
      rw [Array.getElem?_modify]
      split
      · rename_i e;subst e;rw [hg];rfl
      · rfl
    have hsame:({ w with heap:=w.heap.setIfInBounds b (.map (aP_ D).toArray D.length)}:World)=w:=by
      have:w.heap.setIfInBounds b (.map (aP_ D).toArray D.length)=w.heap:=by
        apply Array.ext_getElem?
        intro q
        by_cases e:q=b
        · subst e
          have hq:q < w.heap.size:=(Array.getElem?_eq_some_iff.1 hw.1).1
          rw [Array.getElem?_setIfInBounds_self_of_lt hq,hw.1]
        · rw [Array.getElem?_setIfInBounds_ne (Ne.symm e)]
      rw [this]
    simp only [hg,Option.map_some,Option.getD_some,Instr.keyThatStays,kb_,if_true,Sem.run_pure,Sem.run_bind,Result.andThen_ok,hmod,setM _ hw.1,hsame]
    exact ⟨_,hc.put d _ hd,h1 i v hp S⟩
  | none =>
    have hnew:(aP_ D).toArray.push { key:=Value.agg (bA a),val:=z,born:=D.length }=(aP_ (D++[(a,z)])).toArray:=by
      unfold aP_
      rw [List.zipIdx_append,List.map_append]
      simp
    simp only [hz,Sem.run_bind,Sem.run_pure,Result.andThen_ok,setM _ hw.1,hnew]
    refine ⟨_,hc.put d _ hd,h2 hp _ (S.upd j hj Z Z Z (by simp) (fun i hi hn=>ey_ w b _ i hn) ⟨?_,fun p hp=>?_⟩ fun i hi=>.inl hi)⟩
    · have hq:b < w.heap.size:=(Array.getElem?_eq_some_iff.1 hw.1).1
      show (w.heap.setIfInBounds b _)[b]?=_
      rw [Array.getElem?_setIfInBounds_self_of_lt hq,List.length_append]
      rfl
    · rcases List.mem_append.1 hp with hp | hp
      · exact hw.2 p hp
      · obtain rfl:=List.mem_singleton.1 hp
        exact ha
theorem jq_ {t:TypeId} {n b i:Nat} {D:List (List UInt8 × Value)} {m x v:Operand} {a:List UInt8} {old new:Value} (S:St w0 M rs w) (j:Nat) (hj:rs[j]?=some (eM_ n b D)) (hi:D[i]?=some (a,old)) (hm:ev env m=some (.map (some b))) (hx:ev env x=some (.int .i64 (i:Int))) (hv:ev env v=some new)
    (h:∀ w',St w0 M (rs.set j (eM_ n b (D.set i (a,new)))) w'→K env w') :
    O P N Q ⟨none,.entryStore t m x v,ty,pos,after,g⟩ env w K:=fun c hc=>by
  have hw:=S.get j hj
  have hil:i < D.length:=(List.getElem?_eq_some_iff.1 hi).1
  have hfind:(aP_ D).toArray.findIdx? (fun e=>((e.born:Int) == (i:Int)))=some i:=by
    rw [Array.findIdx?_eq_some_iff_getElem]
    have hg:∀ q (hq:q < (aP_ D).toArray.size),((aP_ D).toArray[q]).born=q:=fun q hq=>by
      have h1:(aP_ D).toArray[q]?=some (aP_ D).toArray[q]:=Array.getElem?_eq_getElem hq
      rw [List.getElem?_toArray,ec_] at h1
      cases hD:D[q]? with
      | none=>rw [hD] at h1;cases h1
      | some p=>rw [hD] at h1;have h2:=Option.some.inj h1;rw [← h2]
    have hes:(aP_ D).toArray.size=D.length:=by simp [entB_len]
    refine ⟨by omega,by rw [hg i (by omega)];simp,fun q hq=>?_⟩
    rw [hg q (by omega)]
    simp
    omega
  have hnew:((aP_ D).toArray.modify i fun e=>{ e with val:=new })=(aP_ (D.set i (a,new))).toArray:=by
    apply Array.ext_getElem?
    intro q
    rw [Array.getElem?_modify,List.getElem?_toArray,List.getElem?_toArray,ec_,ec_,List.getElem?_set]
    split
    · rename_i e;subst e;first | (rw [if_pos hil,hi];rfl) | (rw [hi];rfl)
    · rfl
  have hai:(asInt (.int .i64 (i:Int))).run P w=.ok (i:Int) w:=rfl
  unfold Oper.wp execOp
  simp only [hc.eval hm,hc.eval hx,hc.eval hv,Instr.entryStore,Sem.run_bind,getM hw.1,Result.andThen_ok,hai,Sem.run_pure,hfind,setM _ hw.1,hnew]
  refine ⟨env,hc,h _ (S.upd j hj Z Z Z (by simp) (fun i hi hn=>ey_ w b _ i hn) ⟨?_,fun p hp=>?_⟩ fun i hi=>.inl hi)⟩
  · have hq:b < w.heap.size:=(Array.getElem?_eq_some_iff.1 hw.1).1
    show (w.heap.setIfInBounds b _)[b]?=_
    rw [Array.getElem?_setIfInBounds_self_of_lt hq,List.length_set]
  · rcases List.mem_or_eq_of_mem_set hp with hp | rfl
    · exact hw.2 p hp
    · exact hw.2 (a,old) (List.mem_of_getElem? hi)
theorem y_arrAt {t e:TypeId} {n m c:Nat} {A:Option Addr} {x:Operand} {S:World→Prop} (ht:P.underlying t=some (.array n e)) (hx:ev env x=some (.slice A m c)) (hn:n≤m) :
    Y P S env ⟨dst,.sliceToArrayPointer t x,ty,pos,after,g⟩ (.pointer A):=fun N c w hc _=>by
  simp only [execOp,hc.eval hx,Instr.arrayAt,Sem.run_bind,run_underlying ht,Result.andThen_ok]
  rw [if_neg (by omega)]
  simp only [Sem.run_bind,Sem.run_pure,Result.andThen_ok]
end
end Zx
namespace Zx
open Go.ChangeShapes Go.WideShapes Go.ChangeAt Go.RowKit Go.Deep Zk
section
variable {H : Type} {enc : TypeId × Value → H} {P : Program} {w : World} {base : Nat} {spare : Nat → Bool} {held : Bool}
theorem fU_ {α:Type} (f : α→List Value) (size:Nat) (hlen:∀ y,(f y).length=size):∀ l:List α,(l.flatMap f).length=l.length*size
  | []=>by simp
  | y::l=>by rw [List.flatMap_cons,List.length_append,hlen,fU_ f size hlen l,List.length_cons,Nat.succ_mul];omega
theorem flat_get {α:Type} (f : α→List Value) (size:Nat) (hlen:∀ y,(f y).length=size):∀ (l:List α) (j:Nat) (u:Value),(l.flatMap f)[j]?=some u→∃ i y,l[i]?=some y∧i*size≤j∧(f y)[j - i*size]?=some u
  | [],j,u,h=>by simp at h
  | y :: l,j,u,h=>by
    rw [List.flatMap_cons,List.getElem?_append,hlen] at h
    split at h
    · exact ⟨0,y,rfl,by omega,by simpa using h⟩
    · obtain ⟨i,z,h1,h2,h3⟩:=flat_get f size hlen l (j - size) u h
      exact ⟨i+1,z,by simpa using h1,by rw [Nat.succ_mul];omega,by rw [Nat.succ_mul,show j - (i*size+size)=j - size - i*size by omega];exact h3⟩
theorem hy_ {α:Type} (f : α→List Value) (size:Nat) (hlen:∀ y,(f y).length=size):∀ (l:List α) (k:Nat) (y : α),l[k]?=some y→((l.flatMap f).drop (k*size)).take size=f y
  | [],k,y,h=>by simp at h
  | z::l,0,y,h=>by
    have e:z=y:=by simpa using h
    subst e
    rw [Nat.zero_mul,List.drop_zero,List.flatMap_cons,List.take_append_of_le_length (by rw [hlen];exact Nat.le_refl _),List.take_of_length_le (by rw [hlen];exact Nat.le_refl _)]
  | z::l,k+1,y,h=>by
    rw [List.flatMap_cons,Nat.succ_mul,Nat.add_comm, ← List.drop_drop,List.drop_left' (hlen z)]
    exact hy_ f size hlen l k y (by simpa using h)
end
section
variable {P : Program} {env : Env} {w : World} {dst : Option Tmp} {ty : TypeId} {pos : String} {after : Array Edge} {g : Option (Nat × Bool)}
theorem cp_ {α:Type} {f : α→List Value} {l:List α} {y : α} {x:Operand} {A:Option Addr} {n c k size:Nat} {lt:TypeId} {d:TypeDesc} (hlen:∀ y,(f y).length=size) (hd:P.underlying lt=some d) (hrow:d.isRow=true) (hsz:(P.info? lt).map (·.size)=some size) (hx:ev env x=some (pR A k size)) (hr:Rs w size A n c (l.flatMap f)) (hk:k < n) (hy:l[k]?=some y) :
    Y P (Like w) env ⟨dst,.load lt x,ty,pos,after,g⟩ (.agg (f y).toArray):=by
  have h:=y_ldn (dst:=dst) (ty:=ty) (pos:=pos) (after:=after) (g:=g) hd hrow hsz hx hr hk
  rwa [hy_ f size hlen l k y hy] at h
end
end Zx
namespace Zx
open Go.RowKit Zk
section
variable {w w0 : World} {M : Nat → Prop} {rs : List Res}
theorem split_at {α:Type} {l:List α} {k:Nat} {x : α} (h:l[k]?=some x):∃ a b,l=a++x::b∧∀ y,l.set k y=a++y::b:=by
  obtain ⟨h1,h2⟩:=List.getElem?_eq_some_iff.1 h
  refine ⟨l.take k,l.drop (k+1),?_,fun y=>?_⟩
  · rw [← h2,List.getElem_cons_drop,List.take_append_drop]
  · rw [List.set_eq_take_append_cons_drop,if_pos h1]
theorem hr_ {α:Type} (a b:List α) (x : α):(a++x::b).Perm (a++b++[x]) :=
  List.perm_middle.trans ((List.perm_append_comm (l₁:=[x]) (l₂:=a++b)))
theorem St.famOutAt (S:St w0 M rs w) (k:Nat) {L L1 L2:List Res} {r:Res} (hk:rs[k]?=some (fam L)) (hL:L=L1++r::L2):St w0 M (rs.set k (fam (L1++L2))++[r]) w:=by
  subst hL
  obtain ⟨a,b,h1,h2⟩:=split_at hk
  rw [h2]
  subst h1
  have S1:=(S.perm (hr_ a b _)).famOut
  refine S1.perm ?_
  have:=(hr_ a b (fam (L1++L2))).symm.append_right [r]
  simpa using this
theorem St.famInAt {L1 L2:List Res} {r:Res} (S:St w0 M (rs++[r]) w) (k:Nat) (hk:rs[k]?=some (fam (L1++L2))):St w0 M (rs.set k (fam (L1++r::L2))) w:=by
  obtain ⟨a,b,h1,h2⟩:=split_at hk
  rw [h2]
  subst h1
  have hp:=(hr_ a b (fam (L1++L2))).append_right [r]
  have S1:St w0 M ((a++b)++[fam (L1++L2),r]) w:=S.perm (by simpa using hp)
  exact S1.famIn.perm (hr_ a b _).symm
theorem St.still (S:St w0 M rs w) (k:Nat) {e size n c:Nat} {A:Option Addr} {xs:List Value} (hk:rs[k]?=some (Zx.row e size A n c xs)):St w0 M (rs.set k (fixed size A n c xs)) w :=
  S.upd k hk Z Z Z (Nat.le_refl _) (fun _ _ _=>rfl) (cd_ (S.get k hk)) fun i ⟨ad,hn,hA,hi⟩=>.inl (by
    have hown:w.ownsRow 0 e size (.slice A n c) n xs:=S.get k hk
    obtain ⟨b,cap,h1,_,_⟩:=hown.form hn
    injection h1 with hA2 _ _
    rw [hA2] at hA
    cases hA
    subst hi
    show (Value.slice A n c).ownBlock=_
    rw [hA2]
    rfl)
def bE_ (p:Part):Res:=fixed 1 p.A p.n p.c (bL p.l)
end
section
variable {P : Program} {env : Env} {w : World} {dst : Option Tmp} {ty : TypeId} {pos : String} {after : Array Edge} {g : Option (Nat × Bool)}
theorem y_ldArr {x:Operand} {A:Option Addr} {n c m:Nat} {l:List UInt8} {lt e:TypeId} (ht:P.underlying lt=some (.array m e)) (hsz:(P.info? lt).map (·.size)=some m) (hx:ev env x=some (.pointer A)) (hr:Rs w 1 A n c (bL l)) (hm:m≤n) (hpos:0 < m) :
    Y P (Like w) env ⟨dst,.load lt x,ty,pos,after,g⟩ (.agg (bA (l.take m))):=by
  obtain ⟨ad,rfl,hb,hcell⟩:=hr.rd.2 (by omega)
  have hl:=hr.lenb
  have hr2:Rs w m (some ad) 1 1 (bL (l.take m)):=⟨⟨by simp;omega,fun _=>⟨ad,rfl,hb,fun j u hj=>hcell j u (by
    have e1:bL (l.take m)=(bL l).take m:=by simp [bL]
    rw [e1,List.getElem?_take] at hj
    split at hj
    · exact hj
    · cases hj)⟩⟩,Nat.le_refl _,by omega⟩
  have h:=y_ldn (P:=P) (env:=env) (dst:=dst) (ty:=ty) (pos:=pos) (after:=after) (g:=g) (x:=x) (k:=0) ht Z hsz (by rw [hx];simp [pR,Addr.add]) hr2 (by omega)
  have e2:((bL (l.take m)).drop (0*m)).take m=bL (l.take m):=by
    rw [Nat.zero_mul,List.drop_zero]
    exact List.take_of_length_le (by simp;omega)
  rw [e2] at h
  exact h
end
end Zx
namespace Zx
open Go.RowKit Zk
section
variable {P : Program} {N : Nat} {Q : Post} {env : Env} {w w0 : World} {M : Nat → Prop} {rs : List Res} {S : World → Prop} {ops : Array Oper} {listed : Array Bool} {fuel : Nat}
theorem cB_ (hr:Region.ready .any ops listed=[]) (h:Q .normal env w):DX P N ops Q S listed fuel env w:=fun _ _ a ha=>wpAnyH_done hr ⟨env,ha,h⟩ fuel
theorem aX_ {d:Option Tmp} {op:Op} {ty:TypeId} {pos:String} {after:Array Edge} (i:Nat) (hr:Region.ready .any ops listed=[i]) (hi:ops[i]?=some ⟨d,op,ty,pos,after,none⟩)
    (h:O P N Q ⟨d,op,ty,pos,after,none⟩ env w (fun e' w'=>S w'∧DX P N ops Q S (listed.setIfInBounds i true) fuel e' w')):DX P N ops Q S listed (fuel+1) env w:=fun hs hS a ha=>by
  refine wpAnyH_all hr (by simp) fun j hj=>?_
  obtain rfl:=List.mem_singleton.1 hj
  unfold wpOp
  simp only [hi,Region.wanted,if_true]
  exact .inl (Oper.wp_mono (fun a' w' ⟨e',h3,h4,h5⟩=>⟨h4,h5 hs h4 a' h3⟩) (h a ha))
theorem jO_ {d1 d2:Option Tmp} {op1 op2:Op} {ty1 ty2:TypeId} {pos1 pos2:String} {after1 after2:Array Edge} (i j:Nat) (hr:Region.ready .any ops listed=[i,j]) (hi:ops[i]?=some ⟨d1,op1,ty1,pos1,after1,none⟩) (hj:ops[j]?=some ⟨d2,op2,ty2,pos2,after2,none⟩)
    (h1:O P N Q ⟨d1,op1,ty1,pos1,after1,none⟩ env w (fun e' w'=>S w'∧DX P N ops Q S (listed.setIfInBounds i true) fuel e' w'))
    (h2:O P N Q ⟨d2,op2,ty2,pos2,after2,none⟩ env w (fun e' w'=>S w'∧DX P N ops Q S (listed.setIfInBounds j true) fuel e' w')):DX P N ops Q S listed (fuel+1) env w:=fun hs hS a ha=>by
  refine wpAnyH_all hr (by simp) fun q hq=>?_
  have hq':q=i∨q=j:=by simpa using hq
  rcases hq' with rfl | rfl
  · unfold wpOp
    simp only [hi,Region.wanted,if_true]
    exact .inl (Oper.wp_mono (fun a' w' ⟨e',h3,h4,h5⟩=>⟨h4,h5 hs h4 a' h3⟩) (h1 a ha))
  · unfold wpOp
    simp only [hj,Region.wanted,if_true]
    exact .inl (Oper.wp_mono (fun a' w' ⟨e',h3,h4,h5⟩=>⟨h4,h5 hs h4 a' h3⟩) (h2 a ha))
end
end Zx
namespace Zx
open Go.RowKit Zk
section
variable {P : Program}
variable {S : World → Prop} {env : Env} {dst : Option Tmp} {ty : TypeId} {pos : String} {after : Array Edge} {g : Option (Nat × Bool)}
end
section
open Go.ChangeShapes Go.WideShapes Go.ChangeAt Go.Deep
variable {H : Type} {enc : TypeId × Value → H} {P : Program} {w : World} {base : Nat} {spare : Nat → Bool} {held : Bool}
end
end Zx
namespace Zx
section
variable {α : Type}
structure Ord3 (lt : α → α→Bool):Prop where
  asym:∀ x y,lt x y=true→lt y x=false
  nt:∀ x y z,lt x y=false→lt y z=false→lt x z=false
theorem Ord3.tr {lt : α → α→Bool} (O:Ord3 lt) {x y z : α} (h1:lt x y=true) (h2:lt z y=false):lt x z=true:=by
  cases h:lt x z with
  | true=>rfl
  | false=>rw [O.nt x z y h h2] at h1;exact h1
variable (lt : α → α → Bool)
variable {lt}
end
end Zx
namespace Tre
open Go.RowKit Zk Zx
structure EV where
  nm:ByteArray
  md:Int
  id:List UInt8
  h:id.length=32∧nm.size≤1000000000
deriving DecidableEq
def enf (e:EV):List Value:=Value.string e.nm::Value.int .i64 e.md::bL e.id
theorem aG_ (e:EV):(enf e).length=34:=by simp [enf,e.h.1]
theorem he_ (e:EV):List.take 34 (List.drop 0 (enf e).toArray.toList)=enf e:=by
  rw [List.drop_zero]
  exact List.take_of_length_le (by rw [List.toList_toArray,aG_];exact Nat.le_refl _)
theorem enf_one (e:EV):∀ u ∈ enf e,u.oneCell'=true:=fun u hu=>by
  unfold enf at hu
  rcases List.mem_cons.1 hu with rfl | hu
  · rfl
  · rcases List.mem_cons.1 hu with rfl | hu
    · rfl
    · exact R_ _ u hu
theorem ld_ (l:List EV):(l.flatMap enf).length=l.length*34:=fU_ enf 34 aG_ l
theorem ens_n {w:World} {A:Option Addr} {n c:Nat} {l:List EV} (h:Rs w 34 A n c (l.flatMap enf)):n=l.length:=by
  have:=h.len
  rw [ld_] at this
  omega
end Tre
namespace Zx
open Go.RowKit Zk
def bl (a b:List UInt8):Bool:=Op.bytesLess a b
theorem sLt_eq (a b:List UInt8):sLt ⟨a.toArray⟩ ⟨b.toArray⟩=bl a b:=by
  unfold sLt
  rw [toList_eq,toList_eq]
  rfl
theorem bl_cons (x y:UInt8) (a b:List UInt8):bl (x::a) (y::b)=(decide (x < y) || (x == y && bl a b)):=rfl
theorem cmp_bl:∀ a b:List UInt8,decide (Lib.compareBytes a b < 0)=bl a b
  | [],[]=>rfl
  | [],_::_=>rfl
  | _::_,[]=>rfl
  | x :: a, y::b=>by
    rw [bl_cons,Lib.compareBytes]
    by_cases h1:x < y
    · simp [h1]
    · by_cases h2:y < x
      · have h3:x≠y:=fun e=>by subst e;exact h1 h2
        simp [h1,h2,h3]
      · have h3:x=y:=by
          rcases Classical.em (x=y) with h | h
          · exact h
          · rcases UInt8.lt_or_lt_of_ne h with h4 | h4
            · exact (h1 h4).elim
            · exact (h2 h4).elim
        subst h3
        have ih:=cmp_bl a b
        rw [if_neg h1,if_neg h1,ih]
        simp [h1]
end Zx
namespace Tre
open Go.RowKit Zk Zx
def strCmp_ren:Go.Shelf.Ren:=⟨fun | 106=>173 | 213=>191 | 265=>199 | n=>n,fun | 9=>9 | 3=>3 | n=>n,fun | n=>n⟩
theorem strCmp:Go.Proofs.Lays.n106 Tryz.prog strCmp_ren:={
  mixed:=by kernel_rfl,
  f106:=Tryz.func173.trans (congrArg some (by kernel_rfl)),
  f213:=Tryz.func191.trans (congrArg some (by kernel_rfl)),
  f265:=Tryz.func199.trans (congrArg some (by kernel_rfl)),
  t3:=Tryz.underlying3,
  a3:=Tryz.isAgg3,
  z3:=Tryz.sizeOf3,
  v3:=Tryz.zeroValue3,
  t9:=Tryz.underlying9,
  a9:=Tryz.isAgg9,
  z9:=Tryz.sizeOf9,
  v9:=Tryz.zeroValue9 }
def idxS_ren:Go.Shelf.Ren:=⟨fun | 217=>154 | 266=>183 | n=>n,fun | 9=>9 | 5=>5 | 3=>3 | n=>n,fun | n=>n⟩
theorem idxS:Go.Proofs.Lays.n217 Tryz.prog idxS_ren:={
  mixed:=by kernel_rfl,
  f217:=Tryz.func154.trans (congrArg some (by kernel_rfl)),
  f266:=Tryz.func183.trans (congrArg some (by kernel_rfl)),
  t3:=Tryz.underlying3,
  a3:=Tryz.isAgg3,
  z3:=Tryz.sizeOf3,
  v3:=Tryz.zeroValue3,
  t5:=Tryz.underlying5,
  a5:=Tryz.isAgg5,
  z5:=Tryz.sizeOf5,
  v5:=Tryz.zeroValue5,
  t9:=Tryz.underlying9,
  a9:=Tryz.isAgg9,
  z9:=Tryz.sizeOf9,
  v9:=Tryz.zeroValue9 }
def idxB_ren:Go.Shelf.Ren:=⟨fun | 185=>170 | 187=>45 | 115=>187 | 253=>188 | 224=>156 | 254=>189 | 255=>82 | 291=>198 | n=>n,fun | 37=>22 | 3=>3 | 4=>4 | 0=>0 | 5=>5 | 46=>68 | 9=>9 | 146=>262 | 51=>63 | n=>n,fun | 1=>0 | n=>n⟩
theorem idxB:Go.Proofs.Lays.n185 Tryz.prog idxB_ren:={
  mixed:=by kernel_rfl,
  f115:=Tryz.func187.trans (congrArg some (by kernel_rfl)),
  f185:=Tryz.func170.trans (congrArg some (by kernel_rfl)),
  f187:=Tryz.func45.trans (congrArg some (by kernel_rfl)),
  f224:=Tryz.func156.trans (congrArg some (by kernel_rfl)),
  f253:=Tryz.func188.trans (congrArg some (by kernel_rfl)),
  f254:=Tryz.func189.trans (congrArg some (by kernel_rfl)),
  f255:=Tryz.func82.trans (congrArg some (by kernel_rfl)),
  f291:=Tryz.func198.trans (congrArg some (by kernel_rfl)),
  t0:=Tryz.underlying0,
  a0:=Tryz.isAgg0,
  z0:=Tryz.sizeOf0,
  v0:=Tryz.zeroValue0,
  t3:=Tryz.underlying3,
  a3:=Tryz.isAgg3,
  z3:=Tryz.sizeOf3,
  v3:=Tryz.zeroValue3,
  t4:=Tryz.underlying4,
  a4:=Tryz.isAgg4,
  z4:=Tryz.sizeOf4,
  v4:=Tryz.zeroValue4,
  t5:=Tryz.underlying5,
  a5:=Tryz.isAgg5,
  z5:=Tryz.sizeOf5,
  v5:=Tryz.zeroValue5,
  t9:=Tryz.underlying9,
  a9:=Tryz.isAgg9,
  z9:=Tryz.sizeOf9,
  v9:=Tryz.zeroValue9,
  t37:=Tryz.underlying22,
  a37:=Tryz.isAgg22,
  z37:=Tryz.sizeOf22,
  v37:=Tryz.zeroValue22,
  t46:=Tryz.underlying68,
  a46:=Tryz.isAgg68,
  z46:=Tryz.sizeOf68,
  v46:=Tryz.zeroValue68,
  t51:=Tryz.underlying63,
  a51:=Tryz.isAgg63,
  z51:=Tryz.sizeOf63,
  v51:=Tryz.zeroValue63,
  t146:=Tryz.underlying262,
  a146:=Tryz.isAgg262,
  z146:=Tryz.sizeOf262,
  v146:=Tryz.zeroValue262,
  g1:=by kernel_rfl }
theorem sLt_bl (a b:ByteArray):sLt a b=bl a.data.toList b.data.toList:=by
  have h:=sLt_eq a.data.toList b.data.toList
  rw [Array.toArray_toList,Array.toArray_toList] at h
  exact h
def gS_ (e:EV):ByteArray:=if e.md=3 then e.nm++⟨#[47]⟩ else e.nm
def ltK (x y:EV):Bool:=sLt (gS_ x) (gS_ y)
theorem compar (a b:ByteArray) (w0:World):Calls Tryz.prog 173 #[.string a,.string b] w0 fun e w'=>∃ u,e=.returned u∧Like w0 w'∧∃ v:Int,u=.int .i64 v∧(v < 0↔sLt a b=true) :=
  (show Calls Tryz.prog 173 _ _ _ from Any.strings_Compare strCmp a b w0).mono fun e w' ⟨h1,h2⟩=>by
    subst h2
    refine ⟨_,h1,Like.refl _,_,rfl,?_⟩
    rw [sLt_bl, ← cmp_bl]
    exact decide_eq_true_iff.symm
theorem key (x:EV) (w0:World)  :
    Calls Tryz.prog 174 #[.agg (enf x).toArray] w0 fun e w'=>∃ u,e=.returned u∧Like w0 w'∧u=.string (gS_ x):=by
 refine v_ (env:=[(0,.agg (enf x).toArray)]) [.agg (enf x).toArray] Tryz.func174 Z Tryz.ntmps174 Z Z ?_;have S0:=St.start w0 noM;have hsz:=x.h.2;have h1z:(⟨#[47]⟩:ByteArray).size=1:=rfl;refine a_ fun K1 hK1=>b_ (L_o (bO_ Z S0 Z fun b1 w1 hb1 S1=>Lan Z Z (hK1 _ _ (a_ fun K2 hK2=>a_ fun K3 hK3=>b_ (L_y (g_ 1 Tryz.underlying149 Z sz3 Z Z Z) Z (L_y (t_ Tryz.underlying3 Z Z (((S1.blk 0 Z).cell _).trans (by rfl))) Z ?_))))));refine L_y (am_ Z Z) Z (f_ (hK3 _ _ ?_));refine o_ Z (fun h5=>?_) (fun h5=>?_)
 ·
  refine a_ fun K4 hK4=>b_ (L_y (g_ 0 Tryz.underlying149 Z sz9 Z Z Z) Z (L_y (t_ Tryz.underlying9 Z Z (((S1.blk 0 Z).cell _).trans (by rfl))) Z ?_));refine L_y (fz_ Z Z (by omega)) Z (Lan Z Z (hK4 _ _ (l_ (ur (F_ Z Z ?_)))));first | exact ⟨_,rfl,S1.like0,by unfold gS_;rw [if_pos (by omega)]⟩ | exact ⟨_,rfl,S1.like0,by unfold gS_;rw [if_neg (by omega)];rfl⟩
 ·
  refine j_ (hK2 _ _ (a_ fun K5 hK5=>b_ (L_y (g_ 0 Tryz.underlying149 Z sz9 Z Z Z) Z (L_y (t_ Tryz.underlying9 Z Z (((S1.blk 0 Z).cell _).trans (by rfl))) Z ?_))));refine Lan Z Z (hK5 _ _ (l_ (ur (F_ Z Z ?_))));first | exact ⟨_,rfl,S1.like0,by unfold gS_;rw [if_pos (by omega)]⟩ | exact ⟨_,rfl,S1.like0,by unfold gS_;rw [if_neg (by omega)];rfl⟩
theorem rkey (x:EV) (w0:World)  :
    Calls Tryz.prog 114 #[.agg (enf x).toArray] w0 fun e w'=>∃ u,e=.returned u∧Like w0 w'∧u=.string (gS_ x):=by
 refine v_ (env:=[(0,.agg (enf x).toArray)]) [.agg (enf x).toArray] Tryz.func114 Z Tryz.ntmps114 Z Z ?_;have S0:=St.start w0 noM;have hsz:=x.h.2;have h1z:(⟨#[47]⟩:ByteArray).size=1:=rfl;refine a_ fun K1 hK1=>b_ (L_o (bO_ Z S0 Z fun b1 w1 hb1 S1=>Lan Z Z (hK1 _ _ (a_ fun K2 hK2=>a_ fun K3 hK3=>b_ (L_y (g_ 1 Tryz.underlying149 Z sz3 Z Z Z) Z (L_y (t_ Tryz.underlying3 Z Z (((S1.blk 0 Z).cell _).trans (by rfl))) Z ?_))))));refine L_y (am_ Z Z) Z (f_ (hK3 _ _ ?_));refine o_ Z (fun h5=>?_) (fun h5=>?_)
 ·
  refine a_ fun K4 hK4=>b_ (L_y (g_ 0 Tryz.underlying149 Z sz9 Z Z Z) Z (L_y (t_ Tryz.underlying9 Z Z (((S1.blk 0 Z).cell _).trans (by rfl))) Z ?_));refine L_y (fz_ Z Z (by omega)) Z (Lan Z Z (hK4 _ _ (l_ (ur (F_ Z Z ?_)))));first | exact ⟨_,rfl,S1.like0,by unfold gS_;rw [if_pos (by omega)]⟩ | exact ⟨_,rfl,S1.like0,by unfold gS_;rw [if_neg (by omega)];rfl⟩
 ·
  refine j_ (hK2 _ _ (a_ fun K5 hK5=>b_ (L_y (g_ 0 Tryz.underlying149 Z sz9 Z Z Z) Z (L_y (t_ Tryz.underlying9 Z Z (((S1.blk 0 Z).cell _).trans (by rfl))) Z ?_))));refine Lan Z Z (hK5 _ _ (l_ (ur (F_ Z Z ?_))));first | exact ⟨_,rfl,S1.like0,by unfold gS_;rw [if_pos (by omega)]⟩ | exact ⟨_,rfl,S1.like0,by unfold gS_;rw [if_neg (by omega)];rfl⟩
theorem order (x y:EV) (w0:World)  :
    Calls Tryz.prog 143 #[.agg (enf x).toArray,.agg (enf y).toArray] w0 fun e w'=>∃ u,e=.returned u∧Like w0 w'∧∃ v:Int,u=.int .i64 v∧(v < 0↔ltK x y=true):=by
 refine v_ (env:=[(0,.agg (enf x).toArray),(1,.agg (enf y).toArray)]) [.agg (enf x).toArray,.agg (enf y).toArray] Tryz.func143 Z Tryz.ntmps143 Z Z ?_;have S0:=St.start w0 noM;refine a_ fun K1 hK1=>b_ (L_o (bO_ Z S0 Z fun b1 w1 hb1 S1=>L_o (bO_ Z S1 Z fun b2 w2 hb2 S2=>Lan Z Z (hK1 _ _ (a_ fun K2 hK2=>cH_ (fun w=>Blk w b1 149 (enf x).toArray∧Blk w b2 149 (enf y).toArray) aS_ (by kernel_rfl) (fun w l=>⟨(S2.like l).blk 0 Z,(S2.like l).blk 1 Z⟩) fun w3 l3=>have S3:=S2.like l3;aj_ 0 (by kernel_rfl) Z (eZ_ fun w hw=>Y_ Tryz.underlying149 Z au_ Z (hw.1) (show _=enf x∧_ from ⟨he_ x,aG_ x⟩)) Z (aj_ 2 (by kernel_rfl) Z (eZ_ fun w hw=>Y_ Tryz.underlying149 Z au_ Z (hw.2) (show _=enf y∧_ from ⟨he_ y,aG_ y⟩)) Z (aX_ 1 (by kernel_rfl) Z (n_ Tryz.func174 Z Z (key x w3) Z Z ?_))))))));rintro e4 w4 ⟨v4,rfl,l4,rfl⟩;refine ⟨_,rfl,(have S4:=S3.like l4;⟨⟨S4.blk 0 Z,S4.blk 1 Z⟩,(aX_ 3 (by kernel_rfl) Z (n_ Tryz.func174 Z Z (key y w4) Z Z ?_))⟩)⟩;rintro e5 w5 ⟨v5,rfl,l5,rfl⟩;refine ⟨_,rfl,(have S5:=S4.like l5;⟨⟨S5.blk 0 Z,S5.blk 1 Z⟩,(aX_ 4 (by kernel_rfl) Z (n_ Tryz.func173 Z Z (compar _ _ w5) Z Z ?_))⟩)⟩;rintro e6 w6 ⟨v6,rfl,l6,v9,rfl,hv9⟩;refine ⟨_,rfl,(have S6:=S5.like l6;⟨⟨S6.blk 0 Z,S6.blk 1 Z⟩,(aj_ 5 (by kernel_rfl) Z (J_ Z) Z (cB_ (by kernel_rfl) (hK2 _ _ (l_ (ur (F_ Z Z ?_))))))⟩)⟩;exact ⟨_,rfl,S6.like0,v9,rfl,hv9⟩
end Tre
namespace Tre
open Go.RowKit Zk Zx
theorem fV_ {α:Type} {l:List α} {k:Nat} {x : α} (h:l[k]?=some x):l.drop k=x::l.drop (k+1):=by
  obtain ⟨h1,h2⟩:=List.getElem?_eq_some_iff.1 h
  rw [← h2,List.getElem_cons_drop]
theorem hd_ {α:Type} {l:List α} {k:Nat} {x : α} (h:l[k]?=some x):l.take (k+1)=l.take k++[x]:=by rw [List.take_add_one,h];rfl
def il_ (s:ByteArray):Prop:=∀ k,k < s.size→33≤g8 s.data.toList k∧g8 s.data.toList k≤126
instance (s:ByteArray):Decidable (il_ s):=inferInstanceAs (Decidable (∀ k,k < s.size→33≤g8 s.data.toList k∧g8 s.data.toList k≤126))
def aw_ (s:ByteArray):Bool:=decide (1≤s.size) && (decide (s.size≤32) && (decide (il_ s) && (decide ((47:UInt8) ∉ s.data.toList) && (decide (s≠⟨#[46]⟩) && decide (s≠⟨#[46,46]⟩)))))
theorem idx_ge:∀ (l:List UInt8) (c:UInt8),0≤Lib.indexByte l c↔c ∈ l
  | [],c=>by unfold Lib.indexByte;simp
  | b :: l,c=>by
    have ih:=idx_ge l c
    have h0:=Lib.indexByte_ge l c
    unfold Lib.indexByte
    by_cases h:b=c
    · subst h;simp
    · have hb:(b == c)=false:=by simp [h]
      rw [hb]
      simp only [Bool.false_eq_true,if_false,List.mem_cons,Ne.symm h,false_or]
      by_cases h1:Lib.indexByte l c = -1
      · rw [h1]
        simp only [beq_self_eq_true,if_true]
        rw [← ih,h1]
      · have:(Lib.indexByte l c == -1)=false:=by simp [h1]
        rw [this]
        simp only [Bool.false_eq_true,if_false]
        rw [← ih]
        omega
theorem strIdx (s:ByteArray) (w0:World):Calls Tryz.prog 154 #[.string s,.int .u8 47] w0 fun e w'=>∃ u,e=.returned u∧Like w0 w'∧u=.int .i64 (Lib.indexByte s.data.toList 47) :=
  (show Calls Tryz.prog 154 _ _ _ from Any.stringslite_IndexByte idxS s 47 w0).mono fun e w' ⟨h1,h2⟩=>by
    subst h2
    exact ⟨_,h1,Like.refl _,rfl⟩
theorem jA_:Lib.indexByte (⟨#[47]⟩:ByteArray).data.toList 47=0:=by decide+kernel
def cnSl (l:List UInt8):Nat:=l.count 47
theorem cn_step {l:List UInt8} {k:Nat} (hk:k < l.length):cnSl (l.take (k+1))=cnSl (l.take k)+if g8 l k=47 then 1 else 0:=by
  unfold cnSl
  rw [List.take_add_one,List.getElem?_eq_getElem hk,Option.toList_some,List.count_append]
  congr 1
  have e:g8 l k=((l[k]).toNat:Int):=by simp [g8,List.getD_eq_getElem?_getD,List.getElem?_eq_getElem hk]
  rw [e]
  by_cases h:l[k]=47
  · rw [h];rfl
  · rw [if_neg (fun h2=>h (UInt8.toNat_inj.1 (by show _=47;omega))),List.count_eq_zero_of_not_mem (by simp;exact fun e=>h e.symm)]
theorem cn_zero {l:List UInt8}:cnSl l=0↔(47:UInt8) ∉ l:=by unfold cnSl;exact List.count_eq_zero
theorem cn_le (l:List UInt8):cnSl l≤l.length:=List.count_le_length
theorem mode_ (m:Int) (w0:World)  :
    Calls Tryz.prog 140 #[.int .i64 m] w0 fun e w'=>∃ u,e=.returned u∧Like w0 w'∧u=.bool (decide (m=1∨m=2∨m=3)):=by
 refine v_ (env:=[(0,.int .i64 m)]) [.int .i64 m] Tryz.func140 Z Tryz.ntmps140 Z Z ?_;have S0:=St.start w0 noM;refine a_ fun K1 hK1=>b_ (Lan Z Z (hK1 _ _ (a_ fun K2 hK2=>Rm Z Z (L_y (am_ Z Z) Z (Lm Z Z ?_)))));refine y_ 5 Z (fun h5=>?_) (fun h5=>?_)
 ·
  refine h_ Z Z Z (h_ Z Z Z (Lp Z Z Z (Lm Z Z (h_ Z Z Z (h_ Z Z Z (Lp Z Z Z (Lan Z Z (hK2 _ _ (l_ (ur (F_ Z Z ?_)))))))))));exact ⟨_,rfl,S0.like0,congrArg Value.bool (by first | (rw [Bool.eq_iff_iff];simp only [decide_eq_true_eq,true_iff,false_iff,Bool.true_eq,Bool.false_eq,Bool.false_eq_true];omega) | (simp;omega))⟩
 ·
  refine d_ Z Z (Lm Z Z (d_ Z Z (L_y (am_ Z Z) Z (Lp Z Z Z (Lm Z Z ?_)))));refine y_ 9 Z (fun h9=>?_) (fun h9=>?_)
  ·
   refine h_ Z Z Z (h_ Z Z Z (Lp Z Z Z (Lan Z Z (hK2 _ _ (l_ (ur (F_ Z Z ?_)))))));exact ⟨_,rfl,S0.like0,congrArg Value.bool (by first | (rw [Bool.eq_iff_iff];simp only [decide_eq_true_eq,true_iff,false_iff,Bool.true_eq,Bool.false_eq,Bool.false_eq_true];omega) | (simp;omega))⟩
  ·
   refine d_ Z Z (Lm Z Z (d_ Z Z (L_y (am_ Z Z) Z (Lp Z Z Z (Lan Z Z (hK2 _ _ (l_ (ur (F_ Z Z ?_)))))))));exact ⟨_,rfl,S0.like0,congrArg Value.bool (by first | (rw [Bool.eq_iff_iff];simp only [decide_eq_true_eq,true_iff,false_iff,Bool.true_eq,Bool.false_eq,Bool.false_eq_true];omega) | (simp;omega))⟩
theorem plain_ (s:ByteArray) (w0:World) (hs:s.size≤1000) :
    Calls Tryz.prog 171 #[.string s] w0 fun e w'=>∃ u,e=.returned u∧Like w0 w'∧u=.bool (decide (il_ s)):=by
 refine v_ (env:=[(0,.string s)]) [.string s] Tryz.func171 Z Tryz.ntmps171 Z Z ?_;have S0:=St.start w0 noM;refine a_ fun K1 hK1=>b_ (Lan Z Z (hK1 _ _ (a_ fun K2 hK2=>a_ fun K3 hK3=>Rm Z Z (L_y (av_ Tryz.underlying9 Z) Z (Lm Z Z (f_ (hK3 _ _ (r_ ?_))))))));refine an_ [(0,_),(5,_)] (fun (k:Nat)=>[(6,.int .i64 (k:Int))]) (fun (k:Nat)=>s.size - k) (fun (k:Nat) (w:World)=>(k≤s.size∧(∀ j,j < k→33≤g8 s.data.toList j∧g8 s.data.toList j≤126))∧St w0 noM [] w) 0 (Sc Z (Sub.nil _)) (Sub.cons Z Z (Sub.cons Z Z (Sub.nil _))) ?_ ?_
 ·
  exact ⟨⟨Nat.zero_le _,fun j hj=>absurd hj (by omega)⟩,S0⟩
 ·
  intro k w1 hrel;obtain ⟨⟨hk,hse⟩,S1⟩:=hrel;refine a_ fun K4 hK4=>b_ (L_y (L_ Z Z) Z (f_ (hK4 _ _ (a_ fun K5 hK5=>?_))));refine o_ Z (fun h7=>?_) (fun h7=>?_)
  ·
   refine j_ (hK5 _ _ (a_ fun K6 hK6=>r_ (a_ fun K7 hK7=>Rm Z Z (Lan Z Z (hK7 _ _ (a_ fun K8 hK8=>Rm Z Z (Lm Z Z ?_)))))));refine L_y (bz_ Tryz.underlying9 Z Z inferInstance (by omega)) Z (L_y (L_ Z Z) Z (Lm Z Z ?_));refine y_ 13 Z (fun h13=>?_) (fun h13=>?_)
   ·
    refine h_ Z Z Z (h_ Z Z Z (h_ Z Z Z (h_ Z Z Z (Lp Z Z Z (f_ (hK8 _ _ (W_ Z (a_ fun K9 hK9=>b_ (Lan Z Z (hK9 _ _ (l_ ?_)))))))))));refine ur (F_ Z Z ?_);first | exact ⟨_,rfl,S1.like0,congrArg Value.bool (decide_eq_false (fun h=>by have:=h k (by omega);omega)).symm⟩ | exact ⟨_,rfl,S1.like0,congrArg Value.bool (decide_eq_true (fun j hj=>hse j (by omega))).symm⟩
   ·
    refine d_ Z Z (Lm Z Z (d_ Z Z (Lm Z Z (d_ Z Z (L_y (bz_ Tryz.underlying9 Z Z inferInstance (by omega)) Z (d_ Z Z (L_y (Z_ Z Z) Z (Lp Z Z Z (f_ (hK8 _ _ ?_))))))))));refine o_ Z (fun h18=>?_) (fun h18=>?_)
    ·
     refine a_ fun K10 hK10=>b_ (Lan Z Z (hK10 _ _ (l_ (ur (F_ Z Z ?_)))));first | exact ⟨_,rfl,S1.like0,congrArg Value.bool (decide_eq_false (fun h=>by have:=h k (by omega);omega)).symm⟩ | exact ⟨_,rfl,S1.like0,congrArg Value.bool (decide_eq_true (fun j hj=>hse j (by omega))).symm⟩
    ·
     refine j_ (hK6 _ _ (b_ (L_y (w_ Z Z (z_ (by omega))) Z (Lm Z Z (f_ (⟨k+1,by omega,⟨⟨by omega,fun j hj=>by rcases Nat.lt_or_ge j k with q | q;exact hse j q;(have e9:j=k:=by omega);subst e9;omega⟩,S1⟩,?_⟩))))));exact (Sc Z (Sub.cons Z Z (Sub.cons Z Z (Sub.nil _))))
  ·
   refine K_ (hK2 _ _ (a_ fun K11 hK11=>b_ (Lan Z Z (hK11 _ _ (l_ (ur (F_ Z Z ?_)))))));first | exact ⟨_,rfl,S1.like0,congrArg Value.bool (decide_eq_false (fun h=>by have:=h k (by omega);omega)).symm⟩ | exact ⟨_,rfl,S1.like0,congrArg Value.bool (decide_eq_true (fun j hj=>hse j (by omega))).symm⟩
theorem seen_ (s:ByteArray) (w0:World) (hs:s.size≤1000) :
    Calls Tryz.prog 112 #[.string s] w0 fun e w'=>∃ u,e=.returned u∧Like w0 w'∧u=.bool (decide (il_ s)):=by
 refine v_ (env:=[(0,.string s)]) [.string s] Tryz.func112 Z Tryz.ntmps112 Z Z ?_;have S0:=St.start w0 noM;refine a_ fun K1 hK1=>b_ (Lan Z Z (hK1 _ _ (a_ fun K2 hK2=>a_ fun K3 hK3=>b_ (Lan Z Z (hK3 _ _ (r_ ?_))))));refine an_ [(0,_)] (fun (k:Nat)=>[(3,.int .i64 (k:Int))]) (fun (k:Nat)=>s.size - k) (fun (k:Nat) (w:World)=>(k≤s.size∧(∀ j,j < k→33≤g8 s.data.toList j∧g8 s.data.toList j≤126))∧St w0 noM [] w) 0 (Sc Z (Sub.nil _)) (Sub.cons Z Z (Sub.nil _)) ?_ ?_
 ·
  exact ⟨⟨Nat.zero_le _,fun j hj=>absurd hj (by omega)⟩,S0⟩
 ·
  intro k w1 hrel;obtain ⟨⟨hk,hse⟩,S1⟩:=hrel;refine a_ fun K4 hK4=>a_ fun K5 hK5=>Rm Z Z (Lm Z Z (L_y (av_ Tryz.underlying9 Z) Z (L_y (L_ Z Z) Z (f_ (hK5 _ _ ?_)))));refine o_ Z (fun h7=>?_) (fun h7=>?_)
  ·
   refine j_ (hK4 _ _ (a_ fun K6 hK6=>r_ (a_ fun K7 hK7=>Rm Z Z (Lm Z Z (L_y (bz_ Tryz.underlying9 Z Z inferInstance (by omega)) Z (L_y (L_ Z Z) Z (Lm Z Z ?_)))))));refine y_ 14 Z (fun h14=>?_) (fun h14=>?_)
   ·
    refine h_ Z Z Z (h_ Z Z Z (h_ Z Z Z (h_ Z Z Z (Lp Z Z Z (f_ (hK7 _ _ (W_ Z (a_ fun K8 hK8=>b_ (Lan Z Z (hK8 _ _ (l_ ?_)))))))))));refine ur (F_ Z Z ?_);first | exact ⟨_,rfl,S1.like0,congrArg Value.bool (decide_eq_false (fun h=>by have:=h k (by omega);omega)).symm⟩ | exact ⟨_,rfl,S1.like0,congrArg Value.bool (decide_eq_true (fun j hj=>hse j (by omega))).symm⟩
   ·
    refine d_ Z Z (Lm Z Z (d_ Z Z (Lm Z Z (d_ Z Z (L_y (bz_ Tryz.underlying9 Z Z inferInstance (by omega)) Z (d_ Z Z (L_y (Z_ Z Z) Z (Lp Z Z Z (f_ (hK7 _ _ ?_))))))))));refine o_ Z (fun h19=>?_) (fun h19=>?_)
    ·
     refine a_ fun K9 hK9=>b_ (Lan Z Z (hK9 _ _ (l_ (ur (F_ Z Z ?_)))));first | exact ⟨_,rfl,S1.like0,congrArg Value.bool (decide_eq_false (fun h=>by have:=h k (by omega);omega)).symm⟩ | exact ⟨_,rfl,S1.like0,congrArg Value.bool (decide_eq_true (fun j hj=>hse j (by omega))).symm⟩
    ·
     refine j_ (hK6 _ _ (Rm Z Z (L_y (w_ Z Z (z_ (by omega))) Z (Lan Z Z (⟨k+1,by omega,⟨⟨by omega,fun j hj=>by rcases Nat.lt_or_ge j k with q | q;exact hse j q;(have e9:j=k:=by omega);subst e9;omega⟩,S1⟩,?_⟩)))));exact (Sc Z (Sub.cons Z Z (Sub.nil _)))
  ·
   refine K_ (hK2 _ _ (a_ fun K10 hK10=>b_ (Lan Z Z (hK10 _ _ (l_ (ur (F_ Z Z ?_)))))));first | exact ⟨_,rfl,S1.like0,congrArg Value.bool (decide_eq_false (fun h=>by have:=h k (by omega);omega)).symm⟩ | exact ⟨_,rfl,S1.like0,congrArg Value.bool (decide_eq_true (fun j hj=>hse j (by omega))).symm⟩
theorem sidx (s:ByteArray) (w0:World)  :
    Calls Tryz.prog 116 #[.string s,.string ⟨#[47]⟩] w0 fun e w'=>∃ u,e=.returned u∧Like w0 w'∧u=.int .i64 (Lib.indexByte s.data.toList 47):=by
 refine v_ (env:=[(0,.string s),(1,.string ⟨#[47]⟩)]) [.string s,.string ⟨#[47]⟩] Tryz.func116 Z Tryz.ntmps116 Z Z ?_;have h1z:(⟨#[47]⟩:ByteArray).size=1:=rfl;have S0:=St.start w0 noM;refine a_ fun K1 hK1=>b_ (Lan Z Z (hK1 _ _ (a_ fun K2 hK2=>Rm Z Z (L_y (av_ Tryz.underlying9 Z) Z (Lan Z Z (hK2 _ _ (a_ fun K3 hK3=>r_ ?_)))))));refine a_ fun K4 hK4=>Rm Z Z (L_y (am_ Z Z) Z (Lm Z Z ?_));refine y_ 19 Z (fun h19=>?_) (fun h19=>?_)
 ·
  omega
 ·
  refine d_ Z Z (Lm Z Z (d_ Z Z (Lm Z Z (d_ Z Z (L_y (cW_ Z Z) Z (Lp Z Z Z (Lan Z Z (hK4 _ _ ?_))))))));refine o_ Z (fun h16=>?_) (fun h16=>?_)
  ·
   refine a_ fun K5 hK5=>b_ (Lan Z Z (hK5 _ _ (l_ (ur (F_ Z Z ?_)))));subst h16;exact ⟨_,rfl,S0.like0,congrArg (Value.int _) jA_.symm⟩
  ·
   refine a_ fun K6 hK6=>Rm Z Z (L_y (am_ Z Z) Z (Lan Z Z (hK6 _ _ ?_)));refine o_ Z (fun h24=>?_) (fun h24=>?_)
   ·
    refine a_ fun K7 hK7=>Rm Z Z (Lm Z Z (L_y (bz_ Tryz.underlying9 Z Z inferInstance (by omega)) Z (L_o (n_ Tryz.func154 Z Z (strIdx s w0) Z Z ?_))));rintro e2 w2 ⟨v2,rfl,l2,rfl⟩;refine ⟨_,rfl,(have S2:=S0.like l2;Lan Z Z (hK7 _ _ (l_ (ur (F_ Z Z ?_)))))⟩;exact ⟨_,rfl,S2.like0,rfl⟩
   ·
    omega
theorem sidx2 (s:ByteArray) (w0:World)  :
    Calls Tryz.prog 190 #[.string s,.string ⟨#[47]⟩] w0 fun e w'=>∃ u,e=.returned u∧Like w0 w'∧u=.int .i64 (Lib.indexByte s.data.toList 47):=by
 refine v_ (env:=[(0,.string s),(1,.string ⟨#[47]⟩)]) [.string s,.string ⟨#[47]⟩] Tryz.func190 Z Tryz.ntmps190 Z Z ?_;have S0:=St.start w0 noM;refine a_ fun K1 hK1=>b_ (Lan Z Z (hK1 _ _ (a_ fun K2 hK2=>Rm Z Z (Lm Z Z (L_o (n_ Tryz.func116 Z Z (sidx s w0) Z Z ?_))))));rintro e1 w1 ⟨v1,rfl,l1,rfl⟩;refine ⟨_,rfl,(have S1:=S0.like l1;Lan Z Z (hK2 _ _ (l_ (ur (F_ Z Z ?_)))))⟩;exact ⟨_,rfl,S1.like0,rfl⟩
theorem contai (s:ByteArray) (w0:World)  :
    Calls Tryz.prog 172 #[.string s,.string ⟨#[47]⟩] w0 fun e w'=>∃ u,e=.returned u∧Like w0 w'∧u=.bool (decide ((47:UInt8) ∈ s.data.toList)):=by
 refine v_ (env:=[(0,.string s),(1,.string ⟨#[47]⟩)]) [.string s,.string ⟨#[47]⟩] Tryz.func172 Z Tryz.ntmps172 Z Z ?_;have S0:=St.start w0 noM;refine a_ fun K1 hK1=>b_ (Lan Z Z (hK1 _ _ (a_ fun K2 hK2=>Rm Z Z (Lm Z Z (L_o (n_ Tryz.func190 Z Z (sidx2 s w0) Z Z ?_))))));rintro e1 w1 ⟨v1,rfl,l1,rfl⟩;refine ⟨_,rfl,(have S1:=S0.like l1;L_y (cq_ Z Z) Z (Lan Z Z (hK2 _ _ (l_ (ur (F_ Z Z ?_))))))⟩;exact ⟨_,rfl,S1.like0,congrArg Value.bool (decide_eq_decide.2 (idx_ge _ _))⟩
theorem pname (s:ByteArray) (w0:World)  :
    Calls Tryz.prog 142 #[.string s] w0 fun e w'=>∃ u,e=.returned u∧Like w0 w'∧u=.bool (aw_ s):=by
 refine v_ (env:=[(0,.string s)]) [.string s] Tryz.func142 Z Tryz.ntmps142 Z Z ?_;have S0:=St.start w0 noM;refine a_ fun K1 hK1=>b_ (Lan Z Z (hK1 _ _ (a_ fun K2 hK2=>Rm Z Z (L_y (av_ Tryz.underlying9 Z) Z (L_y (Z_ Z Z) Z (Lm Z Z ?_))))));refine y_ 6 Z (fun h6=>?_) (fun h6=>?_)
 ·
  have q6:1≤s.size:=by omega
  refine d_ Z Z (Lm Z Z (d_ Z Z (L_y (av_ Tryz.underlying9 Z) Z (d_ Z Z (L_y (ie_ Z Z) Z (Lp Z Z Z (Lm Z Z ?_)))))));refine y_ 11 Z (fun h11=>?_) (fun h11=>?_)
  ·
   have q11:s.size≤32:=by omega
   refine d_ Z Z (Lm Z Z (d_ Z Z (L_o (n_ Tryz.func171 Z Z (plain_ s w0 (by omega)) Z Z ?_))));rintro e3 w3 ⟨v3,rfl,l3,rfl⟩;refine ⟨_,rfl,(have S3:=S0.like l3;Lp Z Z Z (Lm Z Z ?_))⟩;refine y_ 15 Z (fun h15=>?_) (fun h15=>?_)
   ·
    have q15:il_ s:=by first | exact of_decide_eq_true h15 | exact of_decide_eq_false h15 | simpa using h15
    refine d_ Z Z (Lm Z Z (d_ Z Z (L_o (n_ Tryz.func172 Z Z (contai s w3) Z Z ?_))));rintro e5 w5 ⟨v5,rfl,l5,rfl⟩;refine ⟨_,rfl,(have S5:=S3.like l5;d_ Z Z (L_y ((by first | exact aA_ Z | exact aZ_ Z)) Z ?_))⟩;refine Lp Z Z Z (Lm Z Z ?_);refine y_ 20 Z (fun h20=>?_) (fun h20=>?_)
    ·
     have q20:(47:UInt8) ∉ s.data.toList:=by simpa using h20
     refine d_ Z Z (Lm Z Z (d_ Z Z (L_y (hF_ Z Z) Z (Lp Z Z Z (Lm Z Z ?_)))));refine y_ 24 Z (fun h24=>?_) (fun h24=>?_)
     ·
      have q24:s≠⟨#[46]⟩:=by simpa using h24
      refine d_ Z Z (Lm Z Z (d_ Z Z (L_y (hF_ Z Z) Z (Lp Z Z Z (Lan Z Z (hK2 _ _ (l_ (ur (F_ Z Z ?_)))))))));exact ⟨_,rfl,S5.like0,congrArg Value.bool (by unfold aw_;simp [q24,q20,q15,q11,q6])⟩
     ·
      have q24:¬ s≠⟨#[46]⟩:=by simpa using h24
      refine h_ Z Z Z (h_ Z Z Z (Lp Z Z Z (Lan Z Z (hK2 _ _ (l_ (ur (F_ Z Z ?_)))))));exact ⟨_,rfl,S5.like0,congrArg Value.bool (by unfold aw_;simp [q24,q20,q15,q11,q6])⟩
    ·
     have q20:(47:UInt8) ∈ s.data.toList:=Decidable.not_not.1 h20;refine h_ Z Z Z (h_ Z Z Z (Lp Z Z Z (Lm Z Z (h_ Z Z Z (h_ Z Z Z (Lp Z Z Z (Lan Z Z (hK2 _ _ (l_ (ur (F_ Z Z ?_)))))))))));exact ⟨_,rfl,S5.like0,congrArg Value.bool (by unfold aw_;simp [q20,q15,q11,q6])⟩
   ·
    have q15:¬ il_ s:=by first | exact of_decide_eq_true h15 | exact of_decide_eq_false h15 | simpa using h15
    refine h_ Z Z Z (h_ Z Z Z (h_ Z Z Z (Lp Z Z Z (Lm Z Z (h_ Z Z Z (h_ Z Z Z (Lp Z Z Z (Lm Z Z (h_ Z Z Z (h_ Z Z Z (Lp Z Z Z (Lan Z Z ?_))))))))))));refine hK2 _ _ (l_ (ur (F_ Z Z ?_)));exact ⟨_,rfl,S3.like0,congrArg Value.bool (by unfold aw_;simp [q15,q11,q6])⟩
  ·
   have q11:¬ s.size≤32:=by omega
   refine h_ Z Z Z (h_ Z Z Z (Lp Z Z Z (Lm Z Z (h_ Z Z Z (h_ Z Z Z (h_ Z Z Z (Lp Z Z Z (Lm Z Z (h_ Z Z Z (h_ Z Z Z (Lp Z Z Z (Lm Z Z (h_ Z Z Z ?_)))))))))))));refine h_ Z Z Z (Lp Z Z Z (Lan Z Z (hK2 _ _ (l_ (ur (F_ Z Z ?_))))));exact ⟨_,rfl,S0.like0,congrArg Value.bool (by unfold aw_;simp [q11,q6])⟩
 ·
  have q6:¬ 1≤s.size:=by omega
  refine h_ Z Z Z (h_ Z Z Z (h_ Z Z Z (Lp Z Z Z (Lm Z Z (h_ Z Z Z (h_ Z Z Z (Lp Z Z Z (Lm Z Z (h_ Z Z Z (h_ Z Z Z (h_ Z Z Z (Lp Z Z Z (Lm Z Z ?_)))))))))))));refine h_ Z Z Z (h_ Z Z Z (Lp Z Z Z (Lm Z Z (h_ Z Z Z (h_ Z Z Z (Lp Z Z Z (Lan Z Z (hK2 _ _ (l_ (ur (F_ Z Z ?_)))))))))));exact ⟨_,rfl,S0.like0,congrArg Value.bool (by unfold aw_;simp [q6])⟩
theorem parts (s:ByteArray) (w0:World) (hs:s.size≤1000) :
    Calls Tryz.prog 113 #[.string s] w0 fun e w'=>∃ u,e=.returned u∧Like w0 w'∧∃ A' c',u=.slice A' (if s.size=0 then 0 else cnSl s.data.toList+1) c':=by
 refine v_ (env:=[(0,.string s)]) [.string s] Tryz.func113 Z Tryz.ntmps113 Z Z ?_;have S0:=St.start w0 noM;refine a_ fun K1 hK1=>b_ (Lan Z Z (hK1 _ _ (a_ fun K2 hK2=>b_ (have S1:=S0.nilrow 9 1;Lan Z Z (hK2 _ _ (a_ fun K3 hK3=>a_ fun K4 hK4=>b_ ?_))))));refine Lm Z Z (L_y (cW_ Z Z) Z (f_ (hK4 _ _ ?_)));refine o_ Z (fun h7=>?_) (fun h7=>?_)
 ·
  refine a_ fun K5 hK5=>Rm Z Z (Lan Z Z (hK5 _ _ (l_ (ur (F_ Z Z ?_)))));have hz:s.size=0:=by rw [h7];rfl
  exact ⟨_,rfl,S1.like0,none,0,by rw [if_pos hz]⟩
 ·
  refine j_ (hK3 _ _ (a_ fun K6 hK6=>b_ (Lan Z Z (hK6 _ _ (a_ fun K7 hK7=>a_ fun K8 hK8=>b_ (Lan Z Z (hK8 _ _ (r_ ?_))))))));refine iL_ [(0,_)] (fun (k:Nat) (nw:ByteArray) (A1:Option Addr) (c1:Nat) (xs:List Value)=>[(3,.slice A1 (cnSl (s.data.toList.take k)) c1),(4,.string nw),(5,.int .i64 (k:Int))]) (fun (k:Nat) (nw:ByteArray) (A1:Option Addr) (c1:Nat) (xs:List Value)=>s.size - k) (fun (k:Nat) (nw:ByteArray) (A1:Option Addr) (c1:Nat) (xs:List Value) (w:World)=>(k≤s.size∧nw.size≤k)∧St w0 noM [row 9 1 A1 (cnSl (s.data.toList.take k)) c1 xs] w) 0 ⟨#[]⟩ none 0 [] (Sc Z (Sc Z (Sc Z (Sub.nil _)))) (Sub.cons Z Z (Sub.nil _)) ?_ ?_
  ·
   exact ⟨⟨Nat.zero_le _,Nat.le_refl _⟩,S1⟩
  ·
   intro k nw A1 c1 xs w2 hrel;obtain ⟨⟨hk,hnw⟩,S2⟩:=hrel;have hcl:=cn_le (s.data.toList.take k);rw [List.length_take,aB_] at hcl;have hex:(s.extract k (k+1)).size≤1:=by rw [ByteArray.size_extract];omega
   refine a_ fun K9 hK9=>a_ fun K10 hK10=>Rm Z Z (Lm Z Z (L_y (av_ Tryz.underlying9 Z) Z (L_y (L_ Z Z) Z (f_ (hK10 _ _ ?_)))));refine o_ Z (fun h12=>?_) (fun h12=>?_)
   ·
    refine j_ (hK9 _ _ (a_ fun K11 hK11=>r_ (a_ fun K12 hK12=>Rm Z Z (Lm Z Z (L_y (bz_ Tryz.underlying9 Z Z inferInstance (by omega)) Z (L_y (am_ Z Z) Z (f_ (hK12 _ _ ?_))))))));refine o_ Z (fun h18=>?_) (fun h18=>?_)
    ·
     refine a_ fun K13 hK13=>Rm Z Z (Lm Z Z (L_o (ah_ [_] te90 zz9 S2 Z Z Z Z Z Z Z Z fun b3 w3 S3=>L_o (ay_ te90 S3 0 Z Z Z (by first | exact S3.row 0 Z | exact S3.row 1 Z) (by first | exact R_ _ | exact bu_ _ | (intro u hu;simp at hu;subst hu;rfl) | (simp;done) | (simp [Value.oneCell'];done)) Z (by omega) (by omega) fun A4 c4 w4 S4=>?_))));have S4d:=S4.drop (rs':=[_]) (.cons_cons _ (.cons _ (.refl _)));refine Lan Z Z (hK13 _ _ (b_ (Lan Z Z (hK11 _ _ (Rm Z Z (L_y (w_ Z Z (z_ (by omega))) Z (Lan Z Z ?_)))))));have hcs:=cn_step (l:=s.data.toList) (k:=k) (by rw [aB_];omega);rw [if_pos (by omega)] at hcs;refine ⟨k+1,⟨#[]⟩,A4,c4,_,by omega,⟨⟨by omega,by show 0≤_;omega⟩,by rw [hcs];exact S4d⟩,?_⟩;exact (Sub.cons Z (by first | (rw [hcs];rfl) | (rw [hcs,Nat.add_zero])) (Sc Z (Sc Z (Sub.cons Z Z (Sub.nil _)))))
    ·
     refine Rm Z Z (Lm Z Z (Lm Z Z (Lm Z Z (L_y (w_ Z Z (z_ (by omega))) Z (L_y (iO_ Tryz.underlying9 Z Z Z inferInstance inferInstance (by omega) (by omega)) Z (L_y (fz_ Z Z (by omega)) Z (Lan Z Z (hK11 _ _ (Rm Z Z (L_y (w_ Z Z (z_ (by omega))) Z ?_))))))))));refine Lan Z Z ?_;have hcs:=cn_step (l:=s.data.toList) (k:=k) (by rw [aB_];omega);rw [if_neg (by omega)] at hcs;refine ⟨k+1,nw++s.extract k (k+1),A1,c1,xs,by omega,⟨⟨by omega,by rw [ByteArray.size_append];omega⟩,by rw [hcs];exact S2⟩,?_⟩;exact (Sub.cons Z (by first | (rw [hcs];rfl) | (rw [hcs,Nat.add_zero])) (Sc Z (Sc Z (Sub.cons Z Z (Sub.nil _)))))
   ·
    refine K_ (hK7 _ _ (a_ fun K14 hK14=>Rm Z Z (Lm Z Z (L_o (ah_ [_] te90 zz9 S2 Z Z Z Z Z Z Z Z fun b5 w5 S5=>L_o (ay_ te90 S5 0 Z Z Z (by first | exact S5.row 0 Z | exact S5.row 1 Z) (by first | exact R_ _ | exact bu_ _ | (intro u hu;simp at hu;subst hu;rfl) | (simp;done) | (simp [Value.oneCell'];done)) Z (by omega) (by omega) fun A6 c6 w6 S6=>?_))))));have S6d:=S6.drop (rs':=[_]) (.cons_cons _ (.cons _ (.refl _)));refine Lan Z Z (hK14 _ _ (l_ (ur (F_ Z Z ?_))));have hz:¬ s.size=0:=fun e=>h7 (by apply ByteArray.ext;exact Array.eq_empty_of_size_eq_zero e);have hkn:k=s.size:=by omega
    rw [List.take_of_length_le (by rw [aB_];omega)] at *;exact ⟨_,rfl,S6d.like0,_,_,by rw [if_neg hz]⟩
end Tre
namespace Tre
open Go.RowKit Zk Zx
def cD_ (m:Int):Prop:=m=1∨m=2∨m=3
instance (m:Int):Decidable (cD_ m):=inferInstanceAs (Decidable (m=1∨m=2∨m=3))
def fr_:List EV→Int
  | []=>0
  | e::l=>if ¬ cD_ e.md then 16 else if aw_ e.nm=false then 15 else fr_ l
def risK:List EV→Bool
  | x::y::l=>ltK x y && risK (y::l)
  | _=>true
def once (l:List EV):Prop:=(l.map EV.nm).Nodup
instance (l:List EV):Decidable (once l):=inferInstanceAs (Decidable (l.map EV.nm).Nodup)
def cE_ (l:List EV):Int:=if 64 < l.length then 3 else if fr_ l≠0 then fr_ l else if ¬ once l then 17 else if risK l=false then 18 else 0
theorem fq_ {l:List EV}:∀ (k:Nat),(∀ j e,j < k→l[j]?=some e→cD_ e.md∧aw_ e.nm=true)→k≤l.length→fr_ l=fr_ (l.drop k):=by
  induction l with
  | nil=>intro k _ hk;simp at hk;rw [hk];rfl
  | cons e l ih =>
    intro k h hk
    match k with
    | 0=>rfl
    | k+1 =>
      obtain ⟨h1,h2⟩:=h 0 e (by omega) Z
      conv=>lhs;unfold fr_
      rw [if_neg (fun x=>x h1),if_neg (by rw [h2];exact fun x=>by cases x),List.drop_succ_cons]
      exact ih k (fun j e' hj he=>h (j+1) e' (by omega) he) (by simpa using hk)
theorem lm_ {l:List EV} {k:Nat} {e:EV} (he:l[k]?=some e) (h:¬ cD_ e.md):fr_ (l.drop k)=16:=by
  rw [fV_ he]
  unfold fr_
  rw [if_pos h]
theorem chk1_nm {l:List EV} {k:Nat} {e:EV} (he:l[k]?=some e) (h:cD_ e.md) (h2:aw_ e.nm=false):fr_ (l.drop k)=15:=by
  rw [fV_ he]
  unfold fr_
  rw [if_neg (fun x=>x h),if_pos h2]
theorem ix_:∀ (l:List EV) (k:Nat),(∀ j x y,j+1 < k→l[j]?=some x→l[j+1]?=some y→ltK x y=true)→k≤l.length→risK l=risK (l.drop (k - 1))
  | l,0,_,_=>rfl
  | l,1,_,_=>rfl
  | [],k+2,_,h=>by simp at h
  | [x],k+2,_,h=>by simp at h
  | x::y::l,k+2,h,hk=>by
    have h0:=h 0 x y (by omega) Z Z
    have ih:=ix_ (y::l) (k+1) (fun j a b hj ha hb=>h (j+1) a b (by omega) ha hb) (by simpa using hk)
    show (ltK x y && risK (y::l))=_
    rw [h0,Bool.true_and,ih]
    rfl
theorem risK_no {l:List EV} {k:Nat} {x y:EV} (hx:l[k]?=some x) (hy:l[k+1]?=some y) (h:ltK x y=false):risK (l.drop k)=false:=by
  rw [fV_ hx,fV_ hy]
  show (ltK x y && _)=false
  rw [h]
  rfl
theorem risK_end {l:List EV} {k:Nat} (h:l.length≤k+1):risK (l.drop k)=true:=by
  have:(l.drop k).length≤1:=by rw [List.length_drop];omega
  match hd:l.drop k with
  | []=>rfl
  | [x]=>rfl
  | x::y::m=>rw [hd] at this;simp at this
theorem kg_ {l:List EV} {k:Nat} {e:EV} (he:l[k]?=some e) (h:once (l.take k)) (h2:e.nm ∉ (l.take k).map EV.nm):once (l.take (k+1)):=by
  unfold once at *
  rw [hd_ he,List.map_append,List.nodup_append]
  refine ⟨h,by simp,fun a ha b hb=>?_⟩
  rw [List.map_singleton,List.mem_singleton] at hb
  subst hb
  exact fun e2=>h2 (by rw [← e2];exact ha)
theorem kj_ {l:List EV} {k:Nat} {e:EV} (he:l[k]?=some e) (h2:e.nm ∈ (l.take k).map EV.nm):¬ once (l.take (k+1)):=fun h3=>by
  unfold once at h3
  rw [hd_ he,List.map_append,List.nodup_append] at h3
  exact h3.2.2 _ h2 _ (by simp) Z
theorem once_sub {l:List EV} (k:Nat) (h:once l):once (l.take k):=by
  unfold once at *
  exact h.sublist ((List.take_sublist _ _).map _)
theorem once_down {l:List EV} {k:Nat} (h:once (l.take (k+1))):once (l.take k):=by
  have:=once_sub k h
  rwa [List.take_take,Nat.min_eq_left (by omega)] at this
theorem not_once {l:List EV} {k:Nat} {e:EV} (he:l[k]?=some e) (h2:e.nm ∈ (l.take k).map EV.nm):¬ once l:=fun h=>kj_ he h2 (once_sub (k+1) h)
theorem rname (s:ByteArray) (w0:World)  :
    Calls Tryz.prog 76 #[.string s] w0 fun e w'=>∃ u,e=.returned u∧Like w0 w'∧u=.bool (aw_ s):=by
 refine v_ (env:=[(0,.string s)]) [.string s] Tryz.func76 Z Tryz.ntmps76 Z Z ?_;have S0:=St.start w0 noM;refine a_ fun K1 hK1=>b_ (Lan Z Z (hK1 _ _ (a_ fun K2 hK2=>Rm Z Z (L_y (av_ Tryz.underlying9 Z) Z (L_y (cq_ Z Z) Z (Lm Z Z ?_))))));refine y_ 6 Z (fun h6=>?_) (fun h6=>?_)
 ·
  have q6:1≤s.size:=by omega
  refine d_ Z Z (Lm Z Z (d_ Z Z (L_y (av_ Tryz.underlying9 Z) Z (d_ Z Z (L_y (ie_ Z Z) Z (Lp Z Z Z (Lm Z Z ?_)))))));refine y_ 11 Z (fun h11=>?_) (fun h11=>?_)
  ·
   have q11:s.size≤32:=by omega
   refine d_ Z Z (Lm Z Z (d_ Z Z (L_o (n_ Tryz.func112 Z Z (seen_ s w0 (by omega)) Z Z ?_))));rintro e3 w3 ⟨v3,rfl,l3,rfl⟩;refine ⟨_,rfl,(have S3:=S0.like l3;Lp Z Z Z (Lm Z Z ?_))⟩;refine y_ 15 Z (fun h15=>?_) (fun h15=>?_)
   ·
    have q15:il_ s:=by first | exact of_decide_eq_true h15 | exact of_decide_eq_false h15 | simpa using h15
    refine d_ Z Z (Lm Z Z (d_ Z Z (L_o (n_ Tryz.func113 Z Z (parts s w3 (by omega)) Z Z ?_))));rintro e5 w5 ⟨v5,rfl,l5,A17,c17,rfl⟩;refine ⟨_,rfl,(have S5:=S3.like l5;d_ Z Z (L_y (I_ Tryz.underlying90 Z) Z (d_ Z Z (L_y (am_ Z Z) Z (Lp Z Z Z (Lm Z Z ?_))))))⟩;refine y_ 21 Z (fun h21=>?_) (fun h21=>?_)
    ·
     have q21:(47:UInt8) ∉ s.data.toList:=cn_zero.1 (by rw [if_neg (by omega)] at h21;omega);refine d_ Z Z (Lm Z Z (d_ Z Z (L_y (hF_ Z Z) Z (Lp Z Z Z (Lm Z Z ?_)))));refine y_ 25 Z (fun h25=>?_) (fun h25=>?_)
     ·
      have q25:s≠⟨#[46]⟩:=by simpa using h25
      refine d_ Z Z (Lm Z Z (d_ Z Z (L_y (hF_ Z Z) Z (Lp Z Z Z (Lan Z Z (hK2 _ _ (l_ (ur (F_ Z Z ?_)))))))));exact ⟨_,rfl,S5.like0,congrArg Value.bool (by unfold aw_;simp [q25,q21,q15,q11,q6])⟩
     ·
      have q25:¬ s≠⟨#[46]⟩:=by simpa using h25
      refine h_ Z Z Z (h_ Z Z Z (Lp Z Z Z (Lan Z Z (hK2 _ _ (l_ (ur (F_ Z Z ?_)))))));exact ⟨_,rfl,S5.like0,congrArg Value.bool (by unfold aw_;simp [q25,q21,q15,q11,q6])⟩
    ·
     have q21:(47:UInt8) ∈ s.data.toList:=Decidable.not_not.1 fun e=>by rw [if_neg (by omega),cn_zero.2 e] at h21;exact h21 Z
     refine h_ Z Z Z (h_ Z Z Z (Lp Z Z Z (Lm Z Z (h_ Z Z Z (h_ Z Z Z (Lp Z Z Z (Lan Z Z (hK2 _ _ (l_ (ur (F_ Z Z ?_)))))))))));exact ⟨_,rfl,S5.like0,congrArg Value.bool (by unfold aw_;simp [q21,q15,q11,q6])⟩
   ·
    have q15:¬ il_ s:=by first | exact of_decide_eq_true h15 | exact of_decide_eq_false h15 | simpa using h15
    refine h_ Z Z Z (h_ Z Z Z (h_ Z Z Z (h_ Z Z Z (Lp Z Z Z (Lm Z Z (h_ Z Z Z (h_ Z Z Z (Lp Z Z Z (Lm Z Z (h_ Z Z Z (h_ Z Z Z (Lp Z Z Z (La Z Z ?_)))))))))))));refine f_ (hK2 _ _ (l_ (ur (F_ Z Z ?_))));exact ⟨_,rfl,S3.like0,congrArg Value.bool (by unfold aw_;simp [q15,q11,q6])⟩
  ·
   have q11:¬ s.size≤32:=by omega
   refine h_ Z Z Z (h_ Z Z Z (Lp Z Z Z (Lm Z Z (h_ Z Z Z (h_ Z Z Z (h_ Z Z Z (h_ Z Z Z (Lp Z Z Z (Lm Z Z (h_ Z Z Z (h_ Z Z Z (Lp Z Z Z (Lm Z Z ?_)))))))))))));refine h_ Z Z Z (h_ Z Z Z (Lp Z Z Z (Lan Z Z (hK2 _ _ (l_ (ur (F_ Z Z ?_)))))));exact ⟨_,rfl,S0.like0,congrArg Value.bool (by unfold aw_;simp [q11,q6])⟩
 ·
  have q6:¬ 1≤s.size:=by omega
  refine h_ Z Z Z (h_ Z Z Z (h_ Z Z Z (Lp Z Z Z (Lm Z Z (h_ Z Z Z (h_ Z Z Z (Lp Z Z Z (Lm Z Z (h_ Z Z Z (h_ Z Z Z (h_ Z Z Z (h_ Z Z Z (Lp Z Z Z ?_)))))))))))));refine Lm Z Z (h_ Z Z Z (h_ Z Z Z (Lp Z Z Z (Lm Z Z (h_ Z Z Z (h_ Z Z Z (Lp Z Z Z (Lan Z Z (hK2 _ _ (l_ (ur (F_ Z Z ?_))))))))))));exact ⟨_,rfl,S0.like0,congrArg Value.bool (by unfold aw_;simp [q6])⟩
end Tre
namespace Oid
open Go.RowKit Zk
theorem dn_:(Tryz.prog.info? 41).map (·.size)=some 32:=by kernel_rfl
theorem fd_:(Tryz.prog.info? 268).map (·.size)=some 33:=by kernel_rfl
def hexD (n:Nat):UInt8:=if n < 10 then UInt8.ofNat (48+n) else UInt8.ofNat (87+n)
def hexL (z:List UInt8):List UInt8:=z.flatMap fun c=>[hexD (c.toNat / 16),hexD (c.toNat % 16)]
def cb_ (c:Int):Int:=if 48≤c∧c≤57 then c - 48 else if 97≤c∧c≤102 then c - 97+10 else -1
theorem jV_ (c:Int):cb_ c≤15 ∧ -1≤cb_ c:=by
  unfold cb_
  split
  · omega
  · split <;> omega
def isD (c:UInt8):Bool:=decide (0≤cb_ (c.toNat:Int))
def dN (c:UInt8):Nat:=(cb_ (c.toNat:Int)).toNat
theorem dN_lt (c:UInt8):dN c < 16:=by have:=jV_ (c.toNat:Int);unfold dN;omega
theorem iT_ (c:UInt8) (h:isD c=true):cb_ (c.toNat:Int)=(dN c:Int):=by
  have:0≤cb_ (c.toNat:Int):=by simpa [isD] using h
  unfold dN;omega
theorem iS_ (c:UInt8) (h:isD c=false):cb_ (c.toNat:Int) = -1:=by
  have:¬ 0≤cb_ (c.toNat:Int):=by simpa [isD] using h
  have:=jV_ (c.toNat:Int)
  omega
def dg (s:List UInt8) (i:Nat):Nat:=(s[i]?.map dN).getD 0
theorem dg_lt (s:List UInt8) (i:Nat):dg s i < 16:=by
  unfold dg
  cases s[i]? with
  | none=>simp
  | some c=>simpa using dN_lt c
def el_ (s:List UInt8):List UInt8:=(List.range 32).map fun j=>UInt8.ofNat (16*dg s (2*j)+dg s (2*j+1))
@[simp] theorem length_idOf (s:List UInt8):(el_ s).length=32:=by simp [el_]
def z32:List UInt8:=List.replicate 32 0
def pfA (z:List UInt8) (n:Int):Array Value:=(bL z++[Value.int .i64 n]).toArray
theorem hg_ (z:List UInt8) (n:Int) (h:z.length=32):(pfA z n).size=33:=by simp [pfA,h]
def okS (s:List UInt8):Bool:=s.all isD
def bQ_ (s:List UInt8):List UInt8 × Int × Int:=if 64 < s.length then (z32,0,3) else if okS s then (el_ s,s.length,0) else (z32,0,14)
theorem toNat_ofNat (n:Nat) (h:n < 256):(UInt8.ofNat n).toNat=n:=by
  simp [UInt8.toNat_ofNat']
  omega
theorem dZ_ (s:List UInt8) (j:Nat) (h:j < 32):(el_ s)[j]?=some (UInt8.ofNat (16*dg s (2*j)+dg s (2*j+1))):=by
  simp [el_,h]
theorem cM_ (s:List UInt8) (k i:Nat) (h:i < k):dg (s.take k) i=dg s i:=by
  unfold dg;rw [List.getElem?_take,if_pos h]
theorem bB_ (s:List UInt8) (k i:Nat) (h:k≤i):dg (s.take k) i=0:=by
  unfold dg;rw [List.getElem?_take,if_neg (by omega)];rfl
theorem dg_at (s:List UInt8) (k:Nat) (c:UInt8) (h:s[k]?=some c):dg s k=dN c:=by simp [dg,h]
theorem kn_ (s:List UInt8) (k:Nat) (c:UInt8) (h:s[k]?=some c) (hp:k % 2=0) :
    (el_ s |>.length)=32∧el_ (s.take (k+1))=(el_ (s.take k)).set (k / 2) (UInt8.ofNat (16*dN c))∧(k < 64→(el_ (s.take k))[k / 2]?=some 0):=by
  refine ⟨by simp,?_,fun hk=>?_⟩
  · apply List.ext_getElem?
    intro j
    rw [List.getElem?_set]
    by_cases hj:j < 32
    · rw [dZ_ _ j hj,dZ_ _ j hj]
      by_cases e:k / 2=j
      · have e1:2*j=k:=by omega
        rw [if_pos e,if_pos (by simp;omega),e1,cM_ _ _ _ (by omega),bB_ _ _ _ (by omega),dg_at s k c h]
        simp
      · rw [if_neg e]
        by_cases hlt:2*j < k
        · rw [cM_ _ _ _ (by omega),cM_ _ _ _ (by omega),cM_ _ _ _ (by omega),cM_ _ _ _ (by omega)]
        · rw [bB_ _ _ _ (by omega),bB_ _ _ _ (by omega),bB_ _ _ _ (by omega),bB_ _ _ _ (by omega)]
    · rw [List.getElem?_eq_none (by simp;omega),List.getElem?_eq_none (by simp;omega)]
      split
      · rw [if_neg (by simp;omega)]
      · rfl
  · rw [dZ_ _ _ (by omega),bB_ _ _ _ (by omega),bB_ _ _ _ (by omega)]
    rfl
theorem idOf_odd (s:List UInt8) (k:Nat) (c:UInt8) (h:s[k]?=some c) (hp:k % 2=1) :
    el_ (s.take (k+1))=(el_ (s.take k)).set (k / 2) (UInt8.ofNat (16*dg s (k - 1)+dN c))∧(k < 64→(el_ (s.take k))[k / 2]?=some (UInt8.ofNat (16*dg s (k - 1)))):=by
  refine ⟨?_,fun hk=>?_⟩
  · apply List.ext_getElem?
    intro j
    rw [List.getElem?_set]
    by_cases hj:j < 32
    · rw [dZ_ _ j hj,dZ_ _ j hj]
      by_cases e:k / 2=j
      · have e1:2*j=k - 1:=by omega
        have e2:2*j+1=k:=by omega
        rw [if_pos e,if_pos (by simp;omega),e2,e1,cM_ _ _ _ (by omega),cM_ _ _ _ (by omega),dg_at s k c h]
      · rw [if_neg e]
        by_cases hlt:2*j < k
        · rw [cM_ _ _ _ (by omega),cM_ _ _ _ (by omega),cM_ _ _ _ (by omega),cM_ _ _ _ (by omega)]
        · rw [bB_ _ _ _ (by omega),bB_ _ _ _ (by omega),bB_ _ _ _ (by omega),bB_ _ _ _ (by omega)]
    · rw [List.getElem?_eq_none (by simp;omega),List.getElem?_eq_none (by simp;omega)]
      split
      · rw [if_neg (by simp;omega)]
      · rfl
  · rw [dZ_ _ _ (by omega),cM_ _ _ _ (by omega),bB_ _ _ _ (by omega)]
    have e1:2*(k / 2)=k - 1:=by omega
    rw [e1]
    rfl
theorem okS_snoc (s:List UInt8) (k:Nat) (c:UInt8) (h:s[k]?=some c):okS (s.take (k+1))=(okS (s.take k) && isD c):=by
  rw [List.take_add_one,h]
  simp [okS]
theorem okS_not (s:List UInt8) (k:Nat) (c:UInt8) (h:s[k]?=some c) (hc:isD c=false):okS s=false:=by
  simp only [okS,List.all_eq_false]
  exact ⟨c,List.mem_of_getElem? h,by simp [hc]⟩
theorem hH_ (c:Int) (w:World) (h0:0≤c) (h1:c≤255) :
    Calls Tryz.prog 200 #[.int .u8 c] w fun e w'=>e=.returned (.int .i64 (cb_ c))∧w=w':=by
  by_cases a:48≤c
  · by_cases b:c≤57
    · go_enter Tryz.func200,Tryz.ntmps200
      go_wp2
      go_ret
      exact ⟨aF_ (by unfold cb_;split <;> first | rfl | omega | (split <;> first | rfl | omega)),rfl⟩
    · have b':57 < c:=by omega
      by_cases d:97≤c
      · by_cases f:c≤102
        · go_enter Tryz.func200,Tryz.ntmps200
          go_wp2
          go_ret
          exact ⟨aF_ (by unfold cb_;split <;> first | rfl | omega | (split <;> first | rfl | omega)),rfl⟩
        · go_enter Tryz.func200,Tryz.ntmps200
          go_wp2
          go_ret
          exact ⟨aF_ (by unfold cb_;split <;> first | rfl | omega | (split <;> first | rfl | omega)),rfl⟩
      · go_enter Tryz.func200,Tryz.ntmps200
        go_wp2
        go_ret
        exact ⟨aF_ (by unfold cb_;split <;> first | rfl | omega | (split <;> first | rfl | omega)),rfl⟩
  · have d:¬ 97≤c:=by omega
    go_enter Tryz.func200,Tryz.ntmps200
    go_wp2
    go_ret
    exact ⟨aF_ (by unfold cb_;split <;> first | rfl | omega | (split <;> first | rfl | omega)),rfl⟩
end Oid
end Go.Proofs.YtgaklngnfecdaaaGreat
