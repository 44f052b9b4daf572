/- Part Z07 of the proof. -/
import Derived.Test.YtdjfjpeoddmamaaGreatDoorZ06
import Derived.Below
set_option linter.all false
namespace Go.Abs
open Go.RowKit
structure MapTab where
 T:Nat
 kd:IntKind
 mi:Nat
 tm:Nat
 tab:List (Nat×Int×Nat×Nat)
 cp:List (Nat×Nat)
def isMapOp(o:Oper):Bool:=match o.op with| .makeMap .. =>true| .insert .. =>true|_=>false
def clsB(ops:Array Oper)(m:MapTab)(j:Nat)(o:Oper):Bool:=
 cond (Nat.beq j m.mi) (match o.op,o.dst,o.guard with| .makeMap T none,some d,none=>Nat.beq T m.T && Nat.beq d m.tm|_,_,_=>false)
 (match m.tab.find? fun q=>Nat.beq q.1 j with
 |some q=>(match o.op,o.dst,o.guard with| .insert T (.tmp t) (.const (.int kd k)) (.tmp s),none,none=>Nat.beq T m.T && Nat.beq t m.tm && decide (kd=m.kd) && decide (k=q.2.1) && Nat.beq s q.2.2.1 && ancOf ops m.mi j && ancOf ops q.2.2.2 j|_,_,_=>false)
 |none=>match m.cp.find? fun c=>Nat.beq c.1 j with
  |some c=>(match o.op,o.dst,o.guard with| .move (.tmp s),some d,none=>Nat.beq d c.2 && ancOf ops m.mi j && (Nat.beq s m.tm||m.cp.any fun e=>Nat.beq e.2 s && ancOf ops e.1 j)| .assign (.tmp s),some d,none=>Nat.beq d c.2 && ancOf ops m.mi j && (Nat.beq s m.tm||m.cp.any fun e=>Nat.beq e.2 s && ancOf ops e.1 j)|_,_,_=>false)
  |none=>!isMapOp o && (match o.dst with|none=>true|some d=>!Nat.beq d m.tm && (m.cp.all fun c=>!Nat.beq c.2 d) && m.tab.all fun q=>!Nat.beq q.2.2.1 d||Nat.beq q.2.2.2 j))
def chkB(ops:Array Oper)(m:MapTab):Bool:=
 (ops.toList.zipIdx.all fun p=>clsB ops m p.2 p.1) && (m.tab.all fun q=>!Nat.beq q.2.2.1 m.tm && m.cp.all fun c=>!Nat.beq c.2 q.2.2.1) && (m.cp.all fun c=>!Nat.beq c.2 m.tm) && decide ((m.cp.map (·.2)).Nodup) && decide ((m.tab.map (·.2.1)).Nodup) && decide ((m.tab.map (·.1)).Nodup)
def insT(m:MapTab)(j:Nat):Option (Int×Nat):=(m.tab.find? fun q=>Nat.beq q.1 j).map fun q=>(q.2.1,q.2.2.1)
structure XM (m:MapTab)(M00:Nat→Prop)(w00:Base)(σ:List Nat)(M0:Nat→Prop)(w0:Base)(a:Act)(w:World):Prop where
 kept:w00.Kept w
 m00:∀b,M00 b→w00.K b∧b≠GT
 pin:w0.pin=w00.pin
 dep:∀q∈m.tab,q.1∈σ→m.mi∈σ∧q.2.2.2∈σ
 dep2:∀c∈m.cp,c.1∈σ→m.mi∈σ
 no:m.mi∉σ→(∀b,M0 b↔M00 b)∧(∀b,w0.K b↔w00.K b)
 yes:m.mi∈σ→∃r ens ck,a.tmps.getD m.tm undef= .map (some r)∧w.heap[r]?=some (.map ens ck)∧w00.w.heap.size≤r∧(∀b,M0 b↔M00 b∨b=r)∧(∀b,w0.K b↔w00.K b∨b=r)∧
  (ens.toList.map fun e=>(e.key,e.val))=(σ.filterMap (insT m)).map (fun q=>(Value.int m.kd q.1,a.tmps.getD q.2 undef))∧∀c∈m.cp,c.1∈σ→a.tmps.getD c.2 undef= .map (some r)
theorem kM_{a:Act}{d t:Nat}{y:Value}(h:t≠d):(a.put (some d) y).tmps.getD t undef=a.tmps.getD t undef:=by
 simp only[Act.put,Array.getD_eq_getD_getElem?,Array.getElem?_setIfInBounds]
 rw[if_neg (Ne.symm h)]
theorem oz_{a:Act}{d:Nat}{y:Value}(h:d< a.tmps.size):(a.put (some d) y).tmps.getD d undef=y:=by
 simp[Act.put,Array.getD_eq_getD_getElem?,Array.getElem?_setIfInBounds,h]
theorem nbeqF{a b:Nat}(h:(!Nat.beq a b)=true):a≠b:=nbeq h
theorem nbeqT{a b:Nat}(h:Nat.beq a b=true):a=b:=Nat.eq_of_beq_eq_true h
section
variable {P:Program}{ops:Array Oper}{m:MapTab}{j:Nat}{o:Oper}
theorem chk_tab(h:chkB ops m=true){q:Nat×Int×Nat×Nat}(hq:q∈m.tab):q.2.2.1≠m.tm∧∀c∈m.cp,c.2≠q.2.2.1:=by
 unfold chkB at h
 simp only[Bool.and_eq_true,List.all_eq_true] at h
 have:=h.1.1.1.1.2 q hq
 exact⟨nbeqF this.1,fun c hc=>nbeqF (this.2 c hc)⟩
theorem chk_cp(h:chkB ops m=true){c:Nat×Nat}(hc:c∈m.cp):c.2≠m.tm:=by
 unfold chkB at h
 simp only[Bool.and_eq_true,List.all_eq_true] at h
 exact nbeqF (h.1.1.1.2 c hc)
theorem iv_{α γ:Type}{f:α→γ}:∀{l:List α},(l.map f).Nodup→∀{x y:α},x∈l→y∈l→f x=f y→x=y
 |[],_,_,_,hx,_,_=>by cases hx
 |a::l,h,x,y,hx,hy,e=>by
  rw[List.map_cons,List.nodup_cons] at h
  rcases List.mem_cons.1 hx with h1|h1 <;> rcases List.mem_cons.1 hy with h2|h2
  rw[h1,h2]
  rw[h1] at e;exact absurd (e▸List.mem_map_of_mem (f:=f) h2) h.1
  rw[h2] at e;exact absurd (e▸List.mem_map_of_mem (f:=f) h1) h.1
  exact iv_ h.2 h1 h2 e
theorem chk_nd(h:chkB ops m=true):(m.cp.map (·.2)).Nodup∧(m.tab.map (·.2.1)).Nodup∧(m.tab.map (·.1)).Nodup:=by
 unfold chkB at h
 simp only[Bool.and_eq_true,decide_eq_true_eq] at h
 exact⟨h.1.1.2,h.1.2,h.2⟩
theorem ru_{j:Nat}{q:Int×Nat}(h:insT m j=some q):∃x∈m.tab,x.1=j∧q=(x.2.1,x.2.2.1):=by
 obtain⟨x,h1,rfl⟩:=Option.map_eq_some_iff.1 h
 exact⟨x,List.mem_of_find?_eq_some h1,nbeqT (by simpa using List.find?_some h1),rfl⟩
theorem ml_{j:Nat}(h:∀x∈m.tab,x.1≠j):insT m j=none:=by
 unfold insT
 rw[List.find?_eq_none.2 fun x hx hb=>h x hx (nbeqT (by simpa using hb))];rfl
end
section
variable {P:Program}{ops:Array Oper}{m:MapTab}{j n nx:Nat}{o:Oper}{M00 M0:Nat→Prop}{w00 w0:Base}{σ:List Nat}{β β':Nat→Option (Nat×Nat)}{hp hp':Nat→Option ABlk}{a:Act}{w w':World}{u:Upd}{y:Value}
theorem gs_{i:Nat}(h:i∈σ++[j])(hne:i≠j):i∈σ:=by
 rcases List.mem_append.1 h with h|h
 exact h
 exact absurd (List.mem_singleton.1 h) hne
theorem XM.make(hc:chkB ops m=true)(ho:ops[m.mi]?=some o)(hop:o.op= .makeMap m.T none)(hdst:o.dst=some m.tm)(hn:m.tm< a.tmps.size)(hj:m.mi∉σ)(hti:∀q∈m.tab,q.1≠m.mi)(htc:∀c∈m.cp,c.1≠m.mi)(hX:XM m M00 w00 σ M0 w0 a w)(mem:Mem M0 w0 β hp w):
    ∃y w' M0' w0',((execOp a.eval o).run P w= .ok (.value y) w')∧Mem M0' w0' β hp w'∧w0'.gh=w0.gh∧RV (MM M0' β hp) β w' .any y∧StabC (MM M0 β hp) (MM M0' β hp) β β w w'∧(∀ds,DefOK ds w0 w→DefOK ds w0' w')∧
     XM m M00 w00 (σ++[m.mi]) M0' w0' (a.put o.dst y) w':=by
 obtain⟨n1,n2⟩:=hX.no hj
 obtain⟨w',hw'⟩:∃w',w'=w.alloc (.map #[] 0):=⟨_,rfl⟩
 have hold:∀b,b< w.heap.size→w'.heap[b]?=w.heap[b]?:=fun b hb=>by rw[hw'];exact Below.heap_alloc _ _ _ hb
 have hnew:w'.heap[w.heap.size]?=some (.map #[] 0):=by rw[hw'];exact heap_alloc_new' _ _
 have hsz:w'.heap.size=w.heap.size+1:=by rw[hw'];simp
 have hK:∀b,w0.K b→b< w.heap.size:=fun b hb=>Nat.lt_of_lt_of_le (w0.lt b hb) mem.below.size
 let M0':Nat→Prop:=fun b=>M0 b∨b=w.heap.size
 let w0':Base:=⟨w',fun b=>w0.K b∨b=w.heap.size,fun b hb=>by rcases hb with hb|rfl;have:=hK b hb;omega;omega,w0.pin,w0.gh,.inl w0.kt,mem.tab.congr (hold GT mem.tab.lt)⟩
 have st:StabC (MM M0 β hp) (MM M0' β hp) β β w w':=by
  refine⟨fun b N hb _=>hold b (bC_ hb),fun b N hb hm=>?_,fun _ _ h=>h,fun b N hb=>(cd_ (hold b (bC_ hb))).trans hb⟩
  rcases hm with(hm|rfl)|hm
  exact .inl hm
  have:=bC_ hb;omega
  exact .inr hm
 refine⟨.map (some w.heap.size),w',M0',w0',?_,⟨⟨rfl,rfl,rfl,Nat.le_refl _,fun _ _=>rfl,fun _ _ h=>h⟩,fun b hb=>⟨hb.imp (fun h=>(mem.m0 b h).1) id,fun e=>by
  rcases hb with hb|hb
  exact(mem.m0 b hb).2 e
  have:=mem.tab.lt;omega⟩,fun i b s hi=>⟨fun hk=>?_,?_⟩,mem.pin,fun i B hi=>?_,mem.inj⟩,rfl,trivial,st,fun ds hds=>?_,?_⟩
 rw[hw'];simp[execOp,hop,Instr.makeMap]
 rcases hk with hk|rfl
 exact(mem.rng i b s hi).1 hk
 have:=(mem.rng i _ s hi).2;omega
 have:=(mem.rng i b s hi).2;omega
 obtain⟨b,e1,e2⟩:=mem.blk i B hi
 exact⟨b,e1,e2.stab st (hold b (mem.rng i b _ e1).2)⟩
 obtain⟨Ds,d1,d2,d3⟩:=hds
 refine⟨Ds,d1,d2,fun D hD=>?_⟩
 obtain⟨e1,e2⟩:=d3 D hD
 have hlt:=(Array.getElem?_eq_some_iff.1 e1).1
 refine⟨by rw[hold D hlt];exact e1,fun hk=>?_⟩
 rcases hk with hk|rfl
 exact e2 hk
 omega
 have hni:∀q∈m.tab,q.1∉σ++[m.mi]:=fun q hq hi=>hj (hX.dep q hq (gs_ hi (hti q hq))).1
 refine⟨⟨by rw[hw'];exact hX.kept.os,by rw[hw'];exact hX.kept.tape,by rw[hw'];exact hX.kept.output,by have:=hX.kept.size;omega,fun b hb=>(hold b (hK b ((n2 b).2 hb))).trans (hX.kept.block b hb),fun b k hb=>st.sz b k (hX.kept.sizes b k hb)⟩,hX.m00,hX.pin,fun q hq hi=>absurd hi (hni q hq),fun c hcp hi=>List.mem_append_left _ (hX.dep2 c hcp (gs_ hi (htc c hcp))),fun hn=>absurd (by simp) hn,fun _=>?_⟩
 refine⟨w.heap.size, #[],0,?_,hnew,hX.kept.size,fun b=>or_congr (n1 b) Iff.rfl,fun b=>or_congr (n2 b) Iff.rfl,?_,fun c hcp hi=>absurd (hX.dep2 c hcp (gs_ hi (htc c hcp))) hj⟩
 rw[hdst];exact oz_ hn
 have:(σ++[m.mi]).filterMap (insT m)=[]:=by
  rw[List.filterMap_eq_nil_iff]
  intro i hi
  exact ml_ fun x hx e=>hni x hx (e▸hi)
 rw[this];rfl
theorem XM.copy (hc:chkB ops m=true) {d s:Nat} (hcp:(j,d)∈m.cp) (hop:o.op= .move (.tmp s)∨o.op= .assign (.tmp s)) (hdst:o.dst=some d) (hn:d< a.tmps.size) (hj:j∉σ) (hmi:m.mi∈σ) (hs:s=m.tm∨∃c∈m.cp,c.2=s∧c.1∈σ) (hmq:j≠m.mi) (hti:∀q∈m.tab,q.1≠j) (hcd:(m.cp.map (·.1)).Nodup)
    (hX:XM m M00 w00 σ M0 w0 a w):∃y,((execOp a.eval o).run P w= .ok (.value y) w)∧XM m M00 w00 (σ++[j]) M0 w0 (a.put o.dst y) w:=by
 obtain⟨r,ens,ck,k1,k2,k3,k4,k5,k6,k7⟩:=hX.yes hmi
 have hval:a.eval (.tmp s)= .map (some r):=by
  rcases hs with rfl|⟨c,h1,rfl,h3⟩
  exact k1
  exact k7 c h1 h3
 refine⟨.map (some r),?_,hX.kept,hX.m00,hX.pin,fun q hq hi=>?_,fun c hcc hi=>List.mem_append_left _ hmi,fun hn=>absurd (List.mem_append_left _ hmi) hn,fun _=>?_⟩
 rcases hop with hop|hop <;> simp[execOp,hop,hval]
 obtain⟨x1,x2⟩:=hX.dep q hq (gs_ hi (hti q hq))
 exact⟨List.mem_append_left _ x1,List.mem_append_left _ x2⟩
 refine⟨r,ens,ck,?_,k2,k3,k4,k5,?_,fun c hcc hi=>?_⟩
 rw[hdst,kM_ (Ne.symm (chk_cp hc hcp))];exact k1
 rw[List.filterMap_append,show [j].filterMap (insT m)=[] by simp[ml_ hti],List.append_nil,k6]
 refine List.map_congr_left fun q hq=>?_
 obtain⟨i,hi,hq'⟩:=List.mem_filterMap.1 hq
 obtain⟨x,hx1,hx2,rfl⟩:=ru_ hq'
 rw[hdst,kM_ (Ne.symm ((chk_tab hc hx1).2 (j,d) hcp))]
 by_cases hcj:c=(j,d)
 subst hcj;rw[hdst];exact oz_ hn
 have h1:c.1≠j:=fun e=>hcj (iv_ hcd hcc hcp e)
 have h2:c.2≠d:=fun e=>hcj (iv_ (chk_nd hc).1 hcc hcp e)
 rw[hdst,kM_ h2];exact k7 c hcc (gs_ hi h1)
end
def RunX(P:Program)(ops:Array Oper)(sp:Nat→Bool)(nx:Nat):Nat→List Oper→AState→List (Upd×List Nat)→AState→Prop
 |_,[],st,us,st'=>us=[]∧st'=st
 |j,o::rest,st,us,st'=> ∃u rd us',us=(u,rd)::us'∧(sp j=true→u=⟨.any,[]⟩∧rd=[])∧(sp j=false→AStep P ops (nx+j) (look st.fr) (lookB st.hp) o u rd)∧(∀d,o.dst=some d→d< st.n)∧RunX P ops sp nx (j+1) rest (st.step o.dst u) us' st'
def AX(P:Program)(ops:Array Oper)(sp:Nat→Bool)(nx n j:Nat)(rest:List Oper)(fr:Fr)(hp:Hp)(K:Fps→Fr→Hp→Prop):Prop:=
 ∃us st',RunX P ops sp nx j rest ⟨fr,hp,nx,n⟩ us st'∧K (us.map fp) st'.fr st'.hp
section
variable {P:Program}{ops:Array Oper}{spf:Nat→Bool}{nx n j:Nat}{rest:List Oper}{fr:Fr}{hp:Hp}{K:Fps→Fr→Hp→Prop}
variable {d:Nat}{op:Op}{ty:Nat}{pos:String}{after:Array Edge}{a:AV}{p q:Nat×Option ABlk}{rd:List Nat}
theorem AX.nil(h:K [] fr hp):AX P ops spf nx n j [] fr hp K:=⟨[],_,⟨rfl,rfl⟩,h⟩
theorem AX.cons {dst:Option Nat} {guard:Option (Nat×Bool)} {u:Upd} {rd:List Nat}
    (hs1:spf j=true→u=⟨.any,[]⟩∧rd=[]) (hs2:spf j=false→AStep P ops (nx+j) (look fr) (lookB hp) ⟨dst,op,ty,pos,after,guard⟩ u rd) (hd:(match dst with|some d=>Nat.blt d n|none=>true)=true)
    (h:AX P ops spf nx n (j+1) rest (putL fr dst u.val) (u.blk.reverse++hp) fun fps f h=>K ((u.blk.map (·.1),rd)::fps) f h):AX P ops spf nx n j (⟨dst,op,ty,pos,after,guard⟩::rest) fr hp K:=by
 obtain⟨us,st',h1,h2⟩:=h
 refine⟨(u,rd)::us,st',⟨u,rd,us,rfl,hs1,hs2,fun d hd'=>?_,h1⟩,h2⟩
 simp only at hd'
 subst hd'
 exact Nat.le_of_ble_eq_true hd
theorem AX.op0 (hs:AEval P (nx+j) (evF (look fr)) (lookB hp) op ⟨a,[]⟩ rd) (hnd:bp_ op=true) (hd:Nat.blt d n=true)
    (h:AX P ops spf nx n (j+1) rest ((d,a)::fr) hp fun fps f h=>K (([],rd)::fps) f h) (hsp:spf j=false:=by rfl):AX P ops spf nx n j (⟨some d,op,ty,pos,after,none⟩::rest) fr hp K:=
 AX.cons (fun e=>by rw[hsp] at e;cases e) (fun _=>⟨a9_ hnd,hs⟩) hd h
theorem AX.op1 (hs:AEval P (nx+j) (evF (look fr)) (lookB hp) op ⟨a,[p]⟩ rd) (hnd:bp_ op=true) (hd:Nat.blt d n=true)
    (h:AX P ops spf nx n (j+1) rest ((d,a)::fr) (p::hp) fun fps f h=>K (([p.1],rd)::fps) f h) (hsp:spf j=false:=by rfl):AX P ops spf nx n j (⟨some d,op,ty,pos,after,none⟩::rest) fr hp K:=
 AX.cons (fun e=>by rw[hsp] at e;cases e) (fun _=>⟨a9_ hnd,hs⟩) hd h
theorem AX.sp(hd:Nat.blt d n=true)(hsp:spf j=true)(h:AX P ops spf nx n (j+1) rest ((d,.any)::fr) hp fun fps f h=>K (([],[])::fps) f h):AX P ops spf nx n j (⟨some d,op,ty,pos,after,none⟩::rest) fr hp K:=
 AX.cons (u:=⟨.any,[]⟩) (rd:=[]) (fun _=>⟨rfl,rfl⟩) (fun e=>by rw[hsp] at e;cases e) hd h
end
def CvS(fr:Fr)(hp:Hp):List (Nat×Int×Nat×Nat)→List AV→Prop
 |[],vs=>vs=[]
 |q::l,vs=> ∃x v vs',vs=v::vs'∧look fr q.2.2.1=some x∧Cv (Ren.id 0) (lookB hp) (fun _=>none) x v∧CvS fr hp l vs'
theorem CvS.nil{fr:Fr}{hp:Hp}:CvS fr hp [] []:=rfl
theorem CvS.cons{fr:Fr}{hp:Hp}{q:Nat×Int×Nat×Nat}{l:List (Nat×Int×Nat×Nat)}{x v:AV}{vs:List AV}(h1:look fr q.2.2.1=some x)(h2:Cv (Ren.id 0) (lookB hp) (fun _=>none) x v)(h3:CvS fr hp l vs):CvS fr hp (q::l) (v::vs):=⟨x,v,vs,rfl,h1,h2,h3⟩
section
variable {P:Program}{ops:Array Oper}{m:MapTab}{j:Nat}{o:Oper}
end
def idAt2(fr:Fr)(t:Nat):Nat:=cond (Nat.blt t 100000) (idAt fr t) (t- 100000)
def rnm2(fr:Fr)(l:List (Nat×Nat))(n:Nat):Ren:=⟨n,fun i=>match look l i with|some t=>idAt2 fr t|none=>i⟩
theorem SEnt.to2 {fr fr':Fr} {hp hp':Hp} {nx nx' n:Nat} (l:List (Nat×Nat)) (hk:Nat.blt 0 nx'=true) (h0:(rnm2 fr l nx').s 0=0) (hinj:injL (rnm2 fr l nx') (hp'.map (·.1))=true) (hS:ShrL (rnm2 fr l nx') (lookB hp) hp')
    (hF:Shr (rnm2 fr l nx') (lookB hp) (lookB hp')→CvF (rnm2 fr l nx') (lookB hp) (lookB hp') fr fr')
    (hH:Shr (rnm2 fr l nx') (lookB hp) (lookB hp')→CvH (rnm2 fr l nx') (lookB hp) (lookB hp') hp'):SEnt ⟨fr,hp,nx,n⟩ ⟨fr',hp',nx',n⟩:=
 SEnt.intro (st:=⟨fr,hp,nx,n⟩) (st':=⟨fr',hp',nx',n⟩) (rnm2 fr l nx') rfl (Nat.le_of_ble_eq_true hk) h0 hinj rfl (hF hS.shr) (hH hS.shr)
theorem SEntT.to2 {fr fr':Fr} {hp hp':Hp} {nx nx' n:Nat} (l:List (Nat×Nat)) (hk:Nat.blt 0 nx'=true) (h0:(rnm2 fr l nx').s 0=0) (hinj:injL (rnm2 fr l nx') (hp'.map (·.1))=true) (hS:ShrL (rnm2 fr l nx') (lookB hp) hp')
    (hF:Shr (rnm2 fr l nx') (lookB hp) (lookB hp')→CvF (rnm2 fr l nx') (lookB hp) (lookB hp') fr fr')
    (hH:Shr (rnm2 fr l nx') (lookB hp) (lookB hp')→CvH (rnm2 fr l nx') (lookB hp) (lookB hp') hp'):SEntT ⟨fr,hp,nx,n⟩ ⟨fr',hp',nx',n⟩:=
 SEntT.intro (st:=⟨fr,hp,nx,n⟩) (st':=⟨fr',hp',nx',n⟩) (rnm2 fr l nx') rfl (Nat.le_of_ble_eq_true hk) h0 hinj rfl (hF hS.shr) (hH hS.shr)
section
variable {r:Ren}{hp hp':Nat→Option ABlk}{i i' j j':Nat}{s:List UInt8}
theorem CvLL.bld(hi:Nat.blt i' r.n=true)(hs:r.s i'=i)(hl:(hp' i').isSome=true)(hj:Nat.blt j' r.n=true)(hs2:r.s j'=j)(hl2:(hp' j').isSome=true):CvLL r hp hp' [bldC i j (some s)] [bldC i' j' (some s)]:=
 ae_ (af_ (Cv.ptr hi hs hl) (af_ (Cv.sl hj hs2 hl2) ap_))
theorem CvLL.bld0(h:Shr r hp hp'):CvLL r hp hp' [bldC i j none] [bldC i' j' none]:=
 ae_ (af_ (an_ h (ad_ _)) (af_ (an_ h bQ_) ap_))
end
end Go.Abs
namespace Go.Abs
theorem au_c{p:Prop}(h:p:=by first|exact an_ hs (ad_ _)|exact Cv.ptr rfl rfl rfl|exact Cv.sl rfl rfl rfl|exact Cv.slN rfl rfl rfl|exact an_ hs bQ_|(refine an_ hs ?_;first|assumption|exact bJ_ _|exact aT_ _|exact ad_ _|exact bQ_|exact as_ _|exact bo_ _|exact gZ_ _|exact aZ_ _|exact ay_ _|exact eJ_ _|exact ca_ _ _|exact aW_ ab_ ab_|exact bz_ _|exact cx_ _|exact fy_ _|exact fv_ _|exact hq_ _ _|exact fT_ _ _|exact na_|exact a0_ _|exact aF_ _|(refine aW_ ab_ ?_;first|assumption|exact aa_ (bz_ _) ab_|exact aa_ (cx_ _) ab_|exact aa_ (fT_ _ _) ab_))|(refine Cv.boxp hs rfl (aQ_ rfl) rfl ?_;first|exact a1_ _|exact hp_ _ _|exact bW_ _|exact bs_ _|(refine aa_ ?_ ab_;first|assumption|exact bJ_ _|exact aT_ _|exact ad_ _|exact bQ_|exact as_ _|exact bo_ _|exact gZ_ _|exact aZ_ _|exact ay_ _|exact eJ_ _|exact ca_ _ _|exact aW_ ab_ ab_|exact bz_ _|exact cx_ _|exact fy_ _|exact fv_ _|exact hq_ _ _|exact fT_ _ _|exact na_|exact a0_ _|exact aF_ _|(refine aW_ ab_ ?_;first|assumption|exact aa_ (bz_ _) ab_|exact aa_ (cx_ _) ab_|exact aa_ (fT_ _ _) ab_)))|(refine Cv.loE hs ?_ (ad_ _);first|rfl|(simp[i64,u64,u32,bln];done)|(simp[i64,u64,u32,bln]<;> omega))|(refine Cv.slE rfl rfl rfl ?_ ?_ ?_ <;> first|rfl|omega|(congr 1;omega)|(simp;done)|(simp <;> omega))|exact Cv.emp _):p:=h
theorem au_e{p:Prop}(h:p:=by(first|(first|exact CvLL.bld rfl rfl rfl rfl rfl rfl|exact CvLL.bld0 hs|exact aO_ hs (nb_ _)|exact aO_ hs (a4_ _)|(refine aH_ hs ?_ (a4_ _);first|(simp[eu_,fs_,dF_];done)|(simp[dE,u32,ofV];done))|exact aO_ hs (aJ_ _)|exact aO_ hs (bY_ _)|(refine aH_ hs ?_ (bY_ _);first|(simp[hD_,fm_,dD_];done)|(simp[iE,i64,ofV];done))|(refine aH_ hs ?_ (aJ_ _);first|(simp[ir_,l8_];done)|(simp[pE,ofV];done))|(refine ae_ ?_;repeat' (first|exact ap_|exact CvL.clo hs (a1_ _)|refine af_ ?_ ?_))))<;> exact au_c):p:=h
theorem au_r{p:Prop}(h:p:=by repeat' (first|exact ShrL.nil|refine ShrL.cons rfl rfl rfl rfl (by first|rfl|(simp;done)|(simp <;> omega)) ?_)):p:=h
theorem au_f{p:Prop}(h:p:=by repeat' (first|exact aK_|refine aE_ rfl ?_ ?_|exact au_c)):p:=h
theorem au_h{p:Prop}(h:p:=by repeat' (first|exact aq_|refine al_ rfl rfl rfl rfl ?_ ?_|exact au_e)):p:=h
section
variable {P:Program}{ops:Array Oper}{nx n j:Nat}{rest:List Oper}{fr:Fr}{hp:Hp}{K:Fps→Fr→Hp→Prop}
variable {d:Nat}{op:Op}{ty:Nat}{pos:String}{after:Array Edge}{a:AV}{p q s:Nat×Option ABlk}{rd:List Nat}
theorem o_0(hs:AEval P (nx+j) (evF (look fr)) (lookB hp) op ⟨a,[]⟩ rd)(h:AR P ops nx n (j+1) rest ((d,a)::fr) hp fun fps f h=>K (([],rd)::fps) f h)(hnd:bp_ op=true:=by exact rfl)(hd:Nat.blt d n=true:=by exact rfl):AR P ops nx n j (⟨some d,op,ty,pos,after,none⟩::rest) fr hp K:=aM_ hs hnd hd h
theorem o_1(hs:AEval P (nx+j) (evF (look fr)) (lookB hp) op ⟨a,[p]⟩ rd)(h:AR P ops nx n (j+1) rest ((d,a)::fr) (p::hp) fun fps f h=>K (([p.1],rd)::fps) f h)(hnd:bp_ op=true:=by exact rfl)(hd:Nat.blt d n=true:=by exact rfl):AR P ops nx n j (⟨some d,op,ty,pos,after,none⟩::rest) fr hp K:=AR.op1 hs hnd hd h
theorem o_2(hs:AEval P (nx+j) (evF (look fr)) (lookB hp) op ⟨a,[p,q]⟩ rd)(h:AR P ops nx n (j+1) rest ((d,a)::fr) (q::p::hp) fun fps f h=>K (([p.1,q.1],rd)::fps) f h)(hnd:bp_ op=true:=by exact rfl)(hd:Nat.blt d n=true:=by exact rfl):AR P ops nx n j (⟨some d,op,ty,pos,after,none⟩::rest) fr hp K:=AR.op2 hs hnd hd h
theorem o_3(hs:AEval P (nx+j) (evF (look fr)) (lookB hp) op ⟨a,[p,q,s]⟩ rd)(h:AR P ops nx n (j+1) rest ((d,a)::fr) (s::q::p::hp) fun fps f h=>K (([p.1,q.1,s.1],rd)::fps) f h)(hnd:bp_ op=true:=by exact rfl)(hd:Nat.blt d n=true:=by exact rfl):AR P ops nx n j (⟨some d,op,ty,pos,after,none⟩::rest) fr hp K:=AR.op3 hs hnd hd h
theorem o_1n(hs:AEval P (nx+j) (evF (look fr)) (lookB hp) op ⟨a,[p]⟩ rd)(h:AR P ops nx n (j+1) rest fr (p::hp) fun fps f h=>K (([p.1],rd)::fps) f h)(hnd:bp_ op=true:=by exact rfl):AR P ops nx n j (⟨none,op,ty,pos,after,none⟩::rest) fr hp K:=AR.op1n hs hnd h
theorem s_r{ρ:Option Nat}{Q:Exit→AState→Prop}{id:Nat}{y:Code}(m:Nat)(h:AR P ops nx n 0 ops.toList fr hp fun _ f h=>thenA (AWp ρ P y Q) Q .normal ⟨f,h,nx+m,n⟩)(hsz:ops.size=m:=by exact rfl):AWp ρ P (.seq (.region id ops false) y) Q ⟨fr,hp,nx,n⟩:=ac_ (sZ_ hsz h)
end
theorem s_e {fr fr':Fr} {hp hp':Hp} {nx nx' n:Nat} (l:List (Nat×Nat)) (hS:ShrL (rnm fr l nx') (lookB hp) hp':=by exact au_r)
    (hF:Shr (rnm fr l nx') (lookB hp) (lookB hp')→CvF (rnm fr l nx') (lookB hp) (lookB hp') fr fr':=by exact fun hs=>au_f)
    (hH:Shr (rnm fr l nx') (lookB hp) (lookB hp')→CvH (rnm fr l nx') (lookB hp) (lookB hp') hp':=by exact fun hs=>au_h)
    (hk:Nat.blt 0 nx'=true:=by exact rfl) (h0:(rnm fr l nx').s 0=0:=by exact rfl) (hinj:injL (rnm fr l nx') (hp'.map (·.1))=true:=by exact rfl):SEnt ⟨fr,hp,nx,n⟩ ⟨fr',hp',nx',n⟩:=
 at_ l hk h0 hinj hS hF hH
class TZ (P:Program) (t:Nat) (v:outParam (List Value)):Prop where h:dW_ P t=some v
class TS (P:Program) (t:Nat) (v:outParam Nat):Prop where h:szOf P t=some v
class TG (P:Program) (t:Nat) (v:outParam Bool):Prop where h:em_ P t=some v
class TB (P:Program) (t:Nat) (v:outParam Nat):Prop where h:byOf P t=some v
class TE (P:Program) (t:Nat) (v:outParam (Nat×Nat)):Prop where h:elOf P t=some v
class TU (P:Program) (t:Nat) (v:outParam TypeDesc):Prop where h:P.underlying t=some v
class TP (P:Program) (t:Nat) (v:outParam (List (Nat×Nat))):Prop where h:kN_ P t=some v
class TF (P:Program) (t i:Nat) (v:outParam (Nat×Nat)):Prop where h:fldOf P t i=some v
class TA (P:Program) (t i:Nat) (v:outParam Bool):Prop where h:iY_ P t i=some v
structure Hid (q:Prop):Prop where h:q
section
variable {P:Program}{ops:Array Oper}{nx n j:Nat}{rest:List Oper}{fr:Fr}{hp:Hp}{K:Fps→Fr→Hp→Prop}{dst:Option Nat}{ty:Nat}{pos:String}{after:Array Edge}
theorem k_load{T:Nat}{x:Operand}(h:AR P ops nx n j (⟨dst,.load T x,ty,pos,after,none⟩::rest) fr hp K):AR P ops nx n j (⟨dst,.load T x,ty,pos,after,none⟩::rest) fr hp K:=h
theorem nH_{T f:Nat}{x:Operand}(h:AR P ops nx n j (⟨dst,.fieldAddr T x f,ty,pos,after,none⟩::rest) fr hp K):AR P ops nx n j (⟨dst,.fieldAddr T x f,ty,pos,after,none⟩::rest) fr hp K:=h
theorem k_bin{b:BinOp}{T yt:Nat}{x y:Operand}(h:AR P ops nx n j (⟨dst,.binOp b T x y yt,ty,pos,after,none⟩::rest) fr hp K):AR P ops nx n j (⟨dst,.binOp b T x y yt,ty,pos,after,none⟩::rest) fr hp K:=h
theorem k_call{c:Call}(h:AR P ops nx n j (⟨dst,.call c,ty,pos,after,none⟩::rest) fr hp K):AR P ops nx n j (⟨dst,.call c,ty,pos,after,none⟩::rest) fr hp K:=h
theorem k_move{x:Operand}(h:AR P ops nx n j (⟨dst,.move x,ty,pos,after,none⟩::rest) fr hp K):AR P ops nx n j (⟨dst,.move x,ty,pos,after,none⟩::rest) fr hp K:=h
theorem k_index{T:Nat}{x y:Operand}(h:AR P ops nx n j (⟨dst,.indexAddr T x y,ty,pos,after,none⟩::rest) fr hp K):AR P ops nx n j (⟨dst,.indexAddr T x y,ty,pos,after,none⟩::rest) fr hp K:=h
theorem k_assign{x:Operand}(h:AR P ops nx n j (⟨dst,.assign x,ty,pos,after,none⟩::rest) fr hp K):AR P ops nx n j (⟨dst,.assign x,ty,pos,after,none⟩::rest) fr hp K:=h
theorem k_store{T:Nat}{x y:Operand}(h:AR P ops nx n j (⟨dst,.store T x y,ty,pos,after,none⟩::rest) fr hp K):AR P ops nx n j (⟨dst,.store T x y,ty,pos,after,none⟩::rest) fr hp K:=h
theorem ro_{x:Operand}{i:Nat}(h:AR P ops nx n j (⟨dst,.extract x i,ty,pos,after,none⟩::rest) fr hp K):AR P ops nx n j (⟨dst,.extract x i,ty,pos,after,none⟩::rest) fr hp K:=h
theorem k_box{T:Nat}{x:Operand}(h:AR P ops nx n j (⟨dst,.box T x,ty,pos,after,none⟩::rest) fr hp K):AR P ops nx n j (⟨dst,.box T x,ty,pos,after,none⟩::rest) fr hp K:=h
theorem k_alloc{T:Nat}(h:AR P ops nx n j (⟨dst,.alloc T,ty,pos,after,none⟩::rest) fr hp K):AR P ops nx n j (⟨dst,.alloc T,ty,pos,after,none⟩::rest) fr hp K:=h
theorem k_conv{S D:Nat}{x:Operand}(h:AR P ops nx n j (⟨dst,.convert S D x,ty,pos,after,none⟩::rest) fr hp K):AR P ops nx n j (⟨dst,.convert S D x,ty,pos,after,none⟩::rest) fr hp K:=h
theorem k_field{T f:Nat}{x:Operand}(h:AR P ops nx n j (⟨dst,.field T x f,ty,pos,after,none⟩::rest) fr hp K):AR P ops nx n j (⟨dst,.field T x f,ty,pos,after,none⟩::rest) fr hp K:=h
theorem k_nilc{x:Operand}(h:AR P ops nx n j (⟨dst,.nilCheck x,ty,pos,after,none⟩::rest) fr hp K):AR P ops nx n j (⟨dst,.nilCheck x,ty,pos,after,none⟩::rest) fr hp K:=h
theorem k_pick{x y z:Operand}(h:AR P ops nx n j (⟨dst,.pick x y z,ty,pos,after,none⟩::rest) fr hp K):AR P ops nx n j (⟨dst,.pick x y z,ty,pos,after,none⟩::rest) fr hp K:=h
theorem k_un{b:UnOp}{T:Nat}{x:Operand}(h:AR P ops nx n j (⟨dst,.unOp b T x,ty,pos,after,none⟩::rest) fr hp K):AR P ops nx n j (⟨dst,.unOp b T x,ty,pos,after,none⟩::rest) fr hp K:=h
theorem k_build{T:Nat}{ps:Array (Nat×Operand)}(h:AR P ops nx n j (⟨dst,.build T ps,ty,pos,after,none⟩::rest) fr hp K):AR P ops nx n j (⟨dst,.build T ps,ty,pos,after,none⟩::rest) fr hp K:=h
theorem k_eql{T yt:Nat}{x y:Operand}(h:AR P ops nx n j (⟨dst,.binOp .eql T x y yt,ty,pos,after,none⟩::rest) fr hp K):AR P ops nx n j (⟨dst,.binOp .eql T x y yt,ty,pos,after,none⟩::rest) fr hp K:=h
theorem k_neq{T yt:Nat}{x y:Operand}(h:AR P ops nx n j (⟨dst,.binOp .neq T x y yt,ty,pos,after,none⟩::rest) fr hp K):AR P ops nx n j (⟨dst,.binOp .neq T x y yt,ty,pos,after,none⟩::rest) fr hp K:=h
theorem k_lss{T yt:Nat}{x y:Operand}(h:AR P ops nx n j (⟨dst,.binOp .lss T x y yt,ty,pos,after,none⟩::rest) fr hp K):AR P ops nx n j (⟨dst,.binOp .lss T x y yt,ty,pos,after,none⟩::rest) fr hp K:=h
theorem k_leq{T yt:Nat}{x y:Operand}(h:AR P ops nx n j (⟨dst,.binOp .leq T x y yt,ty,pos,after,none⟩::rest) fr hp K):AR P ops nx n j (⟨dst,.binOp .leq T x y yt,ty,pos,after,none⟩::rest) fr hp K:=h
theorem k_gtr{T yt:Nat}{x y:Operand}(h:AR P ops nx n j (⟨dst,.binOp .gtr T x y yt,ty,pos,after,none⟩::rest) fr hp K):AR P ops nx n j (⟨dst,.binOp .gtr T x y yt,ty,pos,after,none⟩::rest) fr hp K:=h
theorem k_geq{T yt:Nat}{x y:Operand}(h:AR P ops nx n j (⟨dst,.binOp .geq T x y yt,ty,pos,after,none⟩::rest) fr hp K):AR P ops nx n j (⟨dst,.binOp .geq T x y yt,ty,pos,after,none⟩::rest) fr hp K:=h
theorem k_add{T yt:Nat}{x y:Operand}(h:AR P ops nx n j (⟨dst,.binOp .add T x y yt,ty,pos,after,none⟩::rest) fr hp K):AR P ops nx n j (⟨dst,.binOp .add T x y yt,ty,pos,after,none⟩::rest) fr hp K:=h
theorem k_sub{T yt:Nat}{x y:Operand}(h:AR P ops nx n j (⟨dst,.binOp .sub T x y yt,ty,pos,after,none⟩::rest) fr hp K):AR P ops nx n j (⟨dst,.binOp .sub T x y yt,ty,pos,after,none⟩::rest) fr hp K:=h
theorem k_mul{T yt:Nat}{x y:Operand}(h:AR P ops nx n j (⟨dst,.binOp .mul T x y yt,ty,pos,after,none⟩::rest) fr hp K):AR P ops nx n j (⟨dst,.binOp .mul T x y yt,ty,pos,after,none⟩::rest) fr hp K:=h
theorem k_quo{T yt:Nat}{x y:Operand}(h:AR P ops nx n j (⟨dst,.binOp .quo T x y yt,ty,pos,after,none⟩::rest) fr hp K):AR P ops nx n j (⟨dst,.binOp .quo T x y yt,ty,pos,after,none⟩::rest) fr hp K:=h
theorem k_rem{T yt:Nat}{x y:Operand}(h:AR P ops nx n j (⟨dst,.binOp .rem T x y yt,ty,pos,after,none⟩::rest) fr hp K):AR P ops nx n j (⟨dst,.binOp .rem T x y yt,ty,pos,after,none⟩::rest) fr hp K:=h
theorem k_len{aa:Array Operand}{tt:Array Nat}(h:AR P ops nx n j (⟨dst,.call ⟨.builtin .len,aa,tt⟩,ty,pos,after,none⟩::rest) fr hp K):AR P ops nx n j (⟨dst,.call ⟨.builtin .len,aa,tt⟩,ty,pos,after,none⟩::rest) fr hp K:=h
theorem k_append{aa:Array Operand}{tt:Array Nat}(h:AR P ops nx n j (⟨dst,.call ⟨.builtin .append,aa,tt⟩,ty,pos,after,none⟩::rest) fr hp K):AR P ops nx n j (⟨dst,.call ⟨.builtin .append,aa,tt⟩,ty,pos,after,none⟩::rest) fr hp K:=h
end
section
variable {P:Program}{ops:Array Oper}{nx n j:Nat}{rest:List Oper}{fr:Fr}{hp:Hp}{K:Fps→Fr→Hp→Prop}{dst:Option Nat}{op:Op}{ty:Nat}{pos:String}{after:Array Edge}{g t d:Nat}{want b:Bool}
theorem g_y(ht:(ops[g]?).bind (·.dst)=some t)(hx:evF (look fr) (.tmp t)=some (.v (.bool want)))(h:AR P ops nx n j (⟨dst,op,ty,pos,after,none⟩::rest) fr hp K):AR P ops nx n j (⟨dst,op,ty,pos,after,some (g,want)⟩::rest) fr hp K:=by
 obtain⟨us,st',⟨u,rd,us',he,⟨h1,h2⟩,hd,hr⟩,hk⟩:=h
 exact⟨us,st',⟨u,rd,us',he,⟨h1,t,.bool want,ht,hx,.inl ⟨rfl,h2⟩⟩,hd,hr⟩,hk⟩
theorem g_n(ht:(ops[g]?).bind (·.dst)=some t)(hx:evF (look fr) (.tmp t)=some (.v (.bool b)))(hb:(b==want)=false)(hnd:bp_ op=true)(hd:Nat.blt d n=true)(h:AR P ops nx n (j+1) rest ((d,.v undef)::fr) hp fun fps f h=>K (([],[])::fps) f h):AR P ops nx n j (⟨some d,op,ty,pos,after,some (g,want)⟩::rest) fr hp K:=
 f7_ ht hx (gn (by cases b <;> cases want <;> first|rfl|exact absurd hb (by decide))) hnd hd h
theorem g_nn(ht:(ops[g]?).bind (·.dst)=some t)(hx:evF (look fr) (.tmp t)=some (.v (.bool b)))(hb:(b==want)=false)(hnd:bp_ op=true)(h:AR P ops nx n (j+1) rest fr hp fun fps f h=>K (([],[])::fps) f h):AR P ops nx n j (⟨none,op,ty,pos,after,some (g,want)⟩::rest) fr hp K:=
 AR.opNn ht hx (gn (by cases b <;> cases want <;> first|rfl|exact absurd hb (by decide))) hnd h
theorem vT{P:Program}{p:Bool}{f:Sem Value}(h:∀w,f.run P w= .ok (.bool p) w)(e:p=true):∀w,f.run P w= .ok (.bool true) w:=e▸h
theorem vF{P:Program}{p:Bool}{f:Sem Value}(h:∀w,f.run P w= .ok (.bool p) w)(e:p=false):∀w,f.run P w= .ok (.bool false) w:=e▸h
end
theorem a_1 {p q:Prop} (h:q) (f:Hid q→p:=by
 intro h0
 first
 |(apply k_load;first|exact o_0 (.load_l1 rfl rfl rfl TG.h rfl) h0.h|exact o_0 (.load_l rfl rfl rfl TG.h TS.h (nle rfl)) h0.h|exact o_0 (.load_a1 rfl rfl TG.h rfl) h0.h|exact o_0 (.load_a rfl rfl TG.h TS.h (nle rfl)) h0.h|exact o_0 (.load_l rfl rfl (by assumption) TG.h TS.h (by exact nle rfl)) h0.h|exact o_0 (.load_l1 rfl rfl (by assumption) TG.h (by exact rfl)) h0.h|exact o_0 (.load_a rfl (by assumption) TG.h TS.h (by exact nle rfl)) h0.h|exact o_0 (.load_a1 rfl (by assumption) TG.h (by exact rfl)) h0.h)
 |(apply k_move;exact o_0 (.move rfl) h0.h)
 |(apply nH_;first|exact o_0 (.fieldAddr_l rfl TF.h (by decide)) h0.h|exact o_0 (.fieldAddr_a rfl TF.h (by decide)) h0.h)
 |(apply k_bin;first|(apply k_eql;first|exact o_0 (.bin rfl rfl bq_) h0.h|exact o_0 (.bin rfl rfl (binB_eql TU.h)) h0.h|exact o_0 (.bin rfl rfl pI_) h0.h|exact o_0 (.nilq_v rfl rfl TE.h) h0.h|exact o_0 (.nilq_arr rfl (by assumption) rfl TE.h) h0.h)|(apply k_neq;first|exact o_0 (.bin rfl rfl bu_) h0.h|exact o_0 (.bin rfl rfl (binB_neq TU.h)) h0.h|exact o_0 (.bin rfl rfl pG_) h0.h)|(apply k_lss;exact o_0 (.bin rfl rfl dx_) h0.h)|(apply k_leq;exact o_0 (.bin rfl rfl dy_) h0.h)|(apply k_gtr;exact o_0 (.bin rfl rfl dQ_) h0.h)|(apply k_geq;exact o_0 (.bin rfl rfl dz_) h0.h)|(apply k_add;first|exact o_0 (.bin rfl rfl (bI64_add (by omega))) h0.h|exact o_0 (.bin rfl rfl (bU64_add (by omega))) h0.h|exact o_0 (.bin rfl rfl (bU32_add (by omega))) h0.h|exact o_0 (.bin rfl rfl (bU8_add (by omega))) h0.h)|(apply k_sub;first|exact o_0 (.bin rfl rfl (h9_ (by omega))) h0.h|exact o_0 (.bin rfl rfl (bU64_sub (by omega))) h0.h|exact o_0 (.bin rfl rfl (bU32_sub (by omega))) h0.h|exact o_0 (.bin rfl rfl (bU8_sub (by omega))) h0.h)|(apply k_mul;first|exact o_0 (.bin rfl rfl (g4_ (by omega))) h0.h|exact o_0 (.bin rfl rfl (bU64_mul (by omega))) h0.h)|(apply k_quo;first|exact o_0 (.bin rfl rfl (bI64_quo (by omega))) h0.h|exact o_0 (.bin rfl rfl (pL_ (by omega))) h0.h|exact o_0 (.bin rfl rfl (pM_ (by omega))) h0.h)|(apply k_rem;first|exact o_0 (.bin rfl rfl (pN_ (by omega))) h0.h|exact o_0 (.bin rfl rfl (bU64_rem (by omega))) h0.h|exact o_0 (.bin rfl rfl (bU32_rem (by omega))) h0.h|exact o_0 (.bin rfl rfl (bU8_rem (by omega))) h0.h))
 |(apply k_call;first|(apply k_len;first|exact o_0 (.lenD rfl rfl rfl rfl TE.h) h0.h|exact o_0 (.lenI rfl rfl rfl rfl TE.h) h0.h|exact o_0 (.lenP rfl rfl rfl rfl TE.h) h0.h|exact o_0 (.lenC rfl rfl rfl rfl TE.h) h0.h|exact o_0 (.lenR rfl rfl rfl rfl TE.h) h0.h|exact o_0 (.len rfl rfl rfl rfl rfl TE.h) h0.h)|(apply k_append;first|exact o_1 (.append_e rfl rfl rfl TE.h rfl rfl rfl (.lsl rfl (nle rfl)) (by first|assumption|(simp;done)) TZ.h rfl TB.h (by first|rfl|assumption|(simp;done)|(simp;omega)|omega) (by first|(simp[maxLen];done)|(simp[maxLen];omega))) h0.h|exact o_2 (.append_l rfl rfl rfl TE.h rfl rfl rfl rfl rfl (by first|rfl|assumption|(simp;done)|(simp;omega)|omega) (by first|exact df_ _|exact dd_ _|exact c2_ _|exact dg_ _|exact c7_ _|rfl|simp) (by first|rfl|exact df_ _|exact dd_ _|exact c2_ _|exact dg_ _|exact c7_ _|simp) rfl (.lsl rfl (nle rfl)) TZ.h rfl TB.h (by first|rfl|assumption|(simp;done)|(simp;omega)|omega) (by first|(simp[maxLen];done)|(simp[maxLen];omega))) h0.h)|exact o_0 (.builtinV (vs:=[_,_]) rfl rfl bmin) h0.h|exact o_0 (.builtinV (vs:=[_,_]) rfl rfl bmax) h0.h)
 |(apply k_index;first|exact o_0 (.index_l rfl rfl (by omega) (by omega) TE.h) h0.h|exact o_0 (.index_a rfl rfl (by omega) rfl rfl TE.h) h0.h|exact o_0 (.index_a rfl rfl (by omega) (by assumption) (by rfl) TE.h) h0.h)
 |(apply k_assign;exact o_0 (.assign rfl) h0.h)
 |(apply k_store;exact o_1n (.store rfl rfl rfl rfl rfl rfl TS.h (nle rfl)) h0.h)
 |(apply ro_;exact o_0 (.extract rfl rfl) h0.h)
 |(apply k_box;exact o_1 (.box rfl rfl) h0.h)
 |(apply k_alloc;exact o_1 (.alloc TZ.h) h0.h)
 |(apply k_conv;first|exact o_0 (.conv rfl (cI64 (by omega) TU.h TU.h)) h0.h|exact o_0 (.conv rfl (cU64 (by omega) TU.h TU.h)) h0.h|exact o_0 (.conv rfl (cU32 (by omega) TU.h TU.h)) h0.h|exact o_0 (.conv rfl (cU8 (by omega) TU.h TU.h)) h0.h)
 |(apply k_field;first|exact o_0 (.field1 rfl TF.h TA.h rfl) h0.h|exact o_0 (.field rfl TF.h TA.h (nle rfl)) h0.h)
 |(apply k_nilc;exact o_0 (.nilCheck rfl rfl) h0.h)
 |(apply k_pick;first|exact o_0 (.pick rfl (fun _=>rfl) (fun _=>rfl)) h0.h|exact o_0 (.pick rfl (fun _=>rfl) (fun h=>absurd h (by decide))) h0.h|exact o_0 (.pick rfl (fun h=>absurd h (by decide)) (fun _=>rfl)) h0.h)
 |(apply k_un;first|exact o_0 (.un rfl lK_) h0.h|exact o_0 (.un rfl (ke_ (by omega))) h0.h)
 |(apply k_build;exact o_0 (.build TZ.h TP.h rfl rfl) h0.h)
 |exact o_0 (.makeFunc rfl rfl) h0.h
 |exact o_1 (.buildSlice TE.h TZ.h rfl (by decide) rfl rfl rfl (by first|(simp;done)|(simp[bR_,ofV];done)|rfl)) h0.h
 |exact o_1 (.makeSlice rfl rfl TE.h TZ.h rfl TB.h (by first|omega|(simp;done)|(simp;omega)) (by first|omega|(simp;done)|(simp;omega)) (by unfold maxLen;first|omega|(simp;done)|(simp;omega))) h0.h
 |exact o_0 (.lookup rfl rfl TU.h TU.h rfl rfl rfl) h0.h
 |exact g_y rfl rfl h0.h
 |exact g_n rfl rfl rfl rfl rfl h0.h
 |exact g_nn rfl rfl rfl rfl h0.h):p:=f ⟨h⟩
theorem a_2{p q:Prop}(h:q)(f:Hid q→p:=by intro h0;(iterate 2 (refine a_1 ?_));exact h0.h):p:=f ⟨h⟩
theorem a_3{p q:Prop}(h:q)(f:Hid q→p:=by intro h0;(iterate 3 (refine a_1 ?_));exact h0.h):p:=f ⟨h⟩
theorem a_4{p q:Prop}(h:q)(f:Hid q→p:=by intro h0;(iterate 4 (refine a_1 ?_));exact h0.h):p:=f ⟨h⟩
theorem a_5{p q:Prop}(h:q)(f:Hid q→p:=by intro h0;(iterate 5 (refine a_1 ?_));exact h0.h):p:=f ⟨h⟩
theorem a_6{p q:Prop}(h:q)(f:Hid q→p:=by intro h0;(iterate 6 (refine a_1 ?_));exact h0.h):p:=f ⟨h⟩
theorem a_7{p q:Prop}(h:q)(f:Hid q→p:=by intro h0;(iterate 7 (refine a_1 ?_));exact h0.h):p:=f ⟨h⟩
theorem a_8{p q:Prop}(h:q)(f:Hid q→p:=by intro h0;(iterate 8 (refine a_1 ?_));exact h0.h):p:=f ⟨h⟩
theorem a_z{p q:Prop}(h:q)(f:Hid q→p:=by intro h0;(repeat (refine a_1 ?_));exact ak_ h0.h):p:=f ⟨h⟩
theorem c_s{A:Prop}(c:A){p q:Prop}(h:q)(f:A→Hid q→p:=by intro c0 h0;(repeat (refine a_1 ?_));first|exact aM_ (.call rfl rfl rfl c0) rfl rfl h0.h|exact AR.op0n (.call rfl rfl rfl c0) rfl h0.h):p:=f c ⟨h⟩
section
variable {P:Program}{ops:Array Oper}{nx n:Nat}{fr:Fr}{hp:Hp}
theorem r_z{ρ:Option Nat}{Q:Exit→AState→Prop}{id:Nat}{y:Code}(m:Nat){q:Prop}(h:q)(f:Hid q→AR P ops nx n 0 ops.toList fr hp fun _ f h=>thenA (AWp ρ P y Q) Q .normal ⟨f,h,nx+m,n⟩:=by intro h0;(repeat (refine a_1 ?_));exact ak_ h0.h)(hsz:ops.size=m:=by exact rfl):AWp ρ P (.seq (.region id ops false) y) Q ⟨fr,hp,nx,n⟩:=s_r m (f ⟨h⟩) hsz
theorem r_c{A:Prop}(m:Nat)(c:A){ρ:Option Nat}{Q:Exit→AState→Prop}{id:Nat}{y:Code}{q:Prop}(h:q)(f:A→Hid q→AR P ops nx n 0 ops.toList fr hp fun _ f h=>thenA (AWp ρ P y Q) Q .normal ⟨f,h,nx+m,n⟩:=by intro c0 h0;(repeat (refine a_1 ?_));first|exact aM_ (.call rfl rfl rfl c0) rfl rfl h0.h|exact AR.op0n (.call rfl rfl rfl c0) rfl h0.h)(hsz:ops.size=m:=by exact rfl):AWp ρ P (.seq (.region id ops false) y) Q ⟨fr,hp,nx,n⟩:=s_r m (f c ⟨h⟩) hsz
end
section
variable {P:Program}{ops:Array Oper}{nx n j:Nat}{rest:List Oper}{fr:Fr}{hp:Hp}{K:Fps→Fr→Hp→Prop}{dst:Option Nat}{op:Op}{ty:Nat}{pos:String}{after:Array Edge}{g t d:Nat}{want b:Bool}
theorem g_u(ht:(ops[g]?).bind (·.dst)=some t)(hx:evF (look fr) (.tmp t)=some (.v undef))(hnd:bp_ op=true)(hd:Nat.blt d n=true)(h:AR P ops nx n (j+1) rest ((d,.v undef)::fr) hp fun fps f h=>K (([],[])::fps) f h):AR P ops nx n j (⟨some d,op,ty,pos,after,some (g,want)⟩::rest) fr hp K:=
 f7_ ht hx nofun hnd hd h
end
theorem w_1 {p q:Prop} (h:q) (f:Hid q→p:=by
 intro h0
 first
 |(apply k_lss;first|exact o_0 (.bin rfl rfl (vT dx_ (decide_eq_true (by omega)))) h0.h|exact o_0 (.bin rfl rfl (vF dx_ (decide_eq_false (by omega)))) h0.h)
 |(apply k_gtr;first|exact o_0 (.bin rfl rfl (vT dQ_ (decide_eq_true (by omega)))) h0.h|exact o_0 (.bin rfl rfl (vF dQ_ (decide_eq_false (by omega)))) h0.h)
 |(apply k_leq;first|exact o_0 (.bin rfl rfl (vT dy_ (decide_eq_true (by omega)))) h0.h|exact o_0 (.bin rfl rfl (vF dy_ (decide_eq_false (by omega)))) h0.h)
 |(apply k_geq;first|exact o_0 (.bin rfl rfl (vT dz_ (decide_eq_true (by omega)))) h0.h|exact o_0 (.bin rfl rfl (vF dz_ (decide_eq_false (by omega)))) h0.h)
 |(apply k_eql;first|exact o_0 (.bin rfl rfl (vT bq_ (decide_eq_true (by omega)))) h0.h|exact o_0 (.bin rfl rfl (vF bq_ (decide_eq_false (by omega)))) h0.h)):p:=f ⟨h⟩
theorem m_1 {p q:Prop} (h:q) (f:Hid q→p:=by
 intro h0
 first
 |(apply k_bin;exact w_1 h0.h)
 |exact g_n rfl rfl rfl rfl rfl h0.h
 |exact g_nn rfl rfl rfl rfl h0.h
 |exact g_u rfl rfl rfl rfl h0.h
 |(refine g_y rfl rfl ?_;first|(apply k_bin;exact w_1 h0.h)|exact a_1 h0.h)
 |exact a_1 h0.h):p:=f ⟨h⟩
theorem d_2{p q:Prop}(h:q)(f:Hid q→p:=by intro h0;(iterate 2 (refine m_1 ?_));exact h0.h):p:=f ⟨h⟩
theorem d_3{p q:Prop}(h:q)(f:Hid q→p:=by intro h0;(iterate 3 (refine m_1 ?_));exact h0.h):p:=f ⟨h⟩
theorem d_5{p q:Prop}(h:q)(f:Hid q→p:=by intro h0;(iterate 5 (refine m_1 ?_));exact h0.h):p:=f ⟨h⟩
theorem d_6{p q:Prop}(h:q)(f:Hid q→p:=by intro h0;(iterate 6 (refine m_1 ?_));exact h0.h):p:=f ⟨h⟩
theorem d_8{p q:Prop}(h:q)(f:Hid q→p:=by intro h0;(iterate 8 (refine m_1 ?_));exact h0.h):p:=f ⟨h⟩
theorem d_z{p q:Prop}(h:q)(f:Hid q→p:=by intro h0;(repeat (refine m_1 ?_));exact ak_ h0.h):p:=f ⟨h⟩
section
variable {P:Program}{ops:Array Oper}{nx n:Nat}{fr:Fr}{hp:Hp}
theorem q_z{ρ:Option Nat}{Q:Exit→AState→Prop}{id:Nat}{y:Code}(m:Nat){q:Prop}(h:q)(f:Hid q→AR P ops nx n 0 ops.toList fr hp fun _ f h=>thenA (AWp ρ P y Q) Q .normal ⟨f,h,nx+m,n⟩:=by intro h0;(repeat (refine m_1 ?_));exact ak_ h0.h)(hsz:ops.size=m:=by exact rfl):AWp ρ P (.seq (.region id ops false) y) Q ⟨fr,hp,nx,n⟩:=s_r m (f ⟨h⟩) hsz
theorem q_c{A:Prop}(m:Nat)(c:A){ρ:Option Nat}{Q:Exit→AState→Prop}{id:Nat}{y:Code}{q:Prop}(h:q)(f:A→Hid q→AR P ops nx n 0 ops.toList fr hp fun _ f h=>thenA (AWp ρ P y Q) Q .normal ⟨f,h,nx+m,n⟩:=by intro c0 h0;(repeat (refine m_1 ?_));first|exact aM_ (.call rfl rfl rfl c0) rfl rfl h0.h|exact AR.op0n (.call rfl rfl rfl c0) rfl h0.h)(hsz:ops.size=m:=by exact rfl):AWp ρ P (.seq (.region id ops false) y) Q ⟨fr,hp,nx,n⟩:=s_r m (f c ⟨h⟩) hsz
end
theorem d_t{p:Prop}(h:p:=by first|rfl|assumption|exact decide_eq_true (by omega)|(simp;done)|(simp;omega)):p:=h
theorem d_f{p:Prop}(h:p:=by first|rfl|assumption|exact decide_eq_false (by omega)|(simp;done)|(simp;omega)):p:=h
theorem d_n{p:Prop}(h:p:=by first|exact nle rfl|(simp;done)|(simp;omega)):p:=h
theorem d_o{p:Prop}(h:p:=by first|rfl|assumption|(simp;done)|(simp;omega)|omega):p:=h
theorem cT{ρ:Option Nat}{P:Program}{Q:Exit→AState→Prop}{st:AState}{c:Operand}{x y:Code}(h1:AWp ρ P x Q st)(hc:st.ev c=some (.v (.bool true)):=by exact rfl):AWp ρ P (.cond c x y) Q st:=aj_ hc (fun _=>h1) (fun e=>by cases e)
theorem cF{ρ:Option Nat}{P:Program}{Q:Exit→AState→Prop}{st:AState}{c:Operand}{x y:Code}(h1:AWp ρ P y Q st)(hc:st.ev c=some (.v (.bool false)):=by exact rfl):AWp ρ P (.cond c x y) Q st:=aj_ hc (fun e=>by cases e) (fun _=>h1)
theorem au_d{p:Prop}(h:p:=by first|exact au_c|(refine Cv.loE hs ?_ (ad_ _);assumption)|(refine Cv.boxp hs rfl (aQ_ rfl) rfl ?_;assumption)):p:=h
theorem au_g{p:Prop}(h:p:=by(first|exact au_e|(refine aO_ hs ?_;first|assumption|exact aJ_ _|exact fx_ _|exact a3_ _|exact bY_ _)|(refine aH_ hs ?_ ?_;assumption;first|assumption|exact a4_ _|exact aJ_ _|exact fx_ _|exact a3_ _|exact bY_ _)|exact ae_ (CvL.clo hs (by first|assumption|exact a1_ _|exact bs_ _))|(refine ae_ ?_;repeat' (first|exact ap_|refine af_ ?_ ?_)))<;> exact au_d):p:=h
theorem au_i{p:Prop}(h:p:=by repeat' (first|exact aK_|refine aE_ rfl ?_ ?_|exact au_d)):p:=h
theorem au_j{p:Prop}(h:p:=by repeat' (first|exact aq_|refine al_ rfl rfl rfl rfl ?_ ?_|exact au_g)):p:=h
theorem s_f {fr fr':Fr} {hp hp':Hp} {nx nx' n:Nat} (l:List (Nat×Nat)) (hS:ShrL (rnm fr l nx') (lookB hp) hp':=by exact au_r)
    (hF:Shr (rnm fr l nx') (lookB hp) (lookB hp')→CvF (rnm fr l nx') (lookB hp) (lookB hp') fr fr':=by exact fun hs=>au_i)
    (hH:Shr (rnm fr l nx') (lookB hp) (lookB hp')→CvH (rnm fr l nx') (lookB hp) (lookB hp') hp':=by exact fun hs=>au_j)
    (hk:Nat.blt 0 nx'=true:=by exact rfl) (h0:(rnm fr l nx').s 0=0:=by exact rfl) (hinj:injL (rnm fr l nx') (hp'.map (·.1))=true:=by exact rfl):SEnt ⟨fr,hp,nx,n⟩ ⟨fr',hp',nx',n⟩:=
 at_ l hk h0 hinj hS hF hH
theorem s_t {fr fr':Fr} {hp hp':Hp} {nx nx' n:Nat} (l:List (Nat×Nat)) (hS:ShrL (rnm fr l nx') (lookB hp) hp':=by exact au_r)
    (hF:Shr (rnm fr l nx') (lookB hp) (lookB hp')→CvF (rnm fr l nx') (lookB hp) (lookB hp') fr fr':=by exact fun hs=>au_i)
    (hH:Shr (rnm fr l nx') (lookB hp) (lookB hp')→CvH (rnm fr l nx') (lookB hp) (lookB hp') hp':=by exact fun hs=>au_j)
    (hk:Nat.blt 0 nx'=true:=by exact rfl) (h0:(rnm fr l nx').s 0=0:=by exact rfl) (hinj:injL (rnm fr l nx') (hp'.map (·.1))=true:=by exact rfl):SEntT ⟨fr,hp,nx,n⟩ ⟨fr',hp',nx',n⟩:=
 SEntT.to l hk h0 hinj hS hF hH
theorem f_n{P:Program}{f:Nat}{fn:Func}{c:Code}{args:List AV}{r:AV}{rs:List ResultVar}{m:Nat}{fr:Fr}(hf:P.funcs[f]?=some fn)(hcl:∀a∈args,Closed a)(h:AWp none P c (Fin P rs r) ⟨fr,[],1,m⟩)(hb:fn.body=some c:=by exact rfl)(hrs:fn.results.toList=rs:=by exact rfl)(hm:fn.ntmps=m:=by exact rfl)(hn:Nat.ble args.length m=true:=by exact rfl)(hfr:argFr 0 args=fr:=by exact rfl)(hname:(fn.name== "runtime.NumGoroutine")=false:=by kernel_rfl):FSpec P f args r:=oh_ hf hb hname hrs hm hn hcl hfr h
section
variable {P:Program}{ops:Array Oper}{nx n j:Nat}{rest:List Oper}{fr:Fr}{hp:Hp}{K:Fps→Fr→Hp→Prop}{d:Nat}{op:Op}{ty:Nat}{pos:String}{after:Array Edge}{a:AV}{rd:List Nat}{g t:Nat}{b want:Bool}{x:Value}
theorem n_k{q s:Prop}(h:s)(h0:q:=by kernel_rfl):q∧s:=⟨h0,h⟩
def gv(ops:Array Oper)(g:Nat)(fr:Fr):Option Bool:=((ops[g]?).bind (·.dst)).bind fun t=>(evF (look fr) (.tmp t)).bind fun a=>match a with| .v (.bool b)=>some b|_=>none
theorem gv_of(h:gv ops g fr=some b):∃t,(ops[g]?).bind (·.dst)=some t∧evF (look fr) (.tmp t)=some (.v (.bool b)):=by
 unfold gv at h
 obtain⟨t,h1,h2⟩:=Option.bind_eq_some_iff.1 h
 obtain⟨a,h3,h4⟩:=Option.bind_eq_some_iff.1 h2
 refine⟨t,h1,h3.trans ?_⟩
 split at h4
 cases h4;rfl
 cases h4
theorem n_g(hx:gv ops g fr=some b)(hb:b=!want)(h:AR P ops nx n (j+1) rest ((d,.v undef)::fr) hp fun fps f h=>K (([],[])::fps) f h)(hnd:bp_ op=true:=by exact rfl)(hd:Nat.blt d n=true:=by exact rfl):AR P ops nx n j (⟨some d,op,ty,pos,after,some (g,want)⟩::rest) fr hp K:=by
 obtain⟨t,ht,hx⟩:=gv_of hx
 exact f7_ ht hx (gn hb) hnd hd h
theorem y_g(hx:gv ops g fr=some b)(hb:b=want)(hs:AEval P (nx+j) (evF (look fr)) (lookB hp) op ⟨a,[]⟩ rd)(h:AR P ops nx n (j+1) rest ((d,a)::fr) hp fun fps f h=>K (([],rd)::fps) f h)(hnd:bp_ op=true:=by exact rfl)(hd:Nat.blt d n=true:=by exact rfl):AR P ops nx n j (⟨some d,op,ty,pos,after,some (g,want)⟩::rest) fr hp K:=by
 obtain⟨t,ht,hx⟩:=gv_of hx
 exact bl_ ht hx (gy hb) hs hnd hd h
theorem i_x{T E:Nat}{sz:Nat}{xx ix:Operand}{es:List (List AV)}{cs:List AV}{kd:IntKind}{z:Int}[TE P T (E,sz)](hg:es[z.toNat]?=some cs)(h:AR P ops nx n (j+1) rest ((d,.aptr es z.toNat 0)::fr) hp fun fps f h=>K (([],[])::fps) f h)(h1:evF (look fr) xx=some (.arr es):=by exact rfl)(h2:evF (look fr) ix=some (.v (.int kd z)):=by exact rfl)(h3:0≤z:=by omega)(h4:cs.length=sz:=by exact rfl)(hd:Nat.blt d n=true:=by exact rfl):AR P ops nx n j (⟨some d,.indexAddr T xx ix,ty,pos,after,none⟩::rest) fr hp K:=aM_ (.index_a h1 h2 h3 hg h4 TE.h) rfl hd h
theorem l_x{T i o k:Nat}{xx:Operand}{es:List (List AV)}{cs:List AV}[TG P T true][TS P T k](hg:es[i]?=some cs)(h:AR P ops nx n (j+1) rest ((d,.agg ((cs.drop o).take k))::fr) hp fun fps f h=>K (([],[])::fps) f h)(h1:evF (look fr) xx=some (.aptr es i o):=by exact rfl)(h2:Nat.ble (o+k) cs.length=true:=by exact rfl)(hd:Nat.blt d n=true:=by exact rfl):AR P ops nx n j (⟨some d,.load T xx,ty,pos,after,none⟩::rest) fr hp K:=aM_ (.load_a h1 hg TG.h TS.h (Nat.le_of_ble_eq_true h2)) rfl hd h
theorem l_1{T i o:Nat}{xx:Operand}{es:List (List AV)}{cs:List AV}{c:AV}[TG P T false](hg:es[i]?=some cs)(h:AR P ops nx n (j+1) rest ((d,c)::fr) hp fun fps f h=>K (([],[])::fps) f h)(h1:evF (look fr) xx=some (.aptr es i o):=by exact rfl)(h2:cs[o]?=some c:=by exact rfl)(hd:Nat.blt d n=true:=by exact rfl):AR P ops nx n j (⟨some d,.load T xx,ty,pos,after,none⟩::rest) fr hp K:=aM_ (.load_a1 h1 hg TG.h h2) rfl hd h
theorem r_m{ρ:Option Nat}{Q:Exit→AState→Prop}{id:Nat}(m:Nat)(h:AR P ops nx n 0 ops.toList fr hp fun _ f h=>Q .normal ⟨f,h,nx+m,n⟩)(hsz:ops.size=m:=by exact rfl):AWp ρ P (.region id ops false) Q ⟨fr,hp,nx,n⟩:=sZ_ hsz h
theorem r_d{ρ:Option Nat}{Q:Exit→AState→Prop}{id:Nat}(hm:P.follows .mixedOrders=true)(m:Nat)(h:AR P ops nx n 0 ops.toList fr hp fun fps f h=>okReg ops fps=true∧Q .normal ⟨f,h,nx+m,n⟩)(hsz:ops.size=m:=by exact rfl):AWp ρ P (.region id ops true) Q ⟨fr,hp,nx,n⟩:=AWp.regD hm hsz h
theorem c_e{T i e o k:Nat}{B:ABlk}{cs:List AV}{r:AV}[TG P T true][TS P T k](hc:Closed r)(h:look fr t=some (.lptr i e o):=by exact rfl)(hb:cellF (lookB hp) i=some B:=by exact rfl)(he:B.es[e]?=some cs:=by exact rfl)(hl:Nat.ble (o+k) cs.length=true:=by exact rfl)(h2:AV.agg ((cs.drop o).take k)=r:=by exact rfl):Fin P [.cell t T] r .ret ⟨fr,hp,nx,n⟩:=b7_ h hb he TG.h TS.h (Nat.le_of_ble_eq_true hl) h2 hc
theorem t_e{r0 r:AV}(hc:Closed r)(h:look fr t=some r0:=by exact rfl)(e:r0=r:=by exact rfl):Fin P [.tmp t] r .ret ⟨fr,hp,nx,n⟩:=aS_ h e hc
end

section
variable {P:Program}{l N:Nat}{T:Nat→Option (List AV)}{E:GEnv P l T N}
def GLs(E:GEnv P l T N)(ops:Array Oper)(Q:Exit→Nat→Bool→AState→Prop)(tail:List Oper)(j nx n k:Nat)(go:Bool)(fr:Fr)(hp:Hp):Prop:=
 ∀(a:Act) (w:World) (M G:Nat→Prop) (hj:E.J k go M G w),FRel M (gbase w G (E.gk hj)) (look fr) (lookB hp) (fun i=>nx+j≤i) n a w→
  wpListIn (FR none) 0 P ops (fun e a' w'=> ∃k' go' st',GRel E k' go' st' a' w'∧Q e k' go' st') tail a w
theorem GWp.regL{ops:Array Oper}{id k nx n:Nat}{go:Bool}{fr:Fr}{hp:Hp}{Q:Exit→Nat→Bool→AState→Prop}(h:GLs E ops Q ops.toList 0 nx n k go fr hp):GWp E (.region id ops false) Q k go ⟨fr,hp,nx,n⟩:=by
 rintro a w ⟨M,G,hj,hr⟩
 exact wpIn_region_list (h a w M G hj (FRel.free hr fun i hi=>by show nx≤i;simpa using hi))
theorem GLs.fin {ops:Array Oper} {tail:List Oper} {j k nx n n1:Nat} {go:Bool} {fr:Fr} {hp:Hp} {Q:Exit→Nat→Bool→AState→Prop} (hsz:j+tail.length=n1)
    (h:AR P ops nx n j tail fr hp fun _ f' h'=>Q .normal k go ⟨f',h',nx+n1,n⟩):GLs E ops Q tail j nx n k go fr hp:=by
 intro a w M G hj hr
 obtain⟨us,st3,hrun,hq⟩:=h
 have hn3:=eQ_ _ j _ _ _ hrun
 simp only at hn3
 have happ:=gI_ (P:=P) (ops:=ops) (ρ:=none) (M0:=M) (w0:=gbase w G (E.gk hj)) (nx:=nx) (Q:=fun e a' w'=> ∃k' go' st',GRel E k' go' st' a' w'∧Q e k' go' st') [] tail j ⟨fr,hp,nx,n⟩ st3 us a w hrun hr fun a5 w5 hr5=>?_
 rw[List.append_nil] at happ;exact happ
 refine⟨k,go,⟨st3.fr,st3.hp,nx+n1,n⟩,GRel.go_on hj ?_,hq⟩
 rw[hn3] at hr5
 refine hr5.free fun i (hi:nx+n1≤i)=>?_
 omega
theorem GLs.yield {ops:Array Oper} {tail:List Oper} {j k nx n nx2 d:Nat} {fr fr2:Fr} {hp hp2:Hp} {Q:Exit→Nat→Bool→AState→Prop} (m:Nat) {o:Oper} (ho:tail[m]?=some o) {cc:Call} {f:Operand} {as:List AV} (hop:o.op= .call cc) (hd:o.dst=some d) (hf:cc.callee= .value f)
    (hg:o.guard=none∨∃g t,o.guard=some (g,true)∧ops[g]?.bind (·.dst)=some t∧evF (look fr2) (.tmp t)=some (.v (.bool true)))
    (h:AR P ops nx n j (tail.take m) fr hp fun _ f1 h1=>SEntT ⟨f1,h1,nx+(j+m),n⟩ ⟨fr2,hp2,nx2,n⟩) (hdn:Nat.blt d n=true)
    (hev:evF (look fr2) f=some (.v (.func (.yield l) #[] #[]))) (has:evs (evF (look fr2)) cc.args.toList=some as) (hT:T k=some (as.map coe)) (hcl:∀a∈as.map coe,Closed a)
    (h3:∀go,GLs E ops Q (tail.drop (m+1)) (j+m+1) nx2 n (k+1) go ((d,.v (.bool go))::fr2) hp2):GLs E ops Q tail j nx n k true fr hp:=by
 have hjl:m< tail.length:=(List.getElem?_eq_some_iff.1 ho).1
 have hops:tail=tail.take m++o::tail.drop (m+1):=by
  rw[←(List.getElem?_eq_some_iff.1 ho).2,←List.drop_eq_getElem_cons hjl,List.take_append_drop]
 intro a w M G hj hr
 rw[hops]
 obtain⟨us,st1,hrun,hent⟩:=h
 have hn1:=eQ_ _ j _ _ _ hrun
 simp only at hn1
 refine gI_ (M0:=M) (w0:=gbase w G (E.gk hj)) (ρ:=none) _ _ j ⟨fr,hp,nx,n⟩ st1 us a w hrun hr fun a1 w1 hr1=>?_
 have hl:(tail.take m).length=m:=by rw[List.length_take];omega
 rw[hl,hn1] at hr1
 have hr2:TRel M (gbase w G (E.gk hj)) ⟨fr2,hp2,nx2,n⟩ a1 w1:=hent M _ a1 w1 hr1
 have hb:=hr1.choose_spec.1.below
 have hst:GStep G (fun b=>(G b∨w.heap.size≤b)∧b< w1.heap.size) w w1:=⟨hb.os,hb.tape,hb.output,hb.size,fun b h1 h2=>hb.block b ⟨h1,h2⟩,hb.sizes,fun b h=>h⟩
 have hj1:=E.ok _ _ _ _ _ _ _ hj hst
 have hr3:TRel M (gbase w1 (fun b=>(G b∨w.heap.size≤b)∧b< w1.heap.size) (E.gk hj1)) ⟨fr2,hp2,nx2,n⟩ a1 w1:=by
  obtain⟨β,mem,h1,h2,h3,⟨Ds,h4,h5,h6⟩,h7⟩:=hr2
  have hK:∀b,b< w1.heap.size→¬(gbase w G (E.gk hj)).K b→¬(gbase w1 (fun b=>(G b∨w.heap.size≤b)∧b< w1.heap.size) (E.gk hj1)).K b:=by
   rintro b hlt hk ⟨_,hn⟩
   refine hn ⟨?_,hlt⟩
   by_cases hG:G b
   exact .inl hG
   exact .inr (Nat.le_of_not_lt fun hl=>hk ⟨hl,hG⟩)
  refine⟨β,mem.rebase (gbase w1 _ (E.gk hj1)) rfl (fun b hb=>?_) (fun i b s hi=>hK b (mem.rng i b s hi).2 (mem.rng i b s hi).1) mem.pin,h1,fun t x hx=>h2 t x hx,h3,⟨Ds,h4,h5,fun D hD=>?_⟩,h7⟩
  have:=(mem.m0 b hb).1
  exact⟨Nat.lt_of_lt_of_le this.1 mem.below.size,fun hG=>hG.1.elim this.2 fun h=>by have:=this.1;omega⟩
  obtain⟨h8,h9⟩:=h6 D hD
  exact⟨h8,hK D (Array.getElem?_eq_some_iff.1 h8).1 h9⟩
 have hw:Region.wanted o (yielded ops a1.tmps)=true:=by
  rcases hg with hg|⟨g,t,hg,ht,hx⟩
  simp[Region.wanted,hg]
  obtain⟨β,mem,h1,h2,_⟩:=hr2
  have hval:a1.tmps.getD t undef= .bool true:=hJ_ h2 (.tmp t) _ hx
  have hyl:yielded ops a1.tmps g=some true:=by
   simp only[yielded,ht,Option.bind_some]
   cases htt:a1.tmps[t]? with
   |none=>
    rw[Array.getD_eq_getD_getElem?,htt] at hval
    cases hval
   |some y=>
    rw[Array.getD_eq_getD_getElem?,htt] at hval
    simp only[Option.getD_some] at hval
    subst hval;rfl
  simp only[Region.wanted,hg,hyl,beq_iff_eq]
 refine wpListIn_step fun K hK=>?_
 rw[if_pos hw]
 refine ok_ (E:=E) (st:=⟨fr2,hp2,nx2,n⟩) hop hd (Nat.le_of_ble_eq_true hdn) hf hev has hT hcl hj1 hr3 fun go a2 w2 hr4=>hK a2 w2 ?_
 obtain⟨M4,G4,hj4,hr4⟩:=hr4
 exact h3 go a2 w2 M4 G4 hj4 (FRel.free hr4 fun i hi=>by show nx2≤i;omega)
theorem GWp.cutT{α:Type}{Q:Exit→Nat→Bool→AState→Prop}{x y:Code}{k:Nat}{go:Bool}{st:AState}(S:α→AState)(Post:α→Prop)(h:AWp none P x (cutA S Post fun _ _=>False) st)(h2:∀a,Post a→GWp E y Q k go (S a)):GWp E x (thenG (GWp E y Q) Q) k go st:=
 GWp.lift (AWp.mono h fun e s hs=>by
  cases e with
  |normal=>obtain⟨a,h3,h4⟩:=hs;exact GWp.ent h4 (h2 a h3)
  |_=>exact hs.elim)
end
def digs(b n:Nat):List Nat:=
 if _h:b≤1∨n=0 then [] else n % b::digs b (n/ b)
termination_by n
decreasing_by exact Nat.div_lt_self (by omega) (by omega)
def ofD(b:Nat):List Nat→Nat
 |[]=>0
 |d::l=>d+b* ofD b l
theorem by_(b:Nat):digs b 0=[]:=by rw[digs];simp
theorem cY_{b n:Nat}(hb:1< b)(hn:0< n):digs b n=n % b::digs b (n/ b):=by rw[digs,dif_neg (by omega)]
theorem a8_{b:Nat}(hb:1< b)(n:Nat):ofD b (digs b n)=n:=by
 induction n using Nat.strongRecOn with
 |_ n ih=>
  rcases Nat.eq_zero_or_pos n with rfl|hn
  rw[by_];rfl
  rw[cY_ hb hn,ofD,ih _ (Nat.div_lt_self hn hb)]
  exact Nat.mod_add_div n b
theorem cq_{b:Nat}(hb:1< b)(n:Nat):∀d∈digs b n,d< b:=by
 induction n using Nat.strongRecOn with
 |_ n ih=>
  rcases Nat.eq_zero_or_pos n with rfl|hn
  rw[by_];simp
  rw[cY_ hb hn]
  intro d hd
  rcases List.mem_cons.1 hd with rfl|hd
  exact Nat.mod_lt _ (by omega)
  exact ih _ (Nat.div_lt_self hn hb) d hd
def IsD(b:Nat)(l:List Nat):Prop:=(∀d∈l,d< b)∧l.getLast?≠some 0
theorem i3_{b:Nat}(hb:1< b)(n:Nat):(digs b n).getLast?≠some 0:=by
 induction n using Nat.strongRecOn with
 |_ n ih=>
  rcases Nat.eq_zero_or_pos n with rfl|hn
  rw[by_];simp
  rw[cY_ hb hn]
  have h1:=ih _ (Nat.div_lt_self hn hb)
  rw[List.getLast?_cons]
  intro h
  by_cases h0:digs b (n/ b)=[]
  rw[h0] at h
  simp only[List.getLast?_nil,Option.getD_none,Option.some.injEq] at h
  have hz:n/ b=0:=by
   have:=a8_ hb (n/ b)
   rw[h0] at this;exact this.symm
  have:=Nat.mod_add_div n b
  rw[h,hz] at this
  omega
  cases hl:(digs b (n/ b)).getLast? with
  |none=>exact h0 (List.getLast?_eq_none_iff.1 hl)
  |some x=>
   rw[hl] at h
   simp only[Option.getD_some,Option.some.injEq] at h
   subst h;exact h1 hl
theorem ofD_pos{b:Nat}{l:List Nat}(h:IsD b l)(hl:l≠[]):0< ofD b l:=by
 induction l with
 |nil=>exact absurd rfl hl
 |cons d l ih=>
  rw[ofD]
  by_cases h0:l=[]
  subst h0
  have h2:=h.2
  simp at h2
  omega
  have hb:0< b:=by have:=h.1 d (List.mem_cons_self ..);omega
  have:0< ofD b l:=ih ⟨fun x hx=>h.1 x (List.mem_cons_of_mem _ hx),by
   have h2:=h.2;rw[List.getLast?_cons] at h2
   intro e;rw[e] at h2;exact h2 rfl⟩ h0
  have:=Nat.mul_pos hb this
  omega
theorem lq_{b:Nat}(hb:1< b):∀{l:List Nat},IsD b l→digs b (ofD b l)=l
 |[],_=>by_ b
 |d::l,h=>by
  have hp:=ofD_pos h (by simp)
  have hd:=h.1 d (List.mem_cons_self ..)
  have hl:IsD b l:=⟨fun x hx=>h.1 x (List.mem_cons_of_mem _ hx),by
   have h2:=h.2;rw[List.getLast?_cons] at h2
   intro e;rw[e] at h2;exact h2 rfl⟩
  rw[cY_ hb hp]
  have e1:ofD b (d::l) % b=d:=by rw[ofD,Nat.add_mul_mod_self_left];exact Nat.mod_eq_of_lt hd
  have e2:ofD b (d::l) / b=ofD b l:=by rw[ofD,Nat.add_mul_div_left _ _ (by omega),Nat.div_eq_of_lt hd];omega
  rw[e1,e2,lq_ hb hl]
theorem dm_(b:Nat)(l m:List Nat):ofD b (l++m)=ofD b l+b^ l.length* ofD b m:=by
 induction l with
 |nil=>simp[ofD]
 |cons d l ih=>simp only[List.cons_append,ofD,ih,List.length_cons,Nat.pow_succ,Nat.mul_add];rw[←Nat.add_assoc,Nat.mul_comm (b^ l.length) b,Nat.mul_assoc]
theorem dC_{b:Nat}{l:List Nat}(h:∀d∈l,d< b):ofD b l< b^ l.length:=by
 induction l with
 |nil=>simp[ofD]
 |cons d l ih=>
  have h1:=ih fun x hx=>h x (List.mem_cons_of_mem _ hx)
  have h2:=h d (List.mem_cons_self ..)
  rw[ofD,List.length_cons,Nat.pow_succ,Nat.mul_comm (b^ l.length) b]
  have:b* (ofD b l+1)≤b* b^ l.length:=Nat.mul_le_mul_left _ h1
  rw[Nat.mul_add] at this
  omega
theorem it_(b k:Nat):ofD b (List.replicate k 0)=0:=by
 induction k with
 |zero=>rfl
 |succ k ih=>rw[List.replicate_succ,ofD,ih];simp
theorem cf_(b k:Nat)(l:List Nat)(h:k≤l.length):ofD b l=ofD b (l.take k)+b^ k* ofD b (l.drop k):=by
 conv=>lhs;rw[←List.take_append_drop k l]
 rw[dm_,List.length_take,Nat.min_eq_left h]
def trimD:List Nat→List Nat
 |[]=>[]
 |d::l=>match trimD l with
  |[]=>if d=0 then [] else [d]
  |e::m=>d::e::m
theorem lP_(b:Nat):∀l,ofD b (trimD l)=ofD b l
 |[]=>rfl
 |d::l=>by
  have ih:=lP_ b l
  unfold trimD
  split
  ·rename_i h
   rw[h] at ih
   split
   ·rename_i h0;subst h0;show 0=0+b* ofD b l;rw[←ih];simp[ofD]
   show d+b* ofD b []=d+b* ofD b l;rw[←ih]
  ·rename_i e m h
   rw[h] at ih
   show d+b* ofD b (e::m)=d+b* ofD b l
   rw[ih]
theorem ju_:∀l,(trimD l).getLast?≠some 0
 |[]=>by simp[trimD]
 |d::l=>by
  have ih:=ju_ l
  unfold trimD
  split
  split
  simp
  simpa using ‹¬d=0›
  ·rename_i e m h
   rw[h] at ih
   rw[List.getLast?_cons]
   cases hl:(e::m).getLast? with
   |none=>simp at hl
   |some x=>rw[hl] at ih;simpa using ih
theorem lO_:∀l,∀d∈trimD l,d∈l
 |[],d,h=>by simp[trimD] at h
 |a::l,d,h=>by
  have ih:=lO_ l
  unfold trimD at h
  split at h
  split at h
  simp at h
  simp at h;subst h;exact List.mem_cons_self ..
  ·rename_i e m he
   rw[he] at ih
   rcases List.mem_cons.1 h with rfl|h
   exact List.mem_cons_self ..
   exact List.mem_cons_of_mem _ (ih d h)
theorem eO_{b:Nat}(hb:1< b){l:List Nat}(h:∀d∈l,d< b):trimD l=digs b (ofD b l):=by
 rw[←lP_ b l]
 exact(lq_ hb ⟨fun d hd=>h d (lO_ l d hd),ju_ l⟩).symm
theorem fG_:∀(l:List Nat) (k:Nat),k≤l.length→(∀i,k≤i→i< l.length→l[i]?=some 0)→(k=0∨l[k- 1]?≠some 0)→trimD l=l.take k
 |[],k,hk,_,_=>by simp[trimD]
 |d::l,k,hk,hz,hl=>by
  cases k with
  |zero=>
   have h1:=fG_ l 0 (Nat.zero_le _) (fun i _ hi=>by have:=hz (i+1) (by omega) (by simp;omega);simpa using this) (.inl rfl)
   have h2:=hz 0 (Nat.le_refl _) (by simp)
   simp only[List.getElem?_cons_zero,Option.some.injEq] at h2
   simp[trimD,h1,h2]
  |succ k=>
   have hz':∀i,k≤i→i< l.length→l[i]?=some 0:=fun i h1 hi=>by have:=hz (i+1) (by omega) (by simp;omega);simpa using this
   simp only[Nat.add_sub_cancel] at hl
   cases k with
   |zero=>
    have h1:=fG_ l 0 (Nat.zero_le _) hz' (.inl rfl)
    simp at hl
    simp[trimD,h1,hl]
   |succ k=>
    have hlen:k+1≤l.length:=by simpa using hk
    have h1:=fG_ l (k+1) hlen hz' (.inr (hl.elim (fun h=>absurd h (by omega)) fun h=>by simpa using h))
    cases l with
    |nil=>simp at hlen
    |cons e m=>
     simp only[List.take_succ_cons] at h1⊢
     rw[trimD,h1]
def bl(n:Nat):Nat:=if n=0 then 0 else n.log2+1
theorem lt_bl(n:Nat):n< 2^ bl n:=by
 unfold bl
 split
 ·rename_i h;subst h;simp
 exact Nat.lt_log2_self
theorem bl_le{n k:Nat}(h:n< 2^ k):bl n≤k:=by
 unfold bl
 split
 omega
 ·rename_i hn;exact(Nat.log2_lt hn).2 h
theorem bl_lt{n k:Nat}(h:bl n≤k):n< 2^ k:=Nat.lt_of_lt_of_le (lt_bl n) (Nat.pow_le_pow_right (by omega) h)
theorem b6_{m n:Nat}(h:m≤n):bl m≤bl n:=bl_le (Nat.lt_of_le_of_lt h (lt_bl n))
theorem eN_(m n:Nat):bl (m* n)≤bl m+bl n:=by
 refine bl_le ?_
 rw[Nat.pow_add]
 exact Nat.mul_lt_mul'' (lt_bl m) (lt_bl n)
theorem sN_(m n:Nat):bl (m+n)≤max (bl m) (bl n)+1:=by
 refine bl_le ?_
 have h1:m< 2^ max (bl m) (bl n):=bl_lt (Nat.le_max_left _ _)
 have h2:n< 2^ max (bl m) (bl n):=bl_lt (Nat.le_max_right _ _)
 rw[Nat.pow_succ];omega
theorem sK_:bl 0=0:=rfl
theorem jh_:bl 1=1:=by decide
theorem bl_pos{n:Nat}(h:0< n):0< bl n:=by unfold bl;rw[if_neg (by omega)];omega
theorem bd_{b:Nat}(hb:1< b)(n:Nat):(digs b n).length≤bl n:=by
 induction n using Nat.strongRecOn with
 |_ n ih=>
  rcases Nat.eq_zero_or_pos n with rfl|hn
  rw[by_];simp
  rw[cY_ hb hn,List.length_cons]
  have h1:=ih _ (Nat.div_lt_self hn hb)
  have h2:bl (n/ b)+1≤bl n:=by
   have hle:n/ b≤n/ 2:=Nat.div_le_div_left hb (by omega)
   have h3:bl (n/ 2)+1≤bl n:=by
    have hlt:=lt_bl n
    have hp:=bl_pos hn
    have:n/ 2< 2^ (bl n- 1):=by
     rw[Nat.div_lt_iff_lt_mul (by omega)];have e:2^ (bl n- 1) * 2=2^ bl n:=by rw[show 2^ bl n=2^ (bl n- 1+1) by rw[show bl n- 1+1=bl n by omega],Nat.pow_succ]
     rw[e];exact hlt
    have:=bl_le this
    omega
   have:=b6_ hle
   omega
  omega
theorem cT_{b:Nat}(hb:1< b){n k:Nat}(h:n< b^ k):(digs b n).length≤k:=by
 induction k generalizing n with
 |zero=>have:n=0:=by simpa using h
        subst this;rw[by_];simp
 |succ k ih=>
  rcases Nat.eq_zero_or_pos n with rfl|hn
  rw[by_];simp
  rw[cY_ hb hn,List.length_cons]
  have:n/ b< b^ k:=by rw[Nat.div_lt_iff_lt_mul (by omega),←Nat.pow_succ];exact h
  have:=ih this
  omega
theorem ec_{b n:Nat}(hb:1< b):digs b n=[]↔n=0:=by
 constructor
 intro h;have:=a8_ hb n;rw[h] at this;exact this.symm
 rintro rfl;exact by_ b
abbrev MB:Nat:=1000000000
def u32(d:Nat):AV:= .v (.int .u32 d)
def i64(z:Int):AV:= .v (.int .i64 z)
def u64(z:Int):AV:= .v (.int .u64 z)
def bln(b:Bool):AV:= .v (.bool b)
def dE(l:List Nat):List (List AV):=l.map fun d=>[u32 d]
def mag(n:Nat):AV:= .arr (dE (digs MB n))
@[simp] theorem i7_ (l:List Nat):(dE l).length=l.length:=by simp[dE]
theorem ct_{l:List Nat}{i d:Nat}(h:l[i]?=some d):(dE l)[i]?=some [u32 d]:=by simp[dE,h]
theorem st_(l:List Nat)(k:Nat):(dE l).take k=dE (l.take k):=by simp[dE]
theorem fs_(l m:List Nat):dE (l++m)=dE l++dE m:=by simp[dE]
theorem eu_(l:List Nat)(i d:Nat):(dE l).set i [u32 d]=dE (l.set i d):=by simp[dE,List.map_set]
theorem dF_(k:Nat):List.replicate k [u32 0]=dE (List.replicate k 0):=by simp[dE]
theorem df_(l:List Nat):(dE l).all (·.all AV.one)=true:=by simp[dE,u32,AV.one];intros;rfl
theorem n9_(l:List Nat):∀e∈dE l,e.length=1:=by intro e he;simp[dE] at he;obtain⟨d,_,rfl⟩:=he;rfl
theorem a4_(l:List Nat):∀e∈dE l,∀c∈e,Closed c:=by
 intro e he c hc
 simp[dE] at he
 obtain⟨d,_,rfl⟩:=he
 simp at hc;subst hc
 exact ad_ _
theorem bJ_(l:List Nat):Closed (.arr (dE l)):=aU_ (a4_ l)
theorem aT_(n:Nat):Closed (mag n):=bJ_ _
theorem ab_:∀a∈([]:List AV),Closed a:=fun _ h=>by cases h
theorem aa_{a:AV}{l:List AV}(h:Closed a)(h':∀a∈l,Closed a):∀b∈a::l,Closed b:=by
 intro b hb
 rcases List.mem_cons.1 hb with rfl|hb
 exact h
 exact h' b hb
theorem AEval.lenD{P:Program}{id:Nat}{ev:Operand→Option AV}{hp:Nat→Option ABlk}{c:Call}{x:Operand}{T:Nat}{d:Nat×Nat}{l:List Nat}(hc:c.callee= .builtin .len)(ha:c.args= #[x])(ht:c.argTypes= #[T])(hx:ev x=some (.arr (dE l)))(he:elOf P T=some d):
    AEval P id ev hp (.call c) ⟨.v (.int .i64 (l.length:Nat)),[]⟩ []:= .len hc ha ht hx (by simp[lenA]) he
theorem dN_(b:Nat)(s:List Nat)(v:Nat):ofD b (s++[v])=ofD b s+b^ s.length* v:=by rw[dm_];simp[ofD]
theorem cc_{α:Type}{l:List α}{k:Nat}{x:α}(h:l[k]?=some x):l.take (k+1)=l.take k++[x]:=by
 rw[List.take_add_one,h];rfl
theorem bB_(b:Nat){l:List Nat}{k d:Nat}(h:l[k]?=some d):ofD b (l.take (k+1))=ofD b (l.take k)+b^ k* d:=by
 have hk:k< l.length:=(List.getElem?_eq_some_iff.1 h).1
 rw[cc_ h,dN_,List.length_take,Nat.min_eq_left (by omega)]
theorem cz_(b:Nat)(l:List Nat)(k:Nat):ofD b (l.take (k+1))=ofD b (l.take k)+b^ k* (l[k]?.getD 0):=by
 cases h:l[k]? with
 |some d=>exact bB_ b h
 |none=>rw[List.getElem?_eq_none_iff] at h;rw[List.take_of_length_le (by omega),List.take_of_length_le (by omega)];simp
theorem dB_(b:Nat){l:List Nat}{k:Nat}(h:l.length≤k):ofD b (l.take k)=ofD b l:=by rw[List.take_of_length_le h]
theorem fI_(b:Nat){l:List Nat}{k d:Nat}(h:l[k]?=some d):ofD b (l.drop k)=d+b* ofD b (l.drop (k+1)):=by
 rw[List.drop_eq_getElem_cons (List.getElem?_eq_some_iff.1 h).1,ofD]
 congr 1
 exact(List.getElem?_eq_some_iff.1 h).2
theorem iu_(b:Nat):∀{l:List Nat} {j d:Nat} (v:Nat),l[j]?=some d→ofD b (l.set j v)+b^ j* d=ofD b l+b^ j* v
 |[],_,_,_,h=>by simp at h
 |x::l,0,d,v,h=>by simp at h;subst h;simp[ofD];omega
 |x::l,j+1,d,v,h=>by
  simp only[List.getElem?_cons_succ] at h
  have:=iu_ b v h
  rw[List.set_cons_succ,ofD,ofD,Nat.pow_succ]
  have e:=congrArg (b* ·) this
  simp only[Nat.mul_add] at e
  rw[←Nat.mul_assoc,←Nat.mul_assoc,Nat.mul_comm b (b^ j)] at e
  omega
theorem kS_{l:List Nat}{j v:Nat}{p:Nat→Prop}(h:∀d∈l,p d)(hv:p v):∀d∈l.set j v,p d:=by
 intro d hd
 rcases List.mem_or_eq_of_mem_set hd with hd|hd
 exact h d hd
 subst hd;exact hv
theorem qI_{α:Type}{cs vs:List α}(h:vs.length=cs.length):setAt cs 0 vs=vs:=by
 apply List.ext_getElem?
 intro j
 rw[cG_]
 split
 ·rename_i hj;rw[if_pos (by omega)];rfl
 ·rename_i hj;rw[List.getElem?_eq_none (by omega),List.getElem?_eq_none (by omega)]
theorem ns_{α:Type}{cs vs:List α}(h:vs.length≤cs.length):setAt cs 0 vs=vs++cs.drop vs.length:=by
 apply List.ext_getElem?
 intro j
 rw[cG_]
 by_cases hj:j< vs.length
 rw[if_pos (by omega),if_pos (by omega),List.getElem?_append_left hj];rfl
 rw[if_neg (by omega),List.getElem?_append_right (by omega),List.getElem?_drop]
 congr 1;omega
theorem or_(s:List Nat)(m v i:Nat)(hi:i=s.length):(s++List.replicate (m+1) 0).set i v=(s++[v])++List.replicate m 0:=by
 subst hi
 rw[List.set_append_right _ _ (Nat.le_refl _)]
 simp[List.replicate_succ]
theorem oX_(s:List Nat)(m i:Nat)(hi:i=s.length):(s++List.replicate (m+1) 0)[i]?=some 0:=by
 subst hi;simp[List.replicate_succ]
theorem bv_{b n i d:Nat}(hb:1< b)(h:(digs b n)[i]?=some d):d< b:=cq_ hb n d (List.mem_of_getElem? h)
theorem qe_{n:Nat}(h0:0< n)(h:n< MB):digs MB n=[n]:=by
 rw[cY_ (by decide) h0,Nat.div_eq_of_lt h,by_,Nat.mod_eq_of_lt h]
theorem sq_{b:Nat}(hb:1< b)(n k:Nat):(digs b n).drop k=digs b (ofD b ((digs b n).drop k)):=by
 symm
 refine lq_ hb ⟨fun d hd=>cq_ hb n d (List.mem_of_mem_drop hd),?_⟩
 by_cases hk:k< (digs b n).length
 rw[List.getLast?_drop,if_neg (by omega)];exact i3_ hb n
 rw[List.drop_of_length_le (by omega)];simp
theorem i2_{b n:Nat}(hb:1< b):b^ ((digs b n).length- 1)≤n∨n=0:=by
 rcases Nat.eq_zero_or_pos n with h|h
 exact .inr h
 left
 have hne:digs b n≠[]:=fun e=>by have:=(ec_ hb).1 e;omega
 have hl:=i3_ hb n
 obtain⟨s,x,e⟩:∃s x,digs b n=s++[x]:=⟨_,_,(List.dropLast_concat_getLast hne).symm⟩
 have h1:=a8_ hb n
 rw[e,dN_] at h1
 rw[e] at hl
 simp at hl
 rw[e,List.length_append]
 simp
 have:b^ s.length* 1≤b^ s.length* x:=Nat.mul_le_mul_left _ (by omega)
 omega
theorem eD_{b m n:Nat}(hb:1< b)(h:(digs b m).length< (digs b n).length):m< n:=by
 have h1:=dC_ (b:=b) (cq_ hb m)
 rw[a8_ hb] at h1
 rcases i2_ (n:=n) hb with h2|h2
 have:b^ (digs b m).length≤b^ ((digs b n).length- 1):=Nat.pow_le_pow_right (by omega) (by omega)
 omega
 subst h2;rw[by_] at h;simp at h
theorem oS_{b m n:Nat}(hb:1< b)(h:m≤n):(digs b m).length≤(digs b n).length:=by
 rcases Nat.lt_or_ge (digs b n).length (digs b m).length with h1|h1
 have:=eD_ hb h1;omega
 exact h1
def restD(n k:Nat):Nat:=ofD MB ((digs MB n).drop k)
def preD(n k:Nat):List Nat:=(digs MB n).take k
theorem jE_(n:Nat):restD n 0=n:=a8_ (by decide) n
theorem d2_(n:Nat):preD n 0=[]:=rfl
theorem preD_end(n:Nat):preD n (digs MB n).length=digs MB n:=List.take_length
theorem gb_{n k:Nat}(h:k≤(digs MB n).length):(preD n k).length=k:=by simp[preD,Nat.min_eq_left h]
theorem jF_{n k:Nat}(h:k< (digs MB n).length):restD n (k+1)=restD n k/ MB∧preD n (k+1)=preD n k++[restD n k % MB]:=by
 have hd:(digs MB n)[k]?=some (digs MB n)[k]:=List.getElem?_eq_getElem h
 have h1:=fI_ MB hd
 have h2:(digs MB n)[k]< MB:=bv_ (by decide) hd
 constructor
 unfold restD;rw[h1,Nat.add_mul_div_left _ _ (by decide),Nat.div_eq_of_lt h2];omega
 unfold preD restD;rw[cc_ hd,h1,Nat.add_mul_mod_self_left,Nat.mod_eq_of_lt h2]
theorem restD_le{n k:Nat}(hk:k≤(digs MB n).length):restD n k≤n:=by
 have:=cf_ MB k _ hk
 rw[a8_ (by decide)] at this
 have h2:=Nat.le_mul_of_pos_left (ofD MB ((digs MB n).drop k)) (Nat.pow_pos (n:=k) (show 0< MB by decide))
 unfold restD;omega
theorem restD_eq{n k:Nat}(hk:k≤(digs MB n).length):restD n k=0↔k=(digs MB n).length:=by
 constructor
 intro e
 have:=sq_ (b:=MB) (by decide) n k
 rw[show ofD MB ((digs MB n).drop k)=0 from e,by_,List.drop_eq_nil_iff] at this
 omega
 intro e;unfold restD;rw[e,List.drop_length];rfl
def cmpZ(a b:Int):Int:=if a< b then -1 else if b< a then 1 else 0
theorem gn_{a b:Int}(h:a< b):cmpZ a b= -1:=by simp[cmpZ,h]
theorem ho_{a b:Int}(h:b< a):cmpZ a b=1:=by simp[cmpZ];omega
theorem sy_{a b:Int}(h:a=b):cmpZ a b=0:=by simp[cmpZ];omega
theorem lu_{a b:Int}:cmpZ a b≠0↔a≠b:=by unfold cmpZ;split <;>(try split)<;> omega
theorem gD_{b i x y:Nat}{l m:List Nat}(hl:∀d∈l,d< b)(hx:l[i]?=some x)(hy:m[i]?=some y)(hd:l.drop (i+1)=m.drop (i+1))(hlt:x< y):ofD b l< ofD b m:=by
 have hi:i< l.length:=(List.getElem?_eq_some_iff.1 hx).1
 have hj:i< m.length:=(List.getElem?_eq_some_iff.1 hy).1
 rw[cf_ b i l (by omega),cf_ b i m (by omega),fI_ b hx,fI_ b hy,hd]
 have h1:ofD b (l.take i)< b^ i:=by
  have:=dC_ (b:=b) (l:=l.take i) fun d hd=>hl d (List.mem_of_mem_take hd)
  rwa[List.length_take,Nat.min_eq_left (by omega)] at this
 have h2:b^ i* (x+b* ofD b (m.drop (i+1))+1)≤b^ i* (y+b* ofD b (m.drop (i+1))):=Nat.mul_le_mul_left _ (by omega)
 rw[Nat.mul_add _ _ 1] at h2
 omega
theorem iQ_(s t:List Nat)(x:Nat)(i:Nat)(hi:i=s.length):(s++x::t)[i]?=some x:=by subst hi;simp
theorem ih_(s t:List Nat)(x v:Nat)(i:Nat)(hi:i=s.length):(s++x::t).set i v=(s++[v])++t:=by
 subst hi;rw[List.set_append_right _ _ (Nat.le_refl _)];simp
theorem db_{l:List Nat}{i x:Nat}(h:l[i]?=some x):l.drop i=x::l.drop (i+1):=by
 rw[List.drop_eq_getElem_cons (List.getElem?_eq_some_iff.1 h).1,(List.getElem?_eq_some_iff.1 h).2]
end Go.Abs
