/- Part V08 of the proof. -/
import Derived.Test.YtkbjakfniejkcaaGreatDoorV07
set_option linter.all false
namespace Go.Abs
open Go.RowKit
structure MapTab where
 T:Nat
 kd:IntKind
 mi:Nat
 tm:Nat
 tab:List (Nat×Int×Nat×Nat)
 cp:List (Nat×Nat)
def isMapOp(o:Oper):Bool:=match o.op with| .makeMap .. =>true| .insert .. =>true|_=>false
def clsB(ops:Array Oper)(m:MapTab)(j:Nat)(o:Oper):Bool:=
 cond (Nat.beq j m.mi) (match o.op,o.dst,o.guard with| .makeMap T none,some d,none=>Nat.beq T m.T && Nat.beq d m.tm|_,_,_=>false)
 (match m.tab.find? fun q=>Nat.beq q.1 j with
 |some q=>(match o.op,o.dst,o.guard with| .insert T (.tmp t) (.const (.int kd k)) (.tmp s),none,none=>Nat.beq T m.T && Nat.beq t m.tm && decide (kd=m.kd) && decide (k=q.2.1) && Nat.beq s q.2.2.1 && og ops m.mi j && og ops q.2.2.2 j|_,_,_=>false)
 |none=>match m.cp.find? fun c=>Nat.beq c.1 j with
  |some c=>(match o.op,o.dst,o.guard with| .move (.tmp s),some d,none=>Nat.beq d c.2 && og ops m.mi j && (Nat.beq s m.tm||m.cp.any fun e=>Nat.beq e.2 s && og ops e.1 j)| .assign (.tmp s),some d,none=>Nat.beq d c.2 && og ops m.mi j && (Nat.beq s m.tm||m.cp.any fun e=>Nat.beq e.2 s && og ops e.1 j)|_,_,_=>false)
  |none=>!isMapOp o && (match o.dst with|none=>true|some d=>!Nat.beq d m.tm && (m.cp.all fun c=>!Nat.beq c.2 d) && m.tab.all fun q=>!Nat.beq q.2.2.1 d||Nat.beq q.2.2.2 j))
def wG(ops:Array Oper)(m:MapTab):Bool:=
 (ops.toList.zipIdx.all fun p=>clsB ops m p.2 p.1) && (m.tab.all fun q=>!Nat.beq q.2.2.1 m.tm && m.cp.all fun c=>!Nat.beq c.2 q.2.2.1) && (m.cp.all fun c=>!Nat.beq c.2 m.tm) && decide ((m.cp.map (·.2)).Nodup) && decide ((m.tab.map (·.2.1)).Nodup) && decide ((m.tab.map (·.1)).Nodup)
def Gv(m:MapTab)(j:Nat):Option (Int×Nat):=(m.tab.find? fun q=>Nat.beq q.1 j).map fun q=>(q.2.1,q.2.2.1)
structure XM (m:MapTab)(M00:Nat->Prop)(w00:Base)(σ:Ln)(M0:Nat->Prop)(w0:Base)(a:Act)(w:World):Prop where
 kept:w00.Kept w
 m00:∀b,M00 b->w00.K b/\b≠GT
 pin:w0.pin=w00.pin
 dep:∀q∈m.tab,q.1∈σ->m.mi∈σ/\q.2.2.2∈σ
 dep2:∀c∈m.cp,c.1∈σ->m.mi∈σ
 no:m.mi∉σ->(∀b,M0 b↔M00 b)/\(∀b,w0.K b↔w00.K b)
 yes:m.mi∈σ->∃r ens ck,a.tmps.getD m.tm undef= .map (some r)/\w.heap[r]?=some (.map ens ck)/\w00.w.heap.size<=r/\(∀b,M0 b↔M00 b\/b=r)/\(∀b,w0.K b↔w00.K b\/b=r)/\
  (ens.toList.map fun e=>(e.key,e.val))=(σ.filterMap (Gv m)).map (fun q=>(Value.int m.kd q.1,a.tmps.getD q.2 undef))/\∀c∈m.cp,c.1∈σ->a.tmps.getD c.2 undef= .map (some r)
theorem qf{a:Act}{d t:Nat}{y:Value}(h:t≠d):(a.put (some d) y).tmps.getD t undef=a.tmps.getD t undef:=by
 simp only[Act.put,Array.getD_eq_getD_getElem?];grind
theorem uW{a:Act}{d:Nat}{y:Value}(h:d< a.tmps.size):(a.put (some d) y).tmps.getD d undef=y:=by
 simp[Act.put,h]
theorem E7{a b:Nat}(h:(!Nat.beq a b)=true):a≠b:=Gn h
theorem xg{a b:Nat}(h:Nat.beq a b=true):a=b:=by simp_all
section
variable {P:Program}{ops:Array Oper}{m:MapTab}{j:Nat}{o:Oper}
theorem chk_cls(h:wG ops m=true)(ho:ops[j]?=some o):clsB ops m j o=true:=by
 unfold wG at h;simp only[Bool.and_eq_true,List.all_eq_true] at h;exact h.1.1.1.1.1 (o,j) (by grind)
theorem chk_tab(h:wG ops m=true){q:Nat×Int×Nat×Nat}(hq:q∈m.tab):q.2.2.1≠m.tm/\∀c∈m.cp,c.2≠q.2.2.1:=by
 unfold wG at h;simp only[Bool.and_eq_true,List.all_eq_true] at h;have:=h.1.1.1.1.2 q hq;exact⟨E7 this.1,fun c a=>E7 (this.2 c a)⟩
theorem chk_cp(h:wG ops m=true){c:Nat×Nat}(hc:c∈m.cp):c.2≠m.tm:=by
 unfold wG at h;simp only[Bool.and_eq_true,List.all_eq_true] at h;exact E7 (h.1.1.1.2 c hc)
theorem rU{α γ:Type}{f:α->γ}:∀{l:List α},(l.map f).Nodup->∀{x y:α},x∈l->y∈l->f x=f y->x=y
 |[],_,_,_,hx,_,_=>by grind
 |a::l,h,x,y,hx,hy,e=>by
  rw[List.map_cons,List.nodup_cons] at h;rcases List.mem_cons.1 hx with h1|h1 <;> rcases List.mem_cons.1 hy with b|b
  rw[h1,b];rw[h1] at e;exact absurd (e▸List.mem_map_of_mem (f:=f) b) h.1;rw[b] at e;exact absurd (e▸List.mem_map_of_mem (f:=f) h1) h.1;exact rU h.2 h1 b e
theorem chk_nd(h:wG ops m=true):(m.cp.map (·.2)).Nodup/\(m.tab.map (·.2.1)).Nodup/\(m.tab.map (·.1)).Nodup:=by
 unfold wG at h;grind
theorem Gu{j:Nat}{q:Int×Nat}(h:Gv m j=some q):∃x∈m.tab,x.1=j/\q=(x.2.1,x.2.2.1):=by
 obtain⟨x,a,rfl⟩:=Option.map_eq_some_iff.1 h;exact⟨x,List.mem_of_find?_eq_some a,xg (by grind),rfl⟩
theorem xq{j:Nat}(h:∀x∈m.tab,x.1≠j):Gv m j=none:=by
 unfold Gv;rw[List.find?_eq_none.2 fun x a hb=>h x a (xg (by grind))];rfl
end
section
variable {P:Program}{ops:Array Oper}{m:MapTab}{j n nx:Nat}{o:Oper}{M00 M0:Nat->Prop}{w00 w0:Base}{σ:Ln}{β β':Bq}{hp hp':Hq}{a:Act}{w w':World}{u:Upd}{y:Value}
theorem jX{i:Nat}(h:i∈σ++[j])(hne:i≠j):i∈σ:=by grind
theorem XM.make(hc:wG ops m=true)(ho:ops[m.mi]?=some o)(hop:o.op= .makeMap m.T none)(hdst:o.dst=some m.tm)(hn:m.tm< a.tmps.size)(hj:m.mi∉σ)(hti:∀q∈m.tab,q.1≠m.mi)(htc:∀c∈m.cp,c.1≠m.mi)(hX:XM m M00 w00 σ M0 w0 a w)(mem:Mem M0 w0 β hp w):
    ∃y w' M0' w0',((execOp a.eval o).run P w= .ok (.value y) w')/\Mem M0' w0' β hp w'/\w0'.gh=w0.gh/\RV (MM M0' β hp) β w' .any y/\StabC (MM M0 β hp) (MM M0' β hp) β β w w'/\(∀ds,DefOK ds w0 w->DefOK ds w0' w')/\
     XM m M00 w00 (σ++[m.mi]) M0' w0' (a.put o.dst y) w':=by
 obtain⟨J,z⟩:=hX.no hj;obtain⟨w',g⟩:∃w',w'=w.alloc (.map #[] 0):=⟨_,rfl⟩;have d:∀b,b< w.heap.size->w'.heap[b]?=w.heap[b]?:=fun b hb=>by rw[g];exact Below.heap_alloc _ _ _ hb
 have n:w'.heap[w.heap.size]?=some (.map #[] 0):=by rw[g];exact heap_alloc_new' _ _
 have F:w'.heap.size=w.heap.size+1:=by simp_all
 have E:∀b,w0.K b->b< w.heap.size:=fun b hb=>Nat.lt_of_lt_of_le (w0.lt b hb) mem.below.size
 let M0':Nat->Prop:=fun b=>M0 b\/b=w.heap.size
 let w0':Base:=⟨w',fun b=>w0.K b\/b=w.heap.size,fun b hb=>by grind,w0.pin,w0.gh,.inl w0.kt,mem.tab.congr (d GT mem.tab.lt)⟩
 have st:StabC (MM M0 β hp) (MM M0' β hp) β β w w':=by
  refine⟨fun b N hb _=>d b (cg hb),fun b N hb r=>?_,fun _ _ h=>h,fun b N hb=>(eE (d b (cg hb))).trans hb⟩;rcases r with(r|rfl)|r
  exact .inl r;have:=cg hb;omega;exact .inr r
 refine⟨.map (some w.heap.size),w',M0',w0',?_,⟨⟨rfl,rfl,rfl,Nat.le_refl _,fun _ _=>rfl,fun _ _ h=>h⟩,fun b hb=>⟨hb.imp (fun h=>(mem.m0 b h).1) id,fun e=>by
  rcases hb with hb|hb
  exact(mem.m0 b hb).2 e;have:=mem.tab.lt;omega⟩,fun i b s f=>⟨fun l=>?_,?_⟩,mem.pin,fun i B f=>?_,mem.inj⟩,rfl,trivial,st,fun ds v=>?_,?_⟩
 rw[g];simp[execOp,hop,Instr.makeMap];rcases l with l|rfl
 exact(mem.rng i b s f).1 l;have:=(mem.rng i _ s f).2;omega;have:=(mem.rng i b s f).2;omega;obtain⟨b,e1,e2⟩:=mem.blk i B f;exact⟨b,e1,e2.stab st (d b (mem.rng i b _ e1).2)⟩;obtain⟨H,d1,d2,A⟩:=v;refine⟨H,d1,d2,fun D C=>?_⟩;obtain⟨e1,e2⟩:=A D C;have u:=(Array.getElem?_eq_some_iff.1 e1).1;refine⟨by rw[d D u];exact e1,fun l=>?_⟩;rcases l with l|rfl
 exact e2 l;omega;have p:∀q∈m.tab,q.1∉σ++[m.mi]:=fun q t f=>hj (hX.dep q t (jX f (hti q t))).1;refine⟨⟨by rw[g];exact hX.kept.os,by rw[g];exact hX.kept.tape,by rw[g];exact hX.kept.output,by have:=hX.kept.size;omega,fun b hb=>(d b (E b ((z b).2 hb))).trans (hX.kept.block b hb),fun b k hb=>st.sz b k (hX.kept.sizes b k hb)⟩,hX.m00,hX.pin,fun q t f=>absurd f (p q t),fun c j f=>List.mem_append_left _ (hX.dep2 c j (jX f (htc c j))),fun hn=>absurd (by simp) hn,fun _=>⟨w.heap.size, #[],0,?_,n,hX.kept.size,fun b=>or_congr (J b) Iff.rfl,fun b=>or_congr (z b) Iff.rfl,?_,fun c j f=>absurd (hX.dep2 c j (jX f (htc c j))) hj⟩⟩;rw[hdst];exact uW hn
 have:(σ++[m.mi]).filterMap (Gv m)=[]:=by
  rw[List.filterMap_eq_nil_iff];intro i f;exact xq fun x G e=>p x G (e▸f)
 grind
theorem XM.copy (hc:wG ops m=true) {d s:Nat} (hcp:(j,d)∈m.cp) (hop:o.op= .move (.tmp s)\/o.op= .assign (.tmp s)) (hdst:o.dst=some d) (hn:d< a.tmps.size) (hj:j∉σ) (hmi:m.mi∈σ) (hs:s=m.tm\/∃c∈m.cp,c.2=s/\c.1∈σ) (hmq:j≠m.mi) (hti:∀q∈m.tab,q.1≠j) (hcd:(m.cp.map (·.1)).Nodup)
    (hX:XM m M00 w00 σ M0 w0 a w):∃y,((execOp a.eval o).run P w= .ok (.value y) w)/\XM m M00 w00 (σ++[j]) M0 w0 (a.put o.dst y) w:=by
 obtain⟨r,n,C,p,G,A,J,B,D,z⟩:=hX.yes hmi
 have f:a.eval (.tmp s)= .map (some r):=by
  rcases hs with rfl|⟨c,t,rfl,E⟩
  exact p;exact z c t E
 refine⟨.map (some r),?_,hX.kept,hX.m00,hX.pin,fun q g h=>?_,fun c b h=>List.mem_append_left _ hmi,fun hn=>absurd (List.mem_append_left _ hmi) hn,fun _=>?_⟩;rcases hop with hop|hop <;> simp[execOp,hop,f]
 obtain⟨H,F⟩:=hX.dep q g (jX h (hti q g));exact⟨List.mem_append_left _ H,List.mem_append_left _ F⟩;refine⟨r,n,C,?_,G,A,J,B,?_,fun c b h=>?_⟩;rw[hdst,qf (Ne.symm (chk_cp hc hcp))];exact p;rw[List.filterMap_append,show [j].filterMap (Gv m)=[] by simp[xq hti],List.append_nil,D];refine List.map_congr_left fun q g=>?_;obtain⟨i,h,l⟩:=List.mem_filterMap.1 g;obtain⟨x,k,u,rfl⟩:=Gu l;rw[hdst,qf (Ne.symm ((chk_tab hc k).2 (j,d) hcp))];by_cases hcj:c=(j,d);subst hcj;rw[hdst];exact uW hn;have t:c.1≠j:=fun e=>hcj (rU hcd b hcp e);have v:c.2≠d:=fun e=>hcj (rU (chk_nd hc).1 b hcp e);rw[hdst,qf v];grind
end
def RunX(P:Program)(ops:Array Oper)(sp:Nat->Bool)(nx:Nat):Nat->List Oper->AState->List (Upd×Ln)->AState->Prop
 |_,[],st,us,st'=>us=[]/\st'=st
 |j,o::rest,st,us,st'=> ∃u rd us',us=(u,rd)::us'/\(sp j=true->u=⟨.any,[]⟩/\rd=[])/\(sp j=false->AStep P ops (nx+j) (look st.fr) (ap st.hp) o u rd)/\(∀d,o.dst=some d->d< st.n)/\RunX P ops sp nx (j+1) rest (st.step o.dst u) us' st'
def AX(P:Program)(ops:Array Oper)(sp:Nat->Bool)(nx n j:Nat)(rest:List Oper)(fr:Fr)(hp:Hp)(K:Fps->Fr->Hp->Prop):Prop:=
 ∃us st',RunX P ops sp nx j rest ⟨fr,hp,nx,n⟩ us st'/\K (us.map fp) st'.fr st'.hp
section
variable {P:Program}{ops:Array Oper}{spf:Nat->Bool}{nx n j:Nat}{rest:List Oper}{fr:Fr}{hp:Hp}{K:Fps->Fr->Hp->Prop}
variable {d:Nat}{op:Op}{ty:Nat}{pos:String}{after:Array Edge}{a:AV}{p q:Nat×Option ABlk}{rd:Ln}
theorem AX.nil(h:K [] fr hp):AX P ops spf nx n j [] fr hp K:=⟨[],_,⟨rfl,rfl⟩,h⟩
theorem AX.cons {dst:Option Nat} {guard:Option (Nat×Bool)} {u:Upd} {rd:Ln}
    (hs1:spf j=true->u=⟨.any,[]⟩/\rd=[]) (hs2:spf j=false->AStep P ops (nx+j) (look fr) (ap hp) ⟨dst,op,ty,pos,after,guard⟩ u rd) (hd:(match dst with|some d=>Nat.blt d n|none=>true)=true)
    (h:AX P ops spf nx n (j+1) rest (Ih fr dst u.val) (u.blk.reverse++hp) fun fps f h=>K ((u.blk.map (·.1),rd)::fps) f h):AX P ops spf nx n j (⟨dst,op,ty,pos,after,guard⟩::rest) fr hp K:=by
 obtain⟨us,b,e,c⟩:=h;refine⟨(u,rd)::us,b,⟨u,rd,us,rfl,hs1,hs2,fun d a=>?_,e⟩,c⟩;subst a;simp_all
theorem AX.op0 (hs:AEval P (nx+j) (evF (look fr)) (ap hp) op ⟨a,[]⟩ rd) (hnd:b8 op=true) (hd:Nat.blt d n=true)
    (h:AX P ops spf nx n (j+1) rest ((d,a)::fr) hp fun fps f h=>K (([],rd)::fps) f h) (hsp:spf j=false:=by rfl):AX P ops spf nx n j (⟨some d,op,ty,pos,after,none⟩::rest) fr hp K:=
 AX.cons (fun e=>by grind) (fun _=>⟨bJ hnd,hs⟩) hd h
theorem AX.op1 (hs:AEval P (nx+j) (evF (look fr)) (ap hp) op ⟨a,[p]⟩ rd) (hnd:b8 op=true) (hd:Nat.blt d n=true)
    (h:AX P ops spf nx n (j+1) rest ((d,a)::fr) (p::hp) fun fps f h=>K (([p.1],rd)::fps) f h) (hsp:spf j=false:=by rfl):AX P ops spf nx n j (⟨some d,op,ty,pos,after,none⟩::rest) fr hp K:=
 AX.cons (fun e=>by grind) (fun _=>⟨bJ hnd,hs⟩) hd h
theorem AX.sp(hd:Nat.blt d n=true)(hsp:spf j=true)(h:AX P ops spf nx n (j+1) rest ((d,.any)::fr) hp fun fps f h=>K (([],[])::fps) f h):AX P ops spf nx n j (⟨some d,op,ty,pos,after,none⟩::rest) fr hp K:=
 AX.cons (u:=⟨.any,[]⟩) (rd:=[]) (fun _=>⟨rfl,rfl⟩) (fun e=>by rw[hsp] at e;cases e) hd h
end
def CvS(fr:Fr)(hp:Hp):List (Nat×Int×Nat×Nat)->La->Prop
 |[],vs=>vs=[]
 |q::l,vs=> ∃x v vs',vs=v::vs'/\look fr q.2.2.1=some x/\Cv (Ren.id 0) (ap hp) (fun _=>none) x v/\CvS fr hp l vs'
theorem CvS.nil{fr:Fr}{hp:Hp}:CvS fr hp [] []:=rfl
theorem CvS.cons{fr:Fr}{hp:Hp}{q:Nat×Int×Nat×Nat}{l:List (Nat×Int×Nat×Nat)}{x v:AV}{vs:La}(h1:look fr q.2.2.1=some x)(h2:Cv (Ren.id 0) (ap hp) (fun _=>none) x v)(h3:CvS fr hp l vs):CvS fr hp (q::l) (v::vs):=⟨x,v,vs,rfl,h1,h2,h3⟩
section
variable {P:Program}{ops:Array Oper}{m:MapTab}{j:Nat}{o:Oper}
end
def idAt2(fr:Fr)(t:Nat):Nat:=cond (Nat.blt t 100000) (idAt fr t) (t- 100000)
def j4(fr:Fr)(l:List (Nat×Nat))(n:Nat):Ren:=⟨n,fun i=>match look l i with|some t=>idAt2 fr t|none=>i⟩
theorem SEnt.to2 {fr fr':Fr} {hp hp':Hp} {nx nx' n:Nat} (l:List (Nat×Nat)) (hk:Nat.blt 0 nx'=true) (h0:(j4 fr l nx').s 0=0) (hinj:nT (j4 fr l nx') (hp'.map (·.1))=true) (hS:ShrL (j4 fr l nx') (ap hp) hp')
    (hF:Shr (j4 fr l nx') (ap hp) (ap hp')->CvF (j4 fr l nx') (ap hp) (ap hp') fr fr')
    (hH:Shr (j4 fr l nx') (ap hp) (ap hp')->CvH (j4 fr l nx') (ap hp) (ap hp') hp'):SEnt ⟨fr,hp,nx,n⟩ ⟨fr',hp',nx',n⟩:=
 SEnt.intro (st:=⟨fr,hp,nx,n⟩) (st':=⟨fr',hp',nx',n⟩) (j4 fr l nx') rfl (Nat.le_of_ble_eq_true hk) h0 hinj rfl (hF hS.shr) (hH hS.shr)
theorem SEntT.to2 {fr fr':Fr} {hp hp':Hp} {nx nx' n:Nat} (l:List (Nat×Nat)) (hk:Nat.blt 0 nx'=true) (h0:(j4 fr l nx').s 0=0) (hinj:nT (j4 fr l nx') (hp'.map (·.1))=true) (hS:ShrL (j4 fr l nx') (ap hp) hp')
    (hF:Shr (j4 fr l nx') (ap hp) (ap hp')->CvF (j4 fr l nx') (ap hp) (ap hp') fr fr')
    (hH:Shr (j4 fr l nx') (ap hp) (ap hp')->CvH (j4 fr l nx') (ap hp) (ap hp') hp'):SEntT ⟨fr,hp,nx,n⟩ ⟨fr',hp',nx',n⟩:=
 SEntT.intro (st:=⟨fr,hp,nx,n⟩) (st':=⟨fr',hp',nx',n⟩) (j4 fr l nx') rfl (Nat.le_of_ble_eq_true hk) h0 hinj rfl (hF hS.shr) (hH hS.shr)
section
variable {r:Ren}{hp hp':Hq}{i i' j j':Nat}{s:List UInt8}
theorem CvLL.bld(hi:Nat.blt i' r.n=true)(hs:r.s i'=i)(hl:(hp' i').isSome=true)(hj:Nat.blt j' r.n=true)(hs2:r.s j'=j)(hl2:(hp' j').isSome=true):CvLL r hp hp' [eK i j (some s)] [eK i' j' (some s)]:=
 aD (ah (Cv.ptr hi hs hl) (ah (Cv.sl hj hs2 hl2) av))
theorem CvLL.bld0(h:Shr r hp hp'):CvLL r hp hp' [eK i j none] [eK i' j' none]:=
 aD (ah (an h (ag _)) (ah (an h dl) av))
end
end Go.Abs
namespace Go.Abs
section
variable {p:Prop}
theorem aX(h:p:=by first|exact an hs (ag _)|exact Cv.ptr rfl rfl rfl|exact Cv.sl rfl rfl rfl|exact Cv.slN rfl rfl rfl|exact an hs dl|(refine an hs ?_;first|assumption|exact da _|exact ce _|exact ag _|exact dl|exact aB _|exact eX _|exact oY _|exact c7 _|exact aS _|exact closed_mA _|exact b5 _ _|exact aR af af|exact dc _|exact cN _|exact oZ _|exact fv _|exact dB _ _|exact dN _ _|exact closed_bF|exact lP _|exact fj _|(refine aR af ?_;first|assumption|exact ac (dc _) af|exact ac (cN _) af|exact ac (dN _ _) af))|(refine Cv.boxp hs rfl (aT rfl) rfl ?_;first|exact bC _|exact aZ _ _|exact ga _|exact gd _|(refine ac ?_ af;first|assumption|exact da _|exact ce _|exact ag _|exact dl|exact aB _|exact eX _|exact oY _|exact c7 _|exact aS _|exact closed_mA _|exact b5 _ _|exact aR af af|exact dc _|exact cN _|exact oZ _|exact fv _|exact dB _ _|exact dN _ _|exact closed_bF|exact lP _|exact fj _|(refine aR af ?_;first|assumption|exact ac (dc _) af|exact ac (cN _) af|exact ac (dN _ _) af)))|(refine Cv.loE hs ?_ (ag _);first|rfl|(simp[i64,u64,u32,bln];done)|(simp[i64,u64,u32,bln]<;> omega))|(refine Cv.slE rfl rfl rfl ?_ ?_ ?_ <;> first|rfl|omega|(congr 1;omega)|(simp;done)|(simp <;> omega))|exact Cv.emp _):p:=h
theorem bZ(h:p:=by(first|(first|exact CvLL.bld rfl rfl rfl rfl rfl rfl|exact CvLL.bld0 hs|exact bm hs (x7 _)|exact bm hs (b6 _)|(refine aI hs ?_ (b6 _);first|(simp[iz,lN,iA];done)|(simp[dE,u32,ofV];done))|exact bm hs (aJ _)|exact bm hs (dK _)|(refine aI hs ?_ (dK _);first|(simp[pt,oK,jI];done)|(simp[iE,i64,ofV];done))|(refine aI hs ?_ (aJ _);first|(simp[jy,lh];done)|(simp[pE,ofV];done))|(refine aD ?_;repeat' (first|exact av|exact CvL.clo hs (bC _)|refine ah ?_ ?_))))<;> exact aX):p:=h
theorem Af(h:p:=by repeat' (first|exact ShrL.nil|refine ShrL.cons rfl rfl rfl rfl (by first|rfl|(simp;done)|(simp <;> omega)) ?_)):p:=h
theorem ek(h:p:=by repeat' (first|exact aP|refine ay rfl ?_ ?_|exact aX)):p:=h
theorem lV(h:p:=by repeat' (first|exact aE|refine lZ rfl rfl rfl rfl ?_ ?_|exact bZ)):p:=h
section
variable {P:Program}{ops:Array Oper}{nx n j:Nat}{rest:List Oper}{fr:Fr}{hp:Hp}{K:Fps->Fr->Hp->Prop}
variable {d:Nat}{op:Op}{ty:Nat}{pos:String}{after:Array Edge}{a:AV}{p q s:Nat×Option ABlk}{rd:Ln}
theorem o_0(hs:AEval P (nx+j) (evF (look fr)) (ap hp) op ⟨a,[]⟩ rd)(h:AR P ops nx n (j+1) rest ((d,a)::fr) hp fun fps f h=>K (([],rd)::fps) f h)(hnd:b8 op=true:=by exact rfl)(hd:Nat.blt d n=true:=by exact rfl):AR P ops nx n j (⟨some d,op,ty,pos,after,none⟩::rest) fr hp K:=aY hs hnd hd h
theorem o_1(hs:AEval P (nx+j) (evF (look fr)) (ap hp) op ⟨a,[p]⟩ rd)(h:AR P ops nx n (j+1) rest ((d,a)::fr) (p::hp) fun fps f h=>K (([p.1],rd)::fps) f h)(hnd:b8 op=true:=by exact rfl)(hd:Nat.blt d n=true:=by exact rfl):AR P ops nx n j (⟨some d,op,ty,pos,after,none⟩::rest) fr hp K:=AR.op1 hs hnd hd h
theorem o_2(hs:AEval P (nx+j) (evF (look fr)) (ap hp) op ⟨a,[p,q]⟩ rd)(h:AR P ops nx n (j+1) rest ((d,a)::fr) (q::p::hp) fun fps f h=>K (([p.1,q.1],rd)::fps) f h)(hnd:b8 op=true:=by exact rfl)(hd:Nat.blt d n=true:=by exact rfl):AR P ops nx n j (⟨some d,op,ty,pos,after,none⟩::rest) fr hp K:=AR.op2 hs hnd hd h
theorem o_3(hs:AEval P (nx+j) (evF (look fr)) (ap hp) op ⟨a,[p,q,s]⟩ rd)(h:AR P ops nx n (j+1) rest ((d,a)::fr) (s::q::p::hp) fun fps f h=>K (([p.1,q.1,s.1],rd)::fps) f h)(hnd:b8 op=true:=by exact rfl)(hd:Nat.blt d n=true:=by exact rfl):AR P ops nx n j (⟨some d,op,ty,pos,after,none⟩::rest) fr hp K:=AR.op3 hs hnd hd h
theorem eF(hs:AEval P (nx+j) (evF (look fr)) (ap hp) op ⟨a,[p]⟩ rd)(h:AR P ops nx n (j+1) rest fr (p::hp) fun fps f h=>K (([p.1],rd)::fps) f h)(hnd:b8 op=true:=by exact rfl):AR P ops nx n j (⟨none,op,ty,pos,after,none⟩::rest) fr hp K:=AR.op1n hs hnd h
theorem s_r{ρ:Option Nat}{Q:Exit->AState->Prop}{id:Nat}{y:Code}(m:Nat)(h:AR P ops nx n 0 ops.toList fr hp fun _ f h=>jd (AWp ρ P y Q) Q .normal ⟨f,h,nx+m,n⟩)(hsz:ops.size=m:=by exact rfl):AWp ρ P (.seq (.region id ops false) y) Q ⟨fr,hp,nx,n⟩:=ae (F4 hsz h)
end
theorem s_e {fr fr':Fr} {hp hp':Hp} {nx nx' n:Nat} (l:List (Nat×Nat)) (hS:ShrL (rnm fr l nx') (ap hp) hp':=by exact Af)
    (hF:Shr (rnm fr l nx') (ap hp) (ap hp')->CvF (rnm fr l nx') (ap hp) (ap hp') fr fr':=by exact fun hs=>ek)
    (hH:Shr (rnm fr l nx') (ap hp) (ap hp')->CvH (rnm fr l nx') (ap hp) (ap hp') hp':=by exact fun hs=>lV)
    (hk:Nat.blt 0 nx'=true:=by exact rfl) (h0:(rnm fr l nx').s 0=0:=by exact rfl) (hinj:nT (rnm fr l nx') (hp'.map (·.1))=true:=by exact rfl):SEnt ⟨fr,hp,nx,n⟩ ⟨fr',hp',nx',n⟩:=
 Aj l hk h0 hinj hS hF hH
end
section
variable {T yt:Nat}{x y:Operand}{p q:Prop}
class TZ (P:Program) (t:Nat) (v:outParam (List Value)):Prop where h:gj P t=some v
class TS (P:Program) (t:Nat) (v:outParam Nat):Prop where h:js P t=some v
class TG (P:Program) (t:Nat) (v:outParam Bool):Prop where h:fx P t=some v
class TB (P:Program) (t:Nat) (v:outParam Nat):Prop where h:tw P t=some v
class TE (P:Program) (t:Nat) (v:outParam (Nat×Nat)):Prop where h:eB P t=some v
class TU (P:Program) (t:Nat) (v:outParam TypeDesc):Prop where h:P.underlying t=some v
class TP (P:Program) (t:Nat) (v:outParam (List (Nat×Nat))):Prop where h:uX P t=some v
class TF (P:Program) (t i:Nat) (v:outParam (Nat×Nat)):Prop where h:ni P t i=some v
class TA (P:Program) (t i:Nat) (v:outParam Bool):Prop where h:n4 P t i=some v
structure Hid (q:Prop):Prop where h:q
section
variable {P:Program}{ops:Array Oper}{nx n j:Nat}{rest:List Oper}{fr:Fr}{hp:Hp}{K:Fps->Fr->Hp->Prop}{dst:Option Nat}{ty:Nat}{pos:String}{after:Array Edge}
theorem k_load(h:AR P ops nx n j (⟨dst,.load T x,ty,pos,after,none⟩::rest) fr hp K):AR P ops nx n j (⟨dst,.load T x,ty,pos,after,none⟩::rest) fr hp K:=h
theorem A9{f:Nat}(h:AR P ops nx n j (⟨dst,.fieldAddr T x f,ty,pos,after,none⟩::rest) fr hp K):AR P ops nx n j (⟨dst,.fieldAddr T x f,ty,pos,after,none⟩::rest) fr hp K:=h
theorem IK{b:BinOp}(h:AR P ops nx n j (⟨dst,.binOp b T x y yt,ty,pos,after,none⟩::rest) fr hp K):AR P ops nx n j (⟨dst,.binOp b T x y yt,ty,pos,after,none⟩::rest) fr hp K:=h
theorem k_call{c:Call}(h:AR P ops nx n j (⟨dst,.call c,ty,pos,after,none⟩::rest) fr hp K):AR P ops nx n j (⟨dst,.call c,ty,pos,after,none⟩::rest) fr hp K:=h
theorem k_move(h:AR P ops nx n j (⟨dst,.move x,ty,pos,after,none⟩::rest) fr hp K):AR P ops nx n j (⟨dst,.move x,ty,pos,after,none⟩::rest) fr hp K:=h
theorem k_index(h:AR P ops nx n j (⟨dst,.indexAddr T x y,ty,pos,after,none⟩::rest) fr hp K):AR P ops nx n j (⟨dst,.indexAddr T x y,ty,pos,after,none⟩::rest) fr hp K:=h
theorem IL(h:AR P ops nx n j (⟨dst,.assign x,ty,pos,after,none⟩::rest) fr hp K):AR P ops nx n j (⟨dst,.assign x,ty,pos,after,none⟩::rest) fr hp K:=h
theorem k_store(h:AR P ops nx n j (⟨dst,.store T x y,ty,pos,after,none⟩::rest) fr hp K):AR P ops nx n j (⟨dst,.store T x y,ty,pos,after,none⟩::rest) fr hp K:=h
theorem Gr{i:Nat}(h:AR P ops nx n j (⟨dst,.extract x i,ty,pos,after,none⟩::rest) fr hp K):AR P ops nx n j (⟨dst,.extract x i,ty,pos,after,none⟩::rest) fr hp K:=h
theorem k_box(h:AR P ops nx n j (⟨dst,.box T x,ty,pos,after,none⟩::rest) fr hp K):AR P ops nx n j (⟨dst,.box T x,ty,pos,after,none⟩::rest) fr hp K:=h
theorem k_alloc(h:AR P ops nx n j (⟨dst,.alloc T,ty,pos,after,none⟩::rest) fr hp K):AR P ops nx n j (⟨dst,.alloc T,ty,pos,after,none⟩::rest) fr hp K:=h
theorem k_conv{S D:Nat}(h:AR P ops nx n j (⟨dst,.convert S D x,ty,pos,after,none⟩::rest) fr hp K):AR P ops nx n j (⟨dst,.convert S D x,ty,pos,after,none⟩::rest) fr hp K:=h
theorem k_field{f:Nat}(h:AR P ops nx n j (⟨dst,.field T x f,ty,pos,after,none⟩::rest) fr hp K):AR P ops nx n j (⟨dst,.field T x f,ty,pos,after,none⟩::rest) fr hp K:=h
theorem k_nilc(h:AR P ops nx n j (⟨dst,.nilCheck x,ty,pos,after,none⟩::rest) fr hp K):AR P ops nx n j (⟨dst,.nilCheck x,ty,pos,after,none⟩::rest) fr hp K:=h
theorem k_pick{z:Operand}(h:AR P ops nx n j (⟨dst,.pick x y z,ty,pos,after,none⟩::rest) fr hp K):AR P ops nx n j (⟨dst,.pick x y z,ty,pos,after,none⟩::rest) fr hp K:=h
theorem k_un{b:UnOp}(h:AR P ops nx n j (⟨dst,.unOp b T x,ty,pos,after,none⟩::rest) fr hp K):AR P ops nx n j (⟨dst,.unOp b T x,ty,pos,after,none⟩::rest) fr hp K:=h
theorem k_build{ps:Array (Nat×Operand)}(h:AR P ops nx n j (⟨dst,.build T ps,ty,pos,after,none⟩::rest) fr hp K):AR P ops nx n j (⟨dst,.build T ps,ty,pos,after,none⟩::rest) fr hp K:=h
theorem k_eql(h:AR P ops nx n j (⟨dst,.binOp .eql T x y yt,ty,pos,after,none⟩::rest) fr hp K):AR P ops nx n j (⟨dst,.binOp .eql T x y yt,ty,pos,after,none⟩::rest) fr hp K:=h
theorem k_neq(h:AR P ops nx n j (⟨dst,.binOp .neq T x y yt,ty,pos,after,none⟩::rest) fr hp K):AR P ops nx n j (⟨dst,.binOp .neq T x y yt,ty,pos,after,none⟩::rest) fr hp K:=h
theorem k_lss(h:AR P ops nx n j (⟨dst,.binOp .lss T x y yt,ty,pos,after,none⟩::rest) fr hp K):AR P ops nx n j (⟨dst,.binOp .lss T x y yt,ty,pos,after,none⟩::rest) fr hp K:=h
theorem k_leq(h:AR P ops nx n j (⟨dst,.binOp .leq T x y yt,ty,pos,after,none⟩::rest) fr hp K):AR P ops nx n j (⟨dst,.binOp .leq T x y yt,ty,pos,after,none⟩::rest) fr hp K:=h
theorem k_gtr(h:AR P ops nx n j (⟨dst,.binOp .gtr T x y yt,ty,pos,after,none⟩::rest) fr hp K):AR P ops nx n j (⟨dst,.binOp .gtr T x y yt,ty,pos,after,none⟩::rest) fr hp K:=h
theorem k_geq(h:AR P ops nx n j (⟨dst,.binOp .geq T x y yt,ty,pos,after,none⟩::rest) fr hp K):AR P ops nx n j (⟨dst,.binOp .geq T x y yt,ty,pos,after,none⟩::rest) fr hp K:=h
theorem k_add(h:AR P ops nx n j (⟨dst,.binOp .add T x y yt,ty,pos,after,none⟩::rest) fr hp K):AR P ops nx n j (⟨dst,.binOp .add T x y yt,ty,pos,after,none⟩::rest) fr hp K:=h
theorem k_sub(h:AR P ops nx n j (⟨dst,.binOp .sub T x y yt,ty,pos,after,none⟩::rest) fr hp K):AR P ops nx n j (⟨dst,.binOp .sub T x y yt,ty,pos,after,none⟩::rest) fr hp K:=h
theorem k_mul(h:AR P ops nx n j (⟨dst,.binOp .mul T x y yt,ty,pos,after,none⟩::rest) fr hp K):AR P ops nx n j (⟨dst,.binOp .mul T x y yt,ty,pos,after,none⟩::rest) fr hp K:=h
theorem k_quo(h:AR P ops nx n j (⟨dst,.binOp .quo T x y yt,ty,pos,after,none⟩::rest) fr hp K):AR P ops nx n j (⟨dst,.binOp .quo T x y yt,ty,pos,after,none⟩::rest) fr hp K:=h
theorem k_rem(h:AR P ops nx n j (⟨dst,.binOp .rem T x y yt,ty,pos,after,none⟩::rest) fr hp K):AR P ops nx n j (⟨dst,.binOp .rem T x y yt,ty,pos,after,none⟩::rest) fr hp K:=h
theorem k_len{aa:Array Operand}{tt:Array Nat}(h:AR P ops nx n j (⟨dst,.call ⟨.builtin .len,aa,tt⟩,ty,pos,after,none⟩::rest) fr hp K):AR P ops nx n j (⟨dst,.call ⟨.builtin .len,aa,tt⟩,ty,pos,after,none⟩::rest) fr hp K:=h
theorem IM{aa:Array Operand}{tt:Array Nat}(h:AR P ops nx n j (⟨dst,.call ⟨.builtin .append,aa,tt⟩,ty,pos,after,none⟩::rest) fr hp K):AR P ops nx n j (⟨dst,.call ⟨.builtin .append,aa,tt⟩,ty,pos,after,none⟩::rest) fr hp K:=h
end
section
variable {P:Program}{ops:Array Oper}{nx n j:Nat}{rest:List Oper}{fr:Fr}{hp:Hp}{K:Fps->Fr->Hp->Prop}{dst:Option Nat}{op:Op}{ty:Nat}{pos:String}{after:Array Edge}{g t d:Nat}{want b:Bool}
theorem g_y(ht:(ops[g]?).bind (·.dst)=some t)(hx:evF (look fr) (.tmp t)=some (.v (.bool want)))(h:AR P ops nx n j (⟨dst,op,ty,pos,after,none⟩::rest) fr hp K):AR P ops nx n j (⟨dst,op,ty,pos,after,some (g,want)⟩::rest) fr hp K:=by
 obtain⟨us,a,⟨u,rd,b,e,⟨i,f⟩,c,k⟩,d⟩:=h;exact⟨us,a,⟨u,rd,b,e,⟨i,t,.bool want,ht,hx,.inl ⟨rfl,f⟩⟩,c,k⟩,d⟩
theorem g_n(ht:(ops[g]?).bind (·.dst)=some t)(hx:evF (look fr) (.tmp t)=some (.v (.bool b)))(hb:(b==want)=false)(hnd:b8 op=true)(hd:Nat.blt d n=true)(h:AR P ops nx n (j+1) rest ((d,.v undef)::fr) hp fun fps f h=>K (([],[])::fps) f h):AR P ops nx n j (⟨some d,op,ty,pos,after,some (g,want)⟩::rest) fr hp K:=
 Ew ht hx (gn (by cases b <;> cases want <;> first|rfl|grind)) hnd hd h
theorem g_nn(ht:(ops[g]?).bind (·.dst)=some t)(hx:evF (look fr) (.tmp t)=some (.v (.bool b)))(hb:(b==want)=false)(hnd:b8 op=true)(h:AR P ops nx n (j+1) rest fr hp fun fps f h=>K (([],[])::fps) f h):AR P ops nx n j (⟨none,op,ty,pos,after,some (g,want)⟩::rest) fr hp K:=
 AR.opNn ht hx (gn (by cases b <;> cases want <;> first|rfl|grind)) hnd h
theorem vT{P:Program}{p:Bool}{f:Sem Value}(h:∀w,f.run P w= .ok (.bool p) w)(e:p=true):∀w,f.run P w= .ok (.bool true) w:=e▸h
theorem vF{P:Program}{p:Bool}{f:Sem Value}(h:∀w,f.run P w= .ok (.bool p) w)(e:p=false):∀w,f.run P w= .ok (.bool false) w:=e▸h
end
theorem a_1 (h:q) (f:Hid q->p:=by
 intro h0
 first
 |(apply k_load;first|exact o_0 (.load_l1 rfl rfl rfl TG.h rfl) h0.h|exact o_0 (.load_l rfl rfl rfl TG.h TS.h (nle rfl)) h0.h|exact o_0 (.load_a1 rfl rfl TG.h rfl) h0.h|exact o_0 (.load_a rfl rfl TG.h TS.h (nle rfl)) h0.h|exact o_0 (.load_l rfl rfl (by assumption) TG.h TS.h (by exact nle rfl)) h0.h|exact o_0 (.load_l1 rfl rfl (by assumption) TG.h (by exact rfl)) h0.h|exact o_0 (.load_a rfl (by assumption) TG.h TS.h (by exact nle rfl)) h0.h|exact o_0 (.load_a1 rfl (by assumption) TG.h (by exact rfl)) h0.h)
 |(apply k_move;exact o_0 (.move rfl) h0.h)
 |(apply A9;first|exact o_0 (.fieldAddr_l rfl TF.h (by decide)) h0.h|exact o_0 (.fieldAddr_a rfl TF.h (by decide)) h0.h)
 |(apply IK;first|(apply k_eql;first|exact o_0 (.bin rfl rfl cb) h0.h|exact o_0 (.bin rfl rfl (iD TU.h)) h0.h|exact o_0 (.bin rfl rfl Cc) h0.h|exact o_0 (.nilq_v rfl rfl TE.h) h0.h|exact o_0 (.nilq_arr rfl (by assumption) rfl TE.h) h0.h)|(apply k_neq;first|exact o_0 (.bin rfl rfl ct) h0.h|exact o_0 (.bin rfl rfl (ws TU.h)) h0.h|exact o_0 (.bin rfl rfl Ca) h0.h)|(apply k_lss;exact o_0 (.bin rfl rfl ej) h0.h)|(apply k_leq;exact o_0 (.bin rfl rfl iC) h0.h)|(apply k_gtr;exact o_0 (.bin rfl rfl kG) h0.h)|(apply k_geq;exact o_0 (.bin rfl rfl jq) h0.h)|(apply k_add;first|exact o_0 (.bin rfl rfl (Cn (by omega))) h0.h|exact o_0 (.bin rfl rfl (Kc (by omega))) h0.h|exact o_0 (.bin rfl rfl (Kg (by omega))) h0.h|exact o_0 (.bin rfl rfl (bU8_add (by omega))) h0.h)|(apply k_sub;first|exact o_0 (.bin rfl rfl (rv (by omega))) h0.h|exact o_0 (.bin rfl rfl (J9 (by omega))) h0.h|exact o_0 (.bin rfl rfl (Kd (by omega))) h0.h|exact o_0 (.bin rfl rfl (bU8_sub (by omega))) h0.h)|(apply k_mul;first|exact o_0 (.bin rfl rfl (wt (by omega))) h0.h|exact o_0 (.bin rfl rfl (Kb (by omega))) h0.h)|(apply k_quo;first|exact o_0 (.bin rfl rfl (Ki (by omega))) h0.h|exact o_0 (.bin rfl rfl (Cj (by omega))) h0.h|exact o_0 (.bin rfl rfl (Ck (by omega))) h0.h)|(apply k_rem;first|exact o_0 (.bin rfl rfl (Kh (by omega))) h0.h|exact o_0 (.bin rfl rfl (Ka (by omega))) h0.h|exact o_0 (.bin rfl rfl (Kf (by omega))) h0.h|exact o_0 (.bin rfl rfl (bU8_rem (by omega))) h0.h))
 |(apply k_call;first|(apply k_len;first|exact o_0 (.lenD rfl rfl rfl rfl TE.h) h0.h|exact o_0 (.lenI rfl rfl rfl rfl TE.h) h0.h|exact o_0 (.lenP rfl rfl rfl rfl TE.h) h0.h|exact o_0 (.lenC rfl rfl rfl rfl TE.h) h0.h|exact o_0 (.lenR rfl rfl rfl rfl TE.h) h0.h|exact o_0 (.len rfl rfl rfl rfl rfl TE.h) h0.h)|(apply IM;first|exact o_1 (.append_e rfl rfl rfl TE.h rfl rfl rfl (.lsl rfl (nle rfl)) (by first|assumption|(simp;done)) TZ.h rfl TB.h (by first|rfl|assumption|(simp;done)|(simp;omega)|omega) (by first|(simp[maxLen];done)|(simp[maxLen];omega))) h0.h|exact o_2 (.append_l rfl rfl rfl TE.h rfl rfl rfl rfl rfl (by first|rfl|assumption|(simp;done)|(simp;omega)|omega) (by first|exact dV _|exact dT _|exact dy _|exact dX _|exact dS _|rfl|simp) (by first|rfl|exact dV _|exact dT _|exact dy _|exact dX _|exact dS _|simp) rfl (.lsl rfl (nle rfl)) TZ.h rfl TB.h (by first|rfl|assumption|(simp;done)|(simp;omega)|omega) (by first|(simp[maxLen];done)|(simp[maxLen];omega))) h0.h)|exact o_0 (.builtinV (vs:=[_,_]) rfl rfl bmin) h0.h|exact o_0 (.builtinV (vs:=[_,_]) rfl rfl bmax) h0.h)
 |(apply k_index;first|exact o_0 (.index_l rfl rfl (by omega) (by omega) TE.h) h0.h|exact o_0 (.index_a rfl rfl (by omega) rfl rfl TE.h) h0.h|exact o_0 (.index_a rfl rfl (by omega) (by assumption) (by rfl) TE.h) h0.h)
 |(apply IL;exact o_0 (.assign rfl) h0.h)
 |(apply k_store;exact eF (.store rfl rfl rfl rfl rfl rfl TS.h (nle rfl)) h0.h)
 |(apply Gr;exact o_0 (.extract rfl rfl) h0.h)
 |(apply k_box;exact o_1 (.box rfl rfl) h0.h)
 |(apply k_alloc;exact o_1 (.alloc TZ.h) h0.h)
 |(apply k_conv;first|exact o_0 (.conv rfl (cI64 (by omega) TU.h TU.h)) h0.h|exact o_0 (.conv rfl (cU64 (by omega) TU.h TU.h)) h0.h|exact o_0 (.conv rfl (cU32 (by omega) TU.h TU.h)) h0.h|exact o_0 (.conv rfl (cU8 (by omega) TU.h TU.h)) h0.h)
 |(apply k_field;first|exact o_0 (.field1 rfl TF.h TA.h rfl) h0.h|exact o_0 (.field rfl TF.h TA.h (nle rfl)) h0.h)
 |(apply k_nilc;exact o_0 (.nilCheck rfl rfl) h0.h)
 |(apply k_pick;first|exact o_0 (.pick rfl (fun _=>rfl) (fun _=>rfl)) h0.h|exact o_0 (.pick rfl (fun _=>rfl) (fun h=>absurd h (by decide))) h0.h|exact o_0 (.pick rfl (fun h=>absurd h (by decide)) (fun _=>rfl)) h0.h)
 |(apply k_un;first|exact o_0 (.un rfl nr) h0.h|exact o_0 (.un rfl (Hy (by omega))) h0.h)
 |(apply k_build;exact o_0 (.build TZ.h TP.h rfl rfl) h0.h)
 |exact o_0 (.makeFunc rfl rfl) h0.h
 |exact o_1 (.buildSlice TE.h TZ.h rfl (by decide) rfl rfl rfl (by first|(simp;done)|(simp[cf,ofV];done)|rfl)) h0.h
 |exact o_1 (.makeSlice rfl rfl TE.h TZ.h rfl TB.h (by first|omega|(simp;done)|(simp;omega)) (by first|omega|(simp;done)|(simp;omega)) (by unfold maxLen;first|omega|(simp;done)|(simp;omega))) h0.h
 |exact o_0 (.lookup rfl rfl TU.h TU.h rfl rfl rfl) h0.h
 |exact g_y rfl rfl h0.h
 |exact g_n rfl rfl rfl rfl rfl h0.h
 |exact g_nn rfl rfl rfl rfl h0.h):p:=f ⟨h⟩
theorem a_2(h:q)(f:Hid q->p:=by intro h0;(iterate 2 (refine a_1 ?_));exact h0.h):p:=f ⟨h⟩
theorem a_3(h:q)(f:Hid q->p:=by intro h0;(iterate 3 (refine a_1 ?_));exact h0.h):p:=f ⟨h⟩
theorem a_4(h:q)(f:Hid q->p:=by intro h0;(iterate 4 (refine a_1 ?_));exact h0.h):p:=f ⟨h⟩
theorem a_5(h:q)(f:Hid q->p:=by intro h0;(iterate 5 (refine a_1 ?_));exact h0.h):p:=f ⟨h⟩
theorem a_6(h:q)(f:Hid q->p:=by intro h0;(iterate 6 (refine a_1 ?_));exact h0.h):p:=f ⟨h⟩
theorem a_7(h:q)(f:Hid q->p:=by intro h0;(iterate 7 (refine a_1 ?_));exact h0.h):p:=f ⟨h⟩
theorem a_8(h:q)(f:Hid q->p:=by intro h0;(iterate 8 (refine a_1 ?_));exact h0.h):p:=f ⟨h⟩
theorem a_z(h:q)(f:Hid q->p:=by intro h0;(repeat (refine a_1 ?_));exact aq h0.h):p:=f ⟨h⟩
theorem c_s{A:Prop}(c:A)(h:q)(f:A->Hid q->p:=by intro c0 h0;(repeat (refine a_1 ?_));first|exact aY (.call rfl rfl rfl c0) rfl rfl h0.h|exact AR.op0n (.call rfl rfl rfl c0) rfl h0.h):p:=f c ⟨h⟩
section
variable {P:Program}{ops:Array Oper}{nx n:Nat}{fr:Fr}{hp:Hp}
theorem r_z{ρ:Option Nat}{Q:Exit->AState->Prop}{id:Nat}{y:Code}(m:Nat)(h:q)(f:Hid q->AR P ops nx n 0 ops.toList fr hp fun _ f h=>jd (AWp ρ P y Q) Q .normal ⟨f,h,nx+m,n⟩:=by intro h0;(repeat (refine a_1 ?_));exact aq h0.h)(hsz:ops.size=m:=by exact rfl):AWp ρ P (.seq (.region id ops false) y) Q ⟨fr,hp,nx,n⟩:=s_r m (f ⟨h⟩) hsz
theorem r_c{A:Prop}(m:Nat)(c:A){ρ:Option Nat}{Q:Exit->AState->Prop}{id:Nat}{y:Code}(h:q)(f:A->Hid q->AR P ops nx n 0 ops.toList fr hp fun _ f h=>jd (AWp ρ P y Q) Q .normal ⟨f,h,nx+m,n⟩:=by intro c0 h0;(repeat (refine a_1 ?_));first|exact aY (.call rfl rfl rfl c0) rfl rfl h0.h|exact AR.op0n (.call rfl rfl rfl c0) rfl h0.h)(hsz:ops.size=m:=by exact rfl):AWp ρ P (.seq (.region id ops false) y) Q ⟨fr,hp,nx,n⟩:=s_r m (f c ⟨h⟩) hsz
end
end
section
variable {p q:Prop}
section
variable {P:Program}{ops:Array Oper}{nx n j:Nat}{rest:List Oper}{fr:Fr}{hp:Hp}{K:Fps->Fr->Hp->Prop}{dst:Option Nat}{op:Op}{ty:Nat}{pos:String}{after:Array Edge}{g t d:Nat}{want b:Bool}
theorem g_u(ht:(ops[g]?).bind (·.dst)=some t)(hx:evF (look fr) (.tmp t)=some (.v undef))(hnd:b8 op=true)(hd:Nat.blt d n=true)(h:AR P ops nx n (j+1) rest ((d,.v undef)::fr) hp fun fps f h=>K (([],[])::fps) f h):AR P ops nx n j (⟨some d,op,ty,pos,after,some (g,want)⟩::rest) fr hp K:=
 Ew ht hx nofun hnd hd h
end
theorem w_1 (h:q) (f:Hid q->p:=by
 intro h0
 first
 |(apply k_lss;first|exact o_0 (.bin rfl rfl (vT ej (decide_eq_true (by omega)))) h0.h|exact o_0 (.bin rfl rfl (vF ej (decide_eq_false (by omega)))) h0.h)
 |(apply k_gtr;first|exact o_0 (.bin rfl rfl (vT kG (decide_eq_true (by omega)))) h0.h|exact o_0 (.bin rfl rfl (vF kG (decide_eq_false (by omega)))) h0.h)
 |(apply k_leq;first|exact o_0 (.bin rfl rfl (vT iC (decide_eq_true (by omega)))) h0.h|exact o_0 (.bin rfl rfl (vF iC (decide_eq_false (by omega)))) h0.h)
 |(apply k_geq;first|exact o_0 (.bin rfl rfl (vT jq (decide_eq_true (by omega)))) h0.h|exact o_0 (.bin rfl rfl (vF jq (decide_eq_false (by omega)))) h0.h)
 |(apply k_eql;first|exact o_0 (.bin rfl rfl (vT cb (decide_eq_true (by omega)))) h0.h|exact o_0 (.bin rfl rfl (vF cb (decide_eq_false (by omega)))) h0.h)):p:=f ⟨h⟩
theorem m_1 (h:q) (f:Hid q->p:=by
 intro h0
 first
 |(apply IK;exact w_1 h0.h)
 |exact g_n rfl rfl rfl rfl rfl h0.h
 |exact g_nn rfl rfl rfl rfl h0.h
 |exact g_u rfl rfl rfl rfl h0.h
 |(refine g_y rfl rfl ?_;first|(apply IK;exact w_1 h0.h)|exact a_1 h0.h)
 |exact a_1 h0.h):p:=f ⟨h⟩
theorem d_2(h:q)(f:Hid q->p:=by intro h0;(iterate 2 (refine m_1 ?_));exact h0.h):p:=f ⟨h⟩
theorem d_3(h:q)(f:Hid q->p:=by intro h0;(iterate 3 (refine m_1 ?_));exact h0.h):p:=f ⟨h⟩
theorem d_4(h:q)(f:Hid q->p:=by intro h0;(iterate 4 (refine m_1 ?_));exact h0.h):p:=f ⟨h⟩
theorem d_5(h:q)(f:Hid q->p:=by intro h0;(iterate 5 (refine m_1 ?_));exact h0.h):p:=f ⟨h⟩
theorem d_6(h:q)(f:Hid q->p:=by intro h0;(iterate 6 (refine m_1 ?_));exact h0.h):p:=f ⟨h⟩
theorem d_7(h:q)(f:Hid q->p:=by intro h0;(iterate 7 (refine m_1 ?_));exact h0.h):p:=f ⟨h⟩
theorem d_8(h:q)(f:Hid q->p:=by intro h0;(iterate 8 (refine m_1 ?_));exact h0.h):p:=f ⟨h⟩
theorem d_z(h:q)(f:Hid q->p:=by intro h0;(repeat (refine m_1 ?_));exact aq h0.h):p:=f ⟨h⟩
theorem e_s{A:Prop}(c:A)(h:q)(f:A->Hid q->p:=by intro c0 h0;(repeat (refine m_1 ?_));first|exact aY (.call rfl rfl rfl c0) rfl rfl h0.h|exact g_y rfl rfl (aY (.call rfl rfl rfl c0) rfl rfl h0.h)|exact AR.op0n (.call rfl rfl rfl c0) rfl h0.h):p:=f c ⟨h⟩
section
variable {P:Program}{ops:Array Oper}{nx n:Nat}{fr:Fr}{hp:Hp}
theorem q_z{ρ:Option Nat}{Q:Exit->AState->Prop}{id:Nat}{y:Code}(m:Nat)(h:q)(f:Hid q->AR P ops nx n 0 ops.toList fr hp fun _ f h=>jd (AWp ρ P y Q) Q .normal ⟨f,h,nx+m,n⟩:=by intro h0;(repeat (refine m_1 ?_));exact aq h0.h)(hsz:ops.size=m:=by exact rfl):AWp ρ P (.seq (.region id ops false) y) Q ⟨fr,hp,nx,n⟩:=s_r m (f ⟨h⟩) hsz
theorem q_c{A:Prop}(m:Nat)(c:A){ρ:Option Nat}{Q:Exit->AState->Prop}{id:Nat}{y:Code}(h:q)(f:A->Hid q->AR P ops nx n 0 ops.toList fr hp fun _ f h=>jd (AWp ρ P y Q) Q .normal ⟨f,h,nx+m,n⟩:=by intro c0 h0;(repeat (refine m_1 ?_));first|exact aY (.call rfl rfl rfl c0) rfl rfl h0.h|exact g_y rfl rfl (aY (.call rfl rfl rfl c0) rfl rfl h0.h)|exact AR.op0n (.call rfl rfl rfl c0) rfl h0.h)(hsz:ops.size=m:=by exact rfl):AWp ρ P (.seq (.region id ops false) y) Q ⟨fr,hp,nx,n⟩:=s_r m (f c ⟨h⟩) hsz
end
end
end Go.Abs
