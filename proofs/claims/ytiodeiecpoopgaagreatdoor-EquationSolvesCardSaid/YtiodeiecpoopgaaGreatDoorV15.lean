/- Part V15. -/
import Derived.Test.YtiodeiecpoopgaaGreatDoorV14
set_option linter.all false
namespace Go.Abs
set_option maxRecDepth 20000
section
variable {R:Nat->List RQ}{m k n w:Nat}{s:Nat->Nat}
def rqL(R:Nat->List RQ)(m:Nat):List Lc:=(List.range m).map fun k=>rE (R k)
@[simp] theorem ot (R:Nat->List RQ)(m:Nat):(rqL R m).length=m:=by simp[rqL]
theorem EQ(h:k< m):(rqL R m)[k]?=some (rE (R k)):=by simp[rqL,h]
theorem CJ{e:Lc}(h:(rqL R m)[k]?=some e):k< m/\e=rE (R k):=by
 have a:=(List.getElem?_eq_some_iff.1 h).1;rw[ot] at a;rw[EQ a] at h;cases h;exact⟨a,rfl⟩
def rqO(R:Nat->List RQ)(s:Nat->Nat)(n m:Nat):Lc:=mzO 4 (fun k=>(R k).length) s m++List.replicate (n- m) [.emp]
theorem gH(h:m<=n):(rqO R s n m).length=n:=by simp[rqO];omega
theorem rqO_n(R:Nat->List RQ)(s:Nat->Nat)(n:Nat):rqO R s n n=mzO 4 (fun k=>(R k).length) s n:=by simp[rqO]
theorem mP(h:k< m)(hw:(R k).length=w):∀e,e=k->(rqO R s n m)[e]?=some [.lsl (s (k+2)) 0 w none 4]:=fun e a=>by
 subst a hw;unfold rqO;rw[List.getElem?_append_left (by simpa using h)];exact tA h
theorem CI(h:m<=k)(hk:k< n):∀e,e=k->(rqO R s n m)[e]?=some [.emp]:=fun e a=>by
 subst a;unfold rqO;rw[List.getElem?_append_right (by simpa using h),List.getElem?_replicate,if_pos (by simp only[lZ];omega)]
theorem tn(hm:m<=n)(hk:n<=k):(rqO R s n m)[k]?=none:=by
 rw[List.getElem?_eq_none];rw[gH hm];exact hk
theorem iA{R':Nat->List RQ}{s':Nat->Nat}(h:∀k,k< m->(R k).length=(R' k).length/\s (k+2)=s' (k+2)):rqO R s n m=rqO R' s' n m:=by
 unfold rqO mzO;congr 1
 exact List.map_congr_left fun k b=>by
  obtain⟨a,c⟩:=h k (List.mem_range.1 b);simp only[a,c]
def rqH(TS TQ:Nat)(R:Nat->List RQ)(n m:Nat)(ex:Hp):Hp:=mzX 4 TS TQ (rqO R (fun x=>x) n m) (rqL R m) ex
def upZ(R:Nat->List RQ)(k:Nat)(r:List RQ):Nat->List RQ:=fun i=>if i=k then r else R i
theorem ue(R:Nat->List RQ)(k:Nat)(r:List RQ):upZ R k r k=r:=if_pos rfl
theorem Cf(R:Nat->List RQ){i:Nat}(r:List RQ)(h:i≠k):upZ R k r i=R i:=if_neg h
section
variable {fr fr':Fr}{hp ex:Hp}{nx N TS TQ n m k:Nat}{R R':Nat->List RQ}
theorem ew(hid:∀p∈ex,35<=p.1/\p.1< 40)(hn:m<=30)(h:k< m):an (rqH TS TQ R n m ex) (k+2)=some ⟨TQ,4,rE (R k)⟩:=E5 hid (by omega) (EQ h)
theorem Aq(hid:∀p∈ex,35<=p.1/\p.1< 40)(hn:m<=30)(h:k< m):cZ (an (rqH TS TQ R n m ex)) (k+2)=some ⟨TQ,4,rE (R k)⟩:=dn (ew hid hn h) (show(4:Nat)≠0 by decide)
theorem ez(hid:∀p∈ex,35<=p.1/\p.1< 40):an (rqH TS TQ R n m ex) 1=some ⟨TS,1,rqO R (fun x=>x) n m⟩:=E6 hid
theorem rk(hid:∀p∈ex,35<=p.1/\p.1< 40):cZ (an (rqH TS TQ R n m ex)) 1=some ⟨TS,1,rqO R (fun x=>x) n m⟩:=dn (ez hid) (show(1:Nat)≠0 by decide)
theorem lb(h:∀k,k< m->R k=R' k):rqH TS TQ R n m ex=rqH TS TQ R' n m ex:=by
 unfold rqH;rw[iA (R':=R') (s':=fun x=>x) fun k a=>⟨by rw[h k a],rfl⟩,show rqL R m=rqL R' m from List.map_congr_left fun k a=>by rw[h k (List.mem_range.1 a)]]
theorem SEntT.rq (s:Nat->Nat) (hn:m<=30) (s0:s 0=0) (hmn:m<=n) (hinj:∀i j,InX m i->InX m j->s i=s j->i=j) (h1:an hp (s 1)=some ⟨TS,1,rqO R s n m⟩) (hr:∀i,i< m->an hp (s (i+2))=some ⟨TQ,4,rE (R i)⟩) (hid:∀p∈ex,35<=p.1/\p.1< 40)
    (hex:∀i B,(i,some B)∈ex->∃B0,an hp (s i)=some B0/\B0.ty=B.ty/\B0.sz=B.sz/\B0.es.length=B.es.length)
    (hE:Shr ⟨40,s⟩ (an hp) (an (rqH TS TQ R n m ex))->∀i B B0,(i,some B)∈ex->an hp (s i)=some B0->CvLL ⟨40,s⟩ (an hp) (an (rqH TS TQ R n m ex)) B0.es B.es)
    (hF:Shr ⟨40,s⟩ (an hp) (an (rqH TS TQ R n m ex))->CvF ⟨40,s⟩ (an hp) (an (rqH TS TQ R n m ex)) fr fr'):SEntT ⟨fr,hp,nx,N⟩ ⟨fr',rqH TS TQ R n m ex,40,N⟩:=
 SEntT.mzx s (by simpa using hn) s0 (by rw[ot];exact hinj) h1 (by rw[gH hmn,gH hmn]) (fun i e h=>by
  obtain⟨d,rfl⟩:=CJ h;exact⟨hr i d,cC _⟩) hid hex (fun hs=>wn (nB hn fun i f=>by
  show(an (rqH TS TQ R n m ex) (i+2)).isSome=true;rw[ew hid hn f];rfl) (aV hs fun e b c a=>by
  rw[(List.mem_replicate.1 b).2,List.mem_singleton] at a;rw[a];exact b9)) hE hF
end
theorem EP{m' new:Nat}{r:List RQ}(hk:k< n)(hm:m<=n)(hw:w=r.length)(h:(k< m/\m'=m)\/(k=m/\m'=m+1)):∀e:Nat,e=k->(rqO R (fun x=>x) n m).set e [.lsl new 0 w none 4]=rqO (upZ R k r) (fiR k new) n m':=fun e c=>by
 subst c hw;have b:m'<=n:=by omega
 refine List.ext_getElem? fun i=>?_;rw[List.getElem?_set,gH hm];split
 ·rename_i a;subst a
  rw[mP (R:=upZ R e r) (m:=m') (k:=e) (by omega) rfl e rfl,ue,jE]
  try rw[if_pos hk]
 ·rename_i a
  by_cases hi:i< m;rw[mP (k:=i) hi rfl i rfl,mP (k:=i) (by omega) rfl i rfl,Cf _ _ (fun e=>a e.symm),fg (fun e=>a e.symm)];by_cases hin:i< n;rw[CI (k:=i) (by omega) hin i rfl,CI (k:=i) (by omega) hin i rfl];rw[tn hm (by omega),tn b (by omega)]
theorem Ik{p:Nat}(hk:k< n)(hp:p< n)(hw:∀i,i< n->(R i).length=w):∀a b:Nat,a=p->b=k->((rqO R (fun x=>x) n n).set a [.lsl (k+2) 0 w none 4]).set b [.lsl (p+2) 0 w none 4]=rqO (fun i=>R (swx k p i)) (swx (k+2) (p+2)) n n:=fun a b ha hb=>by
 subst ha hb;have f:∀i,i< n->swx b a i< n:=fun i c=>by unfold swx;split;omega;split <;> omega
 refine List.ext_getElem? fun i=>?_;rw[List.getElem?_set,List.length_set,gH (Nat.le_refl _),List.getElem?_set,gH (Nat.le_refl _)];by_cases c:i< n;rw[mP (R:=fun i=>R (swx b a i)) c (hw _ (f i c)) i rfl];by_cases e:b=i;subst e;rw[if_pos rfl,HX]
 try rw[if_pos hk]
 rw[if_neg e];by_cases d:a=i;subst d;rw[if_pos rfl,HW]
 try rw[if_pos hp]
 rw[if_neg d,mP c (hw i c) i rfl,jp (by omega) (by omega)];have e:b≠i:=by omega
 have d:a≠i:=by omega
 rw[if_neg e,if_neg d,tn (Nat.le_refl _) (by omega),tn (Nat.le_refl _) (by omega)]
def qmE(R:Nat->List RQ)(n:Nat):Lc:=(List.range n).map fun k=>[.arr (rE (R k))]
@[simp] theorem qmE_length (R:Nat->List RQ)(n:Nat):(qmE R n).length=n:=by simp[qmE]
theorem qmE_get{i:Nat}(h:i< n):∀e,e=i->(qmE R n)[e]?=some [.arr (rE (R i))]:=fun e a=>by rw[a];simp[qmE,h]
theorem DX(R:Nat->List RQ)(n:Nat):Closed (.arr (qmE R n)):=aG fun e a c b=>by
 obtain⟨i,_,rfl⟩:=List.mem_map.1 a;rw[List.mem_singleton.1 b];exact aY _
theorem Cv_rqV{r:Ren}{hp:Hq}{cap:Option Nat}{TS TQ:Nat}(h1:hp 1=some ⟨TS,1,rqO R (fun x=>x) n n⟩)(hr:∀i,i< n->hp (i+2)=some ⟨TQ,4,rE (R i)⟩):Cv r hp (fun _=>none) (.lsl 1 0 n cap 1) (.arr (qmE R n)):=by
 have e:qmE R n=(((rqL R n).map fun e=>([.arr e]:La)).drop 0).take n:=by
  rw[List.drop_zero,List.take_of_length_le (by simp)];simp[qmE,rqL]
 rw[e];have b:(rqL R n).length=n:=ot R n;refine Cv.mzV (sz:=4) (TS:=TS) (TQ:=TQ) (w:=fun k=>(R k).length) (by decide) ?_ (fun i x a=>?_) (fun i x a=>by rw[(CJ a).2];simp) (fun x a y d c g=>?_) (by rw[b];omega);rw[h1,b,rqO_n];obtain⟨f,rfl⟩:=CJ a;exact hr i f;obtain⟨k,_,rfl⟩:=List.mem_map.1 a;exact cC _ y d c g
end
section
variable {A:Mx}{n i:Nat}{L:Ln}
def pk(A:Mx)(n:Nat)(L:Ln)(i:Nat):Lq:=aJ n fun j=>if (L.take i).contains j then A (L.idxOf j) n else 0
def pj(A:Mx)(n:Nat)(L:Ln):Lq:=aJ n (oneX A n L)
@[simp] theorem AE (A:Mx)(n:Nat)(L:Ln)(i:Nat):(pk A n L i).length=n:=by simp[pk]
@[simp] theorem oneL_length (A:Mx)(n:Nat)(L:Ln):(pj A n L).length=n:=by simp[pj]
theorem HO(n:Nat):aJ n (fun _=>0)=List.replicate n (0:Rat):=by
 unfold aJ;rw[List.eq_replicate_iff];grind
theorem oneJ_0(A:Mx)(n:Nat)(L:Ln):pk A n L 0=List.replicate n (0:Rat):=by
 unfold pk;rw[<-HO];simp
theorem oneJ_n(h:L.length<=i):pk A n L i=pj A n L:=by
 unfold pk pj;rw[List.take_of_length_le h];rfl
theorem IT{c:Nat}(h:c< n):∀e:Nat,e=c->∃v,(pE (pk A n L i))[e]?=some (qC v):=fun e a=>by
 subst a;exact⟨_,eD h e rfl⟩
theorem oneJ_s{c0:Nat}{c:Nat}(hE:Ech A n c0 L)(hl:L[i]?=some c)(hc:c< n):∀e:Nat,e=c->(pE (pk A n L i)).set e (qC (A i n))=pE (pk A n L (i+1)):=fun e b=>by
 subst b;rw[ju];congr 1;have a:L.take (i+1)=L.take i++[e]:=by rw[List.take_add_one,hl];rfl
 refine List.ext_getElem? fun t=>?_;rw[List.getElem?_set,AE];by_cases ht:t< n;by_cases h1:e=t;subst h1;rw[if_pos rfl,if_pos ht];unfold pk aJ;rw[List.getElem?_map,List.getElem?_range ht,a,Option.map_some,if_pos (by simp),hE.idx hl];rw[if_neg h1];unfold pk aJ;rw[List.getElem?_map,List.getElem?_map,List.getElem?_range ht,a,Option.map_some,Option.map_some];have d:(L.take i++[e]).contains t=(L.take i).contains t:=by grind
 rw[d];simp_all
def kq(n:Nat)(A:Mx):Lw:=(List.range n).map fun k=>aJ (n+1) (A k)
@[simp] theorem rowsL_length (n:Nat)(A:Mx):(kq n A).length=n:=by simp[kq]
theorem jI(h:i< n):(kq n A)[i]?=some (aJ (n+1) (A i)):=by simp[kq,h]
def eA(n:Nat)(A:Mx)(L:Ln):Bool:=((kq n A).drop L.length).any fun e=>decide (coP e n≠0)
theorem kx(h:eA n A L=false):∀i,L.length<=i->i< n->A i n=0:=fun i b a=>by
 refine Classical.byContradiction fun g=>?_
 have:eA n A L=true:=by
  unfold eA;rw[List.any_eq_true];refine⟨aJ (n+1) (A i),List.mem_of_getElem? (i:=i- L.length) (by rw[List.getElem?_drop,show L.length+(i- L.length)=i by omega];exact jI a),decide_eq_true ?_⟩;unfold coP aJ;rw[List.getD_eq_getElem?_getD];simpa using g
 rw[h] at this;cases this
theorem ow(h:eA n A L=true):∃i,L.length<=i/\i< n/\A i n≠0:=by
 unfold eA at h;obtain⟨e,c,d⟩:=List.any_eq_true.1 h;obtain⟨k,b⟩:=List.mem_iff_getElem?.1 c;rw[List.getElem?_drop] at b
 have a:L.length+k< n:=by
  have:=(List.getElem?_eq_some_iff.1 b).1;simpa using this
 rw[jI a] at b;cases b;refine⟨L.length+k,by omega,a,?_⟩;have:=of_decide_eq_true d;unfold coP aJ at this;rw[List.getD_eq_getElem?_getD] at this;simpa using this
def smF(c:Rat)(o:Lq)(p:Lq×Lq):Lq:=fy o (a7 p.1 c)
def om:Ke->Lq->Lq->Lq
 |[],_,o=>o
 |p::k,c,o=>om k c.tail (smF (coP c 0) o p)
def smK(k:Ke)(c:Lq)(i:Nat):Lq:=om (k.take i) c []
theorem wL:∀(k:Ke) (c o:Lq) (p:Lq×Lq),om (k++[p]) c o=smF (coP c k.length) (om k c o) p
 |[],c,o,p=>rfl
 |q::k,c,o,p=>by
  rw[List.cons_append,om,wL k,om];cases c with
  |nil=>simp[coP]
  |cons a c=>rfl
theorem H7{k:Ke}{c:Lq}{p:Lq×Lq}(h:k[i]?=some p):smK k c (i+1)=smF (coP c i) (smK k c i) p:=by
 have a:k.take (i+1)=k.take i++[p]:=by rw[List.take_add_one,h];rfl
 have hl:=(List.getElem?_eq_some_iff.1 h).1;unfold smK;rw[a,wL,List.length_take,Nat.min_eq_left (by omega)]
theorem wM(x:Rat):∀(k:Ke) (c o:Lq),c.length=k.length->aE (om k c o) x=aE o x+kL (fun p=>aE p.1.1 x* p.2) (k.zip c)
 |[],[],o,_=>by rw[om];show _=aE o x+0;grind
 |p::k,[],_,h=>by cases h
 |[],a::c,_,h=>by cases h
 |p::k,a::c,o,h=>by
  rw[om,List.tail_cons,wM x k c _ (by simpa using h),smF,jM,fc,im,List.zip_cons_cons,kL];show _=_+(aE p.1 x* a+_);grind
end
section
variable {L:Ln}{f n i:Nat}{A:Mx}
def frL(L:Ln)(f:Nat):Ln:=(List.range f).filter fun j=>!L.contains j
theorem frL_0(L:Ln):frL L 0=[]:=rfl
theorem vw(h:L.contains f=true):frL L (f+1)=frL L f:=by
 unfold frL;rw[List.range_succ,List.filter_append];simp at h;simp[h]
theorem qg(h:L.contains f=false):frL L (f+1)=frL L f++[f]:=by
 unfold frL;rw[List.range_succ,List.filter_append];simp at h;simp[h]
theorem qh(L:Ln):∀f,(frL L f).length<=f
 |0=>Nat.le_refl _
 |f+1=>by
  have:=qh L f;cases h:L.contains f with
  |true=>rw[vw h];omega
  |false=>rw[qg h,List.length_append,List.length_singleton];omega
def e9(A:Mx)(n:Nat)(L:Ln)(f:Nat):Lq:=aJ n (zerX A L f)
def zeJ(A:Mx)(n:Nat)(L:Ln)(f i:Nat):Lq:=aJ n fun j=>if (L.take i).contains j then -A (L.idxOf j) f else if j=f then 1 else 0
@[simp] theorem B8 (A:Mx)(n:Nat)(L:Ln)(f i:Nat):(zeJ A n L f i).length=n:=by simp[zeJ]
@[simp] theorem zerL_length (A:Mx)(n:Nat)(L:Ln)(f:Nat):(e9 A n L f).length=n:=by simp[e9]
theorem zeJ_0(A:Mx)(n:Nat)(L:Ln)(f:Nat):(List.replicate n (0:Rat)).set f 1=zeJ A n L f 0:=by
 refine List.ext_getElem? fun t=>?_;rw[List.getElem?_set];by_cases ht:t< n;by_cases h1:f=t;subst h1;simp[zeJ,aJ,ht];rw[if_neg h1];have a:¬t=f:=fun e=>h1 e.symm;simp[zeJ,aJ,ht,a];by_cases h1:f=t;subst h1;simp[zeJ,aJ,ht];rw[if_neg h1];simp[zeJ,aJ,ht]
theorem zeJ_n(h:L.length<=i):zeJ A n L f i=e9 A n L f:=by
 unfold zeJ e9;rw[List.take_of_length_le h];rfl
theorem El{c:Nat}(h:c< n):∀e:Nat,e=c->∃v,(pE (zeJ A n L f i))[e]?=some (qC v):=fun e a=>by
 subst a;exact⟨_,eD h e rfl⟩
theorem zeJ_s{c0:Nat}{c:Nat}(hE:Ech A n c0 L)(hl:L[i]?=some c)(hc:c< n):∀e:Nat,e=c->(pE (zeJ A n L f i)).set e (qC (-A i f))=pE (zeJ A n L f (i+1)):=fun e b=>by
 subst b;rw[ju];congr 1;have a:L.take (i+1)=L.take i++[e]:=by rw[List.take_add_one,hl];rfl
 refine List.ext_getElem? fun t=>?_;rw[List.getElem?_set,B8];by_cases ht:t< n;by_cases h1:e=t;subst h1;rw[if_pos rfl,if_pos ht];unfold zeJ aJ;rw[List.getElem?_map,List.getElem?_range ht,a,Option.map_some,if_pos (by simp),hE.idx hl];rw[if_neg h1];unfold zeJ aJ;rw[List.getElem?_map,List.getElem?_map,List.getElem?_range ht,a,Option.map_some,Option.map_some]
 have d:(L.take i++[e]).contains t=(L.take i).contains t:=by
  simp only[List.contains_eq_mem,List.mem_append,List.mem_singleton];simp[show¬t=e from fun g=>h1 g.symm]
 rw[d];rw[if_neg (by omega),List.getElem?_eq_none (by simp;omega),List.getElem?_eq_none (by simp;omega)]
end
theorem H2(A:Mx)(n:Nat):Sol 0 A n (fun _=>0):=fun i b=>by
 rw[bJ (g:=fun j=>if j=n then 0 else 0) n fun j a=>by grind,gS,if_neg (by omega)];grind
theorem fQ(n:Nat)(x:Nat->Rat)(i:Nat):coP (aJ n x) i=if i< n then x i else 0:=by
 unfold coP;rw[List.getD_eq_getElem?_getD];by_cases h:i< n;rw[if_pos h];simp[aJ,h];rw[if_neg h,List.getElem?_eq_none (by simp;omega)];rfl
section
variable {p q:Lq}{i n k:Nat}{B:Lw}
def rbF(p b:Lq):Lq:=if a8 b< p.length then dP p (a7 b (coP p (a8 b).toNat)) else p
def rbK(p:Lq)(B:Lw):Nat->Lq
 |0=>p
 |k+1=>rbF (rbK p B k) (B.getD (B.length- 1- k) [])
def reP(p:Lq)(B:Lw):Lq:=ar (rbK p B B.length)
def rK(L:Lw):Nat->Lw
 |0=>L
 |j+1=>if a8 (L.getD (j+1) [])< a8 (L.getD j []) then rK ((L.set (j+1) (L.getD j [])).set j (L.getD (j+1) [])) j else L
def j4(L:Lw):Nat->Lw
 |0=>L
 |i+1=>rK (j4 L i) (i+1)
theorem A4:∀(j:Nat) (L:Lw),(rK L j).length=L.length
 |0,L=>rfl
 |j+1,L=>by
  rw[rK];split;rw[A4 j];simp;rfl
theorem ni(L:Lw):∀i,(j4 L i).length=L.length
 |0=>rfl
 |i+1=>by rw[j4,A4,ni L i]
theorem A3{P:Lq->Prop}:∀(j:Nat) (L:Lw),j< L.length->(∀p∈L,P p)->∀p∈rK L j,P p
 |0,L,_,h=>h
 |j+1,L,hl,h=>by
  rw[rK];split;refine A3 j _ (by simp;omega) fun p hp=>?_
  have g:∀i,i< L.length->P (L.getD i []):=fun i c=>by
   rw[List.getD_eq_getElem?_getD,List.getElem?_eq_getElem c];exact h _ (List.getElem_mem _)
  rcases List.mem_or_eq_of_mem_set hp with b|b
  rcases List.mem_or_eq_of_mem_set b with a|a
  exact h p a;rw[a];exact g j (by omega);rw[b];exact g (j+1) hl;exact h
theorem u7{P:Lq->Prop}(L:Lw)(h:∀p∈L,P p):∀i,i< L.length->∀p∈j4 L i,P p
 |0,_=>h
 |i+1,hi=>A3 _ _ (by rw[ni];omega) (u7 L h i (by omega))
theorem Fo(L:Lw):∀i,(∀t,t< i->¬a8 (L.getD (t+1) [])< a8 (L.getD t []))->j4 L i=L
 |0,_=>rfl
 |i+1,h=>by
  rw[j4,Fo L i fun t a=>h t (by omega),rK,if_neg (h i (by omega))]
theorem A9(A C:Lw)(x:Lq):(A++x::C).getD A.length []=x:=by
 rw[List.getD_eq_getElem?_getD,List.getElem?_append_right (Nat.le_refl _)];simp
theorem A5:∀(j:Nat) (A:Lw) (x:Lq) (C:Lw),A.length=j->∃A1 A2,A=A1++A2/\rK (A++x::C) j=A1++x::(A2++C)/\(∀b∈A2,a8 x< a8 b)/\∀B b,A1=B++[b]->¬a8 x< a8 b
 |0,A,x,C,hA=>by
  have:A=[]:=List.eq_nil_of_length_eq_zero hA;subst this;exact⟨[],[],rfl,rfl,fun b hb=>by simp at hb,fun B b h=>by simp at h⟩
 |j+1,A,x,C,hA=>by
  obtain⟨a,b,rfl⟩:∃a b,A=a++[b]:=⟨A.dropLast,A.getLast (by intro e;rw[e] at hA;cases hA),(List.dropLast_concat_getLast _).symm⟩;have d:a.length=j:=by simpa using hA
  have e1:(a++[b]++x::C).getD (j+1) []=x:=by
   have:=A9 (a++[b]) C x;rwa[List.length_append,List.length_singleton,d] at this
  have e2:(a++[b]++x::C).getD j []=b:=by
   have:=A9 a (x::C) b;rw[d] at this;simpa using this
  rw[rK,e1,e2];by_cases hd:a8 x< a8 b;rw[if_pos hd]
  have m:((a++[b]++x::C).set (j+1) b).set j x=a++x::(b::C):=by
   subst d;simp[List.set_append]
  rw[m];obtain⟨A1,A2,k,g,l,i⟩:=A5 j a x (b::C) d;refine⟨A1,A2++[b],by rw[k];simp,by rw[g];simp,fun c f=>?_,i⟩;rcases List.mem_append.1 f with h|h
  exact l c h;rw[List.mem_singleton.1 h];exact hd;rw[if_neg hd];refine⟨a++[b],[],by simp,by simp,fun c f=>by simp at f,fun B c h=>?_⟩;have:=List.append_inj_right' h (by simp);simp at this;rw[<-this];exact hd
theorem wK(A:Lw)(x:Lq)(hs:A.Pairwise fun a b=>a8 a< a8 b):∃A1 A2,A=A1++A2/\j4 (A++[x]) A.length=A1++x::A2/\(∀b∈A2,a8 x< a8 b)/\∀b∈A1,a8 b<=a8 x:=by
 have g:j4 (A++[x]) A.length=rK (A++x::[]) A.length:=by
  cases hA:A.length with
  |zero=>rfl
  |succ j=>
   rw[j4,Fo _ j fun t m=>?_];have c:t< A.length:=by omega
   have f:t+1< A.length:=by omega
   rw[List.getD_eq_getElem?_getD,List.getD_eq_getElem?_getD,List.getElem?_append_left c,List.getElem?_append_left f,List.getElem?_eq_getElem c,List.getElem?_eq_getElem f];have:=List.pairwise_iff_getElem.1 hs t (t+1) c f (by omega);show¬a8 A[t+1]< a8 A[t];omega
 obtain⟨A1,A2,c,f,k,i⟩:=A5 A.length A x [] rfl;refine⟨A1,A2,c,by rw[g,f];simp,k,fun b hb=>?_⟩;by_cases he:A1=[];rw[he] at hb;cases hb;have e:=List.dropLast_concat_getLast he;have l:=i _ _ e.symm;rw[c] at hs;have d:=(List.pairwise_append.1 hs).1;rw[<-e] at hb d;rcases List.mem_append.1 hb with h|h
 have:=(List.pairwise_append.1 d).2.2 b h _ (List.mem_singleton.2 rfl);omega;rw[List.mem_singleton.1 h];omega
structure Piv (p:Lq):Prop where
 tr:ar p=p
 ne:nz p
 one:ba p=1
theorem Piv.deg(h:Piv p):a8 p=(dg p:Int):=degP_dg h.ne
theorem Piv.len(h:Piv p):p.length=dg p+1:=by
 have a:=List.length_pos_iff.2 h.ne;have b:=h.tr;unfold dg;rw[b] at a⊢;omega
theorem Piv.at1(h:Piv p):coP p (dg p)=1:=by rw[(lr h.ne).2,h.one]
theorem Piv.past(h:Piv p)(hi:dg p< i):coP p i=0:=(lr h.ne).1.2 i hi
theorem CW(ht:ar p=p)(h1:coP p n=1)(h2:∀i,n< i->coP p i=0):Piv p/\dg p=n:=by
 obtain⟨a,b,c⟩:=IX (p:=p) (n:=n) ⟨by rw[h1];decide,h2⟩;exact⟨⟨ht,a,by rw[c,h1]⟩,b⟩
theorem ou{b:Lq}(hb:Piv b)(i:Nat):coP (rbF p b) i=coP p i- coP p (dg b) * coP b i:=by
 unfold rbF;rw[hb.deg,Int.toNat_natCast];split;rw[c9,bU];grind
 ·rename_i h
  rw[eJ (p:=p) (i:=dg b) (by omega)];grind
theorem rbF_len{b:Lq}(hb:Piv b):(rbF p b).length<=p.length:=by
 unfold rbF;rw[hb.deg];split;have a:=o0 p (a7 b (coP p ((dg b:Nat):Int).toNat));have c:=b8 b (coP p ((dg b:Nat):Int).toNat);have d:=hb.len;omega;exact Nat.le_refl _
theorem rbF_bd{b:Lq}{s t:Nat}(hb:Piv b)(hp:bdL p s)(hs:1<=s)(hbt:bdL b t)(ht:1<=t):bdL (rbF p b) (2* s+t+1):=k5 fun i=>by
 rw[ou hb];have d:=uM (coP p i) (coP p (dg b) * coP b i);have a:=dS (coP p (dg b)) (coP b i);have f:=ej hp hs i;have c:=ej hp hs (dg b);have e:=ej hbt ht i;omega
def rL(p:Lq)(B:Lw):Lq:=B.reverse.foldl rbF p
theorem tu(p:Lq)(B:Lw)(b:Lq):rL p (B++[b])=rL (rbF p b) B:=by
 unfold rL;rw[List.reverse_append];rfl
theorem Av(p:Lq)(B:Lw)(b:Lq):∀k,k<=B.length->rbK p (B++[b]) (k+1)=rbK (rbF p b) B k
 |0,_=>by
  rw[rbK,rbK,rbK];congr 1;rw[List.getD_eq_getElem?_getD,List.length_append,List.length_singleton,show B.length+1- 1- 0=B.length by omega,List.getElem?_append_right (Nat.le_refl _)];simp
 |k+1,h=>by
  rw[rbK,Av p B b k (by omega),rbK];congr 1;rw[List.getD_eq_getElem?_getD,List.getD_eq_getElem?_getD,List.length_append,List.length_singleton,show B.length+1- 1- (k+1)=B.length- 1- k by omega,List.getElem?_append_left (by omega)]
theorem EY:∀(n:Nat) (B:Lw) (p:Lq),B.length=n->rbK p B n=rL p B
 |0,B,p,h=>by
  rw[List.eq_nil_of_length_eq_zero h];rfl
 |n+1,B,p,h=>by
  obtain⟨C,b,rfl⟩:∃C b,B=C++[b]:=⟨B.dropLast,B.getLast (by intro e;rw[e] at h;cases h),(List.dropLast_concat_getLast _).symm⟩;have a:C.length=n:=by simpa using h
  rw[Av p C b n (by omega),EY n C _ a,tu]
theorem kP(p:Lq)(B:Lw):reP p B=ar (rL p B):=by unfold reP;rw[EY _ B p rfl]
theorem uL{Q H:Lq->Prop}(hQ:∀p b c r,Q p->H b->(∀i,coP r i=coP p i- c* coP b i)->Q r):∀(n:Nat) (B:Lw) (p:Lq),B.length=n->(∀b∈B,Piv b/\H b)->Q p->Q (rL p B)
 |0,B,p,h,_,hp=>by rw[List.eq_nil_of_length_eq_zero h];exact hp
 |n+1,B,p,h,hB,hp=>by
  obtain⟨C,b,rfl⟩:∃C b,B=C++[b]:=⟨B.dropLast,B.getLast (by intro e;rw[e] at h;cases h),(List.dropLast_concat_getLast _).symm⟩;have a:C.length=n:=by simpa using h
  obtain⟨b1,b2⟩:=hB b (by simp);rw[tu];exact uL hQ n C _ a (fun c d=>hB c (List.mem_append_left _ d)) (hQ p b _ _ hp b2 fun i=>ou b1 i)
theorem rL_keep(hB:∀b∈B,Piv b)(hi:∀b∈B,coP b i=0):coP (rL p B) i=coP p i:=
 uL (Q:=fun r=>coP r i=coP p i) (H:=fun b=>coP b i=0) (fun q b c r a hb d=>by rw[d,a,hb];grind) B.length B p rfl (fun b hb=>⟨hB b hb,hi b hb⟩) rfl
def Up(B:Lw):Prop:=B.Pairwise fun a b=>a8 a< a8 b
theorem pg:∀(n:Nat) (B:Lw) (p:Lq),B.length=n->(∀b∈B,Piv b)->Up B->∀b∈B,coP (rL p B) (dg b)=0
 |0,B,p,h,_,_=>by rw[List.eq_nil_of_length_eq_zero h];exact fun b hb=>by cases hb
 |n+1,B,p,h,hB,hU=>by
  obtain⟨C,c,rfl⟩:∃C b,B=C++[b]:=⟨B.dropLast,B.getLast (by intro e;rw[e] at h;cases h),(List.dropLast_concat_getLast _).symm⟩;have k:C.length=n:=by simpa using h
  have j:=hB c (by simp);have d:=List.pairwise_append.1 hU;intro b hb;rw[tu];rcases List.mem_append.1 hb with i|i
  exact pg n C _ k (fun x a=>hB x (List.mem_append_left _ a)) d.1 b i;rw[List.mem_singleton.1 i,rL_keep (fun x a=>hB x (List.mem_append_left _ a)) fun x a=>?_,ou j,j.at1];grind;have f:=hB x (List.mem_append_left _ a);have g:=d.2.2 x a c (List.mem_singleton.2 rfl);rw[f.deg,j.deg] at g;exact f.past (by omega)
def rbB(s t:Nat):Nat->Nat
 |0=>s
 |k+1=>2* rbB s t k+t+1
theorem yu(s t k:Nat):s<=rbB s t k:=by
 induction k with
 |zero=>exact Nat.le_refl _
 |succ k a=>rw[rbB];omega
theorem Aw(s t:Nat)(h:k<=n):rbB s t k<=rbB s t n:=by
 induction n with
 |zero=>rw[show k=0 by omega];exact Nat.le_refl _
 |succ n a=>
  by_cases e:k=n+1;rw[e];exact Nat.le_refl _;have:=a (by omega);rw[rbB];omega
theorem pI(h:i< B.length):B.getD i []∈B:=by
 rw[List.getD_eq_getElem?_getD,List.getElem?_eq_getElem h];exact List.getElem_mem _
theorem yr{p:Lq}{B:Lw}{s t:Nat}(hB:∀b∈B,Piv b)(hp:bdL p s)(hs:1<=s)(hbt:∀b∈B,bdL b t)(ht:1<=t):∀k,k<=B.length->bdL (rbK p B k) (rbB s t k)/\(rbK p B k).length<=p.length
 |0,_=>⟨hp,Nat.le_refl _⟩
 |k+1,h=>by
  obtain⟨c,d⟩:=yr hB hp hs hbt ht k (by omega);have a:=pI (B:=B) (i:=B.length- 1- k) (by omega);have e:=yu s t k;rw[rbK,rbB];exact⟨rbF_bd (hB _ a) c (by omega) (hbt _ a) ht,Nat.le_trans (rbF_len (hB _ a)) d⟩
def ecP(q:Lq):Lq:=a7 q (1/ ba q)
def ecT(out:Lw)(p:Lq):Lw:=if a8 (reP p out)< 0 then out else j4 (out.map (fun o=>reP o [ecP (reP p out)])++[ecP (reP p out)]) out.length
def ecK(l:Lw):Nat->Lw
 |0=>[]
 |k+1=>ecT (ecK l k) (l.getD k [])
def ecL(l:Lw):Lw:=ecK l l.length
theorem qJ(h:nz q):Piv (ecP q)/\dg (ecP q)=dg q:=by
 obtain⟨c,b⟩:=lr h;have d:ba q≠0:=je h;refine CW (by unfold ecP a7;rw[dX]) ?_ fun i e=>?_;unfold ecP;rw[bU,b];have:=Rat.div_mul_cancel (a:=1) d;grind;unfold ecP;rw[bU,c.2 i e];grind
theorem Iw(o q:Lq):rL o [q]=rbF o q:=rfl
theorem vH{o:Lq}(ho:Piv o)(hq:Piv q)(hd:dg o≠dg q):Piv (reP o [q])/\dg (reP o [q])=dg o:=by
 have a:∀i,coP (reP o [q]) i=coP o i- coP o (dg q) * coP q i:=fun i=>by rw[kP,bH,Iw,ou hq]
 refine CW (by rw[kP,dX]) ?_ fun i b=>?_;rw[a,ho.at1];by_cases h:dg q< dg o;rw[hq.past h];grind;rw[ho.past (by omega)];grind;rw[a,ho.past b];by_cases h:dg q< dg o;rw[hq.past (by omega)];grind;rw[ho.past (by omega)];grind
structure Bas (B:Lw):Prop where
 piv:∀b∈B,Piv b
 up:Up B
theorem HF{f:Lq->Lq}(h:Bas B)(hf:∀b∈B,Piv (f b)/\dg (f b)=dg b):Up (B.map f):=by
 unfold Up;rw[List.pairwise_map];refine List.Pairwise.imp_of_mem (fun{a b} ha hb hab=>?_) h.up;rw[(hf a ha).1.deg,(hf b hb).1.deg,(hf a ha).2,(hf b hb).2,<-(h.piv a ha).deg,<-(h.piv b hb).deg];exact hab
theorem ecT_bas{out:Lw}(h:Bas out):Bas (ecT out p):=by
 unfold ecT;split;exact h
 ·rename_i m
  have l:nz (reP p out):=Classical.byContradiction fun e=>m (degP_nil.2 e);obtain⟨q1,q2⟩:=qJ l
  have k:∀b∈out,dg b≠dg (ecP (reP p out)):=fun b hb e=>by
   have n:=pg out.length out p rfl h.piv h.up b hb;have j:=(lr l).1.1;rw[<-q2,<-e,kP,bH] at j;exact j n
  generalize v:ecP (reP p out)=q at *
  have d:∀b∈out,Piv (reP b [q])/\dg (reP b [q])=dg b:=fun b hb=>vH (h.piv b hb) q1 (k b hb);have i:=HF h d
  have hp:∀b∈out.map (fun o=>reP o [q]),Piv b/\dg b≠dg q:=fun b hb=>by
   obtain⟨o,f,rfl⟩:=List.mem_map.1 hb;exact⟨(d o f).1,by rw[(d o f).2];exact k o f⟩
  obtain⟨u,w,e1,e2,r,t⟩:=wK (out.map (fun o=>reP o [q])) q i;rw[List.length_map] at e2;rw[e2];rw[e1] at i hp;have c:=List.pairwise_append.1 i;refine⟨fun b hb=>?_,List.pairwise_append.2 ⟨c.1,List.pairwise_cons.2 ⟨r,c.2.1⟩,fun a ha b hb=>?_⟩⟩;rcases List.mem_append.1 hb with g|g
  exact(hp b (List.mem_append_left _ g)).1;rcases List.mem_cons.1 g with g|g
  rw[g];exact q1;exact(hp b (List.mem_append_right _ g)).1;rcases List.mem_cons.1 hb with g|g
  rw[g];obtain⟨s,a2⟩:=hp a (List.mem_append_left _ ha);have:=t a ha;rw[s.deg,q1.deg] at this⊢;omega;exact c.2.2 a ha b g
theorem kG(l:Lw):∀k,Bas (ecK l k)
 |0=>⟨fun b hb=>(by cases hb),List.Pairwise.nil⟩
 |k+1=>ecT_bas (kG l k)
theorem ecT_len(out:Lw)(p:Lq):(ecT out p).length<=out.length+1:=by
 unfold ecT;split;omega;rw[ni];simp
theorem qK(l:Lw):∀k,(ecK l k).length<=k
 |0=>Nat.le_refl _
 |k+1=>by
  have a:=qK l k;have b:=ecT_len (ecK l k) (l.getD k []);rw[ecK];omega
theorem yO{P:Lq->Prop}{out:Lw}(h0:∀b∈out,a8 (reP p out)< 0->P b)(h1:∀b∈out,¬a8 (reP p out)< 0->P (reP b [ecP (reP p out)]))(h2:¬a8 (reP p out)< 0->P (ecP (reP p out))):∀b∈ecT out p,P b:=by
 unfold ecT;split
 ·rename_i h;exact fun b hb=>h0 b hb h
 ·rename_i h
  refine u7 _ (fun b hb=>?_) _ (by simp);rcases List.mem_append.1 hb with g|g
  obtain⟨o,a,rfl⟩:=List.mem_map.1 g;exact h1 o a h;rw[List.mem_singleton.1 g];exact h2 h
theorem zo{Q:Lq->Prop}(hQ:∀p b c r,Q p->Q b->(∀i,coP r i=coP p i- c* coP b i)->Q r)(h0:Q [])(l:Lw)(hl:∀p∈l,Q p):∀k,∀b∈ecK l k,Q b
 |0=>fun b hb=>(by cases hb)
 |k+1=>by
  have f:=zo hQ h0 l hl k;have o:=kG l k
  have hp:Q (l.getD k []):=by
   by_cases h:k< l.length;exact hl _ (pI h);rw[List.getD_eq_getElem?_getD,List.getElem?_eq_none (by omega)];exact h0
  have hs:∀p q,Q p->(∀i,coP q i=coP p i)->Q q:=fun p q d a=>hQ p [] 0 q d h0 fun i=>by rw[a];grind
  have j:∀p B,Q p->(∀b∈B,Piv b/\Q b)->Q (reP p B):=fun p B d a=>by
   rw[kP];exact hs (rL p B) _ (uL hQ B.length B p rfl a d) (bH _)
  have n:=j _ _ hp fun b hb=>⟨o.piv b hb,f b hb⟩
  have m:¬a8 (reP (l.getD k []) (ecK l k))< 0->Q (ecP (reP (l.getD k []) (ecK l k))):=fun _=>hQ [] _ (-(1/ ba (reP (l.getD k []) (ecK l k)))) _ h0 n fun i=>by
   unfold ecP;rw[bU,show coP [] i=0 from rfl];grind
  rw[ecK];refine yO (fun b hb _=>f b hb) (fun b hb g=>?_) m;refine j b _ (f b hb) fun c s=>?_;rw[List.mem_singleton.1 s];exact⟨(qJ (Classical.byContradiction fun e=>g (degP_nil.2 e))).1,m g⟩
def ecB(s:Nat):Nat->Nat
 |0=>1
 |k+1=>2* ecB s k+2* rbB s (ecB s k) k+2
theorem zp(s k:Nat):1<=ecB s k:=by
 cases k with
 |zero=>exact Nat.le_refl _
 |succ k=>rw[ecB];omega
theorem J6(s:Nat)(h:k<=n):ecB s k<=ecB s n:=by
 induction n with
 |zero=>rw[show k=0 by omega];exact Nat.le_refl _
 |succ n a=>
  by_cases e:k=n+1;rw[e];exact Nat.le_refl _;have:=a (by omega);rw[ecB];omega
theorem uJ{s t:Nat}(hB:∀b∈B,Piv b)(hp:bdL p s)(hs:1<=s)(hbt:∀b∈B,bdL b t)(ht:1<=t)(hk:B.length<=k):bdL (reP p B) (rbB s t k)/\(reP p B).length<=p.length:=by
 obtain⟨a,c⟩:=yr hB hp hs hbt ht B.length (Nat.le_refl _);unfold reP;exact⟨fun q d=>Nat.le_trans (we a q d) (Aw s t hk),Nat.le_trans (bw _) c⟩
theorem J5{u:Nat}(h:bdL q u)(hu:1<=u):bdL (ecP q) (2* u+1)/\(ecP q).length<=q.length:=by
 refine⟨?_,b8 _ _⟩;have d:=Fg h hu;have a:=iC 1 (ba q);have e:qs 1<=1:=by decide
 have b:=fm (k:=1/ ba q) h hu (Nat.le_trans a (show qs 1+qs (ba q)<=1+u by omega));exact fun x c=>Nat.le_trans (b x c) (by omega)
theorem zn{l:Lw}{s n:Nat}(hs:1<=s)(hl:∀p∈l,bdL p s/\p.length<=n):∀k,∀b∈ecK l k,bdL b (ecB s k)/\b.length<=n
 |0=>fun b hb=>(by cases hb)
 |k+1=>by
  have g:=zn hs hl k;have r:=kG l k;have f:=qK l k;have a:=zp s k
  have hp:bdL (l.getD k []) s/\(l.getD k []).length<=n:=by
   by_cases h:k< l.length;exact hl _ (pI h);rw[List.getD_eq_getElem?_getD,List.getElem?_eq_none (by omega)];exact⟨fun q d=>(by cases d),Nat.zero_le _⟩
  obtain⟨o,v⟩:=uJ r.piv hp.1 hs (fun b hb=>(g b hb).1) a f;have u:=yu s (ecB s k) k;obtain⟨e1,e2⟩:=J5 o (by omega);rw[ecK];refine yO (fun b hb _=>⟨fun q d=>Nat.le_trans ((g b hb).1 q d) (by rw[ecB];omega),(g b hb).2⟩) (fun b hb m=>?_) fun m=>⟨fun q d=>Nat.le_trans (e1 q d) (by rw[ecB];omega),by omega⟩;have i:=(qJ (q:=reP (l.getD k []) (ecK l k)) (Classical.byContradiction fun e=>m (degP_nil.2 e))).1;obtain⟨o1,o2⟩:=uJ (p:=b) (B:=[ecP (reP (l.getD k []) (ecK l k))]) (t:=2* rbB s (ecB s k) k+1) (k:=1) (fun c j=>by rw[List.mem_singleton.1 j];exact i) (g b hb).1 a (fun c j=>by rw[List.mem_singleton.1 j];exact e1) (by omega) (Nat.le_refl _);exact⟨fun q d=>Nat.le_trans (o1 q d) (by rw[rbB,rbB,ecB];omega),Nat.le_trans o2 (g b hb).2⟩
end
section
variable {k:Ke}{G u:Lq}{L:Rat}{n:Nat}
end
section
variable {k:Ke}{G:Lq}{L a x:Rat}(hl:k.length<=3)(h4:∀p∈k,p.1.length<=4/\p.2.length<=4)(hb:∀p∈k,bdL p.1 20/\bdL p.2 20)(hg:G.length<=5)(bg:bdL G 20)(qL:qs L<=20)(qa:qs a<=20)(qx:qs x<=20)
include hl h4 hb hg bg qL qa
end


section
variable {u:Lq}{B:Lw}
inductive Spn (B:Lw):Lq->Prop
 |zero {u:Lq}:(∀i,coP u i=0)->Spn B u
 |step {p b r:Lq} {c:Rat}:Spn B p->b∈B->(∀i,coP r i=coP p i- c* coP b i)->Spn B r
section
variable {B C:Lw}
theorem Spn.ext{v:Lq}(h:Spn B u)(e:∀i,coP v i=coP u i):Spn B v:=by
 induction h generalizing v with
 |zero h=>exact .zero fun i=>by rw[e,h]
 |step d b c a=>exact .step (a fun i=>rfl) b fun i=>by rw[e,c]
theorem Spn.comb{p q r:Lq}{c:Rat}(hp:Spn B p)(hq:Spn B q)(h:∀i,coP r i=coP p i- c* coP q i):Spn B r:=by
 induction hq generalizing p r c with
 |zero b=>exact hp.ext fun i=>by rw[h,b];grind
 | @step p1 b1 r1 c1 h1 h2 h3 ih=>
  -- r=(p+c c1 b1)- c p1
  have e:∀i,coP (dP p (a7 b1 (-(c* c1)))) i=coP p i- (-(c* c1)) * coP b1 i:=fun i=>by rw[c9,bU];grind
  have a:Spn B (dP p (a7 b1 (-(c* c1)))):= .step hp h2 e;exact ih (c:=c) a fun i=>by rw[h,h3,e];grind
theorem Spn.of{b:Lq}(hb:b∈B):Spn B b:= .step (c:= -1) (p:=[]) (.zero fun i=>rfl) hb fun i=>by rw[show coP [] i=0 from rfl];grind
theorem Spn.mono(h:Spn B u)(hB:∀b∈B,Spn C b):Spn C u:=by
 induction h with
 |zero h=>exact .zero h
 |step e c d a=>exact a.comb (hB _ c) d
theorem Spn.closed{Q:Lq->Prop}(h0:∀u,(∀i,coP u i=0)->Q u)(hQ:∀p b c r,Q p->Q b->(∀i,coP r i=coP p i- c* coP b i)->Q r)(h:Spn B u)(hB:∀b∈B,Q b):Q u:=by
 induction h with
 |zero h=>exact h0 _ h
 |step f d e a=>exact hQ _ _ _ _ a (hB _ d) e
theorem Spn.last{b:Lq}(h:Spn (C++[b]) u):∃(c:Rat) (v:Lq),Spn C v/\∀i,coP u i=coP v i- c* coP b i:=by
 induction h with
 | @zero u h=>exact⟨0,u,.zero h,fun i=>by grind⟩
 | @step p b1 r c1 h1 h2 h3 ih=>
  obtain⟨c,v,hv,e⟩:=ih;rcases List.mem_append.1 h2 with g|g
  refine⟨c,dP v (a7 b1 c1),.step (c:=c1) hv g fun i=>by rw[c9,bU];grind,fun i=>?_⟩;rw[h3,e,c9,bU];grind;have:b1=b:=by simpa using g
  subst this;exact⟨c+c1,v,hv,fun i=>by rw[h3,e];grind⟩
theorem Spn.past{n:Nat}(h:Spn B u)(hB:∀b∈B,∀i,n<=i->coP b i=0):∀i,n<=i->coP u i=0:=fun i e=>
 h.closed (Q:=fun u=>coP u i=0) (fun u d=>d i) (fun p b c r hp hb a=>by rw[a,hp,hb];grind) fun b hb=>hB b hb i e
end
theorem nH:∀(n:Nat) (B:Lw) (u:Lq),B.length=n->Bas B->Spn B u->(∀b∈B,coP u (dg b)=0)->∀i,coP u i=0
 |0,B,u,hn,_,h,_=>by
  have:B=[]:=List.eq_nil_of_length_eq_zero hn;subst this;cases h with
  |zero h=>exact h
  |step d g o=>cases g
 |n+1,B,u,hn,hB,h,hz=>by
  obtain⟨C,b,rfl⟩:∃C b,B=C++[b]:=⟨B.dropLast,B.getLast (by intro e;rw[e] at hn;cases hn),(List.dropLast_concat_getLast _).symm⟩;have l:C.length=n:=by simpa using hn
  have hb:=hB.piv b (by simp);have k:=List.pairwise_append.1 hB.up
  have j:∀x∈C,∀i,dg b<=i->coP x i=0:=fun x a i p=>by
   have d:=hB.piv x (List.mem_append_left _ a);have g:=k.2.2 x a b (List.mem_singleton.2 rfl);rw[d.deg,hb.deg] at g;exact d.past (by omega)
  obtain⟨c,v,hv,e⟩:=h.last;have d:=hz b (by simp);rw[e,hv.past j _ (Nat.le_refl _),hb.at1] at d;have m:c=0:=by grind
  subst m;have f:Bas C:=⟨fun x a=>hB.piv x (List.mem_append_left _ a),k.1⟩;have e2:∀i,coP u i=coP v i:=fun i=>by rw[e];grind
  have:=nH n C v l f hv fun x a=>by rw[<-e2];exact hz x (List.mem_append_left _ a)
  exact fun i=>by rw[e2,this]
def Ef(B:Lw):Prop:=∀b∈B,∀d∈B,dg b≠dg d->coP b (dg d)=0
theorem EZ(hB:∀b∈B,Piv b)(p:Lq):Spn B (dP p (rL p B)):=
 uL (Q:=fun r=>Spn B (dP p r)) (H:=fun b=>b∈B) (fun q b c r a hb d=>a.comb (c:= -c) (Spn.of hb) fun i=>by rw[c9,c9,d];grind) B.length B p rfl (fun b hb=>⟨hB b hb,hb⟩) (.zero fun i=>by rw[c9];grind)
theorem Ad(hB:Bas B)(h:Spn B u)(hu:nz u):∃b∈B,dg b=dg u:=by
 refine Classical.byContradiction fun g=>?_;have d:∀b∈B,dg b≠dg u:=fun b hb e=>g ⟨b,hb,e⟩
 -- what u reduces to is 0,but its leading coefficient stays
 have o:=pg B.length B u rfl hB.piv hB.up;have m:Spn B (rL u B):=(h.comb (c:=1) (EZ hB.piv u) fun i=>by rw[c9];grind);have r:=nH B.length B (rL u B) rfl hB m o;obtain⟨d1,d2⟩:=lr hu
 -- the part of B below and above
 have j:∀(n:Nat) (B:Lw) (p:Lq),B.length=n->(∀b∈B,Piv b/\dg b≠dg u)->Up B->coP p (dg u)≠0->(∀i,dg u< i->coP p i=0)->coP (rL p B) (dg u)≠0:=fun n=>by
  induction n with
  |zero=>intro B p a _ _ hp _;rw[List.eq_nil_of_length_eq_zero a];exact hp
  |succ n v=>
   intro B p a k q hp f;obtain⟨C,b,rfl⟩:∃C b,B=C++[b]:=⟨B.dropLast,B.getLast (by intro e;rw[e] at a;cases a),(List.dropLast_concat_getLast _).symm⟩;have l:C.length=n:=by simpa using a
   obtain⟨hb,w⟩:=k b (by simp);rw[tu];refine v C _ l (fun x t=>k x (List.mem_append_left _ t)) (List.pairwise_append.1 q).1 ?_ fun i s=>?_;rw[ou hb];by_cases g:dg b< dg u;rw[hb.past g];intro e;exact hp (by grind);rw[f (dg b) (by omega)];intro e;exact hp (by grind);rw[ou hb,f i s];by_cases g:dg b< dg u;rw[hb.past (show dg b< i by omega)];grind;rw[f (dg b) (by omega)];grind
 exact j B.length B u rfl (fun b hb=>⟨hB.piv b hb,d b hb⟩) hB.up d1.1 d1.2 (r _)
theorem up_dg(h:Bas B):(B.map dg).Pairwise (· < ·):=by
 rw[List.pairwise_map];refine List.Pairwise.imp_of_mem (fun{a b} ha hb hab=>?_) h.up;rw[(h.piv a ha).deg,(h.piv b hb).deg] at hab;omega
theorem HE:∀{l m:Ln},l.Pairwise (· < ·)->m.Pairwise (· < ·)->(∀x,x∈l↔x∈m)->l=m
 |[],[],_,_,_=>rfl
 |[],b::m,_,_,h=>by have:=(h b).2 (List.mem_cons_self ..);cases this
 |a::l,[],_,_,h=>by have:=(h a).1 (List.mem_cons_self ..);cases this
 |a::l,b::m,h1,h2,h=>by
  obtain⟨f,a2⟩:=List.pairwise_cons.1 h1;obtain⟨b1,b2⟩:=List.pairwise_cons.1 h2
  have e:a=b:=by
   rcases List.mem_cons.1 ((h a).1 (List.mem_cons_self ..)) with g|g
   exact g;rcases List.mem_cons.1 ((h b).2 (List.mem_cons_self ..)) with d|d
   exact d.symm;have:=f b d;have:=b1 a g;omega
  subst e;rw[HE a2 b2 fun x=>?_];constructor;intro c;rcases List.mem_cons.1 ((h x).1 (List.mem_cons_of_mem _ c)) with g|g
  have:=f x c;omega;exact g;intro c;rcases List.mem_cons.1 ((h x).2 (List.mem_cons_of_mem _ c)) with g|g
  have:=b1 x c;omega;exact g
theorem Eb{C:Lw}(hB:Bas B)(hC:Bas C)(rB:Ef B)(rC:Ef C)(h:∀u,Spn B u↔Spn C u):B=C:=by
 have n:B.map dg=C.map dg:=HE (up_dg hB) (up_dg hC) fun x=>by
  constructor;intro m;obtain⟨b,hb,rfl⟩:=List.mem_map.1 m;obtain⟨c,a,e⟩:=Ad hC ((h b).1 (Spn.of hb)) (hB.piv b hb).ne;rw[<-e];exact List.mem_map_of_mem a;intro m;obtain⟨c,a,rfl⟩:=List.mem_map.1 m;obtain⟨b,hb,e⟩:=Ad hB ((h c).2 (Spn.of a)) (hC.piv c a).ne;rw[<-e];exact List.mem_map_of_mem hb
 have k:B.length=C.length:=by have:=congrArg List.length n;simpa using this
 refine List.ext_getElem k fun i q o=>?_;have hb:B[i]∈B:=List.getElem_mem _;have a:C[i]∈C:=List.getElem_mem _
 have f:∀j (r:j< B.length) (p:j< C.length),dg B[j]=dg C[j]:=fun j r p=>by
  have s:(B.map dg)[j]?=(C.map dg)[j]?:=by rw[n]
  rw[List.getElem?_map,List.getElem?_map,List.getElem?_eq_getElem r,List.getElem?_eq_getElem p] at s;exact Option.some.inj s
 have v:=nH B.length B (dP B[i] C[i]) rfl hB ((Spn.of hb).comb (c:=1) ((h _).2 (Spn.of a)) fun j=>by rw[c9];grind) fun d g=>by
  rw[c9];obtain⟨j,t,rfl⟩:=List.mem_iff_getElem.1 g;have l:j< C.length:=by omega
  by_cases e:dg B[i]=dg B[j];rw[<-e,(hB.piv _ hb).at1,f i q o,(hC.piv _ a).at1];grind;rw[rB _ hb _ g e,f j t l,rC _ a C[j] (List.getElem_mem _) (by rw[<-f j t l,<-f i q o];exact e)];grind
 have e:ar B[i]=ar C[i]:=fN fun x=>ga (fun j=>by have:=v j;rw[c9] at this;grind) x;rw[(hB.piv _ hb).tr,(hC.piv _ a).tr] at e;exact e
theorem It{v:Lq}(hB:Bas B)(h:Spn B (dP u v))(hu:∀b∈B,coP u (dg b)=0)(hv:∀b∈B,coP v (dg b)=0):ar u=ar v:=by
 have a:=nH B.length B (dP u v) rfl hB h fun b hb=>by rw[c9,hu b hb,hv b hb];grind
 exact fN fun x=>ga (fun j=>by have:=a j;rw[c9] at this;grind) x
theorem ecT_red{out:Lw}{p:Lq}(h:Bas out)(hr:Ef out):Ef (ecT out p)/\(∀b∈out,Spn (ecT out p) b)/\Spn (ecT out p) p:=by
 have k:Spn out (dP p (reP p out)):=by rw[kP];exact(EZ h.piv p).ext fun i=>by rw[c9,c9,bH]
 by_cases hd:a8 (reP p out)< 0;have e:ecT out p=out:=by unfold ecT;rw[if_pos hd]
 rw[e];refine⟨hr,fun b hb=>Spn.of hb,k.ext fun i=>?_⟩
 have:ar (reP p out)=[]:=by
  have:=degP_nil.1 hd;unfold nz at this;exact Decidable.byContradiction this
 rw[c9,<-bH (reP p out),this,show coP [] i=0 from rfl];grind;have A:nz (reP p out):=Classical.byContradiction fun e=>hd (degP_nil.2 e);obtain⟨q1,q2⟩:=qJ A
 have n:∀b∈out,coP (ecP (reP p out)) (dg b)=0:=fun b hb=>by
  have d:=pg out.length out p rfl h.piv h.up b hb;unfold ecP;rw[bU,kP,bH,d];grind
 have w:∀i,coP (reP p out) i=ba (reP p out) * coP (ecP (reP p out)) i:=fun i=>by
  unfold ecP;rw[bU];have:=Rat.div_mul_cancel (a:=1) (je A);grind
 have z:∀b∈out,dg b≠dg (ecP (reP p out)):=fun b hb e=>by
  have d:=n b hb;rw[e,q1.at1] at d;exact absurd d (by decide)
 have l:∀x,x∈ecT out p->(∃o∈out,x=reP o [ecP (reP p out)])\/x=ecP (reP p out):=yO (P:=fun x=>(∃o∈out,x=reP o [ecP (reP p out)])\/x=ecP (reP p out)) (fun b hb h=>absurd h hd) (fun b hb _=> .inl ⟨b,hb,rfl⟩) fun _=> .inr rfl
 have s:(∀o∈out,reP o [ecP (reP p out)]∈ecT out p)/\ecP (reP p out)∈ecT out p:=by
  have D:=HF h (f:=fun o=>reP o [ecP (reP p out)]) fun b hb=>vH (h.piv b hb) q1 (z b hb);obtain⟨B,F,e1,e2,_,_⟩:=wK (out.map fun o=>reP o [ecP (reP p out)]) (ecP (reP p out)) D
  have e:ecT out p=B++ecP (reP p out)::F:=by
   unfold ecT;rw[if_neg hd,<-e2,List.length_map]
  rw[e];refine⟨fun o v=>?_,by simp⟩;have:=List.mem_map_of_mem (f:=fun o=>reP o [ecP (reP p out)]) v;rw[e1] at this;rcases List.mem_append.1 this with g|g
  exact List.mem_append_left _ g;exact List.mem_append_right _ (List.mem_cons_of_mem _ g)
 generalize G:ecP (reP p out)=q at *
 have m:∀o i,coP (reP o [q]) i=coP o i- coP o (dg q) * coP q i:=fun o i=>by rw[kP,bH,Iw,ou q1]
 have v:∀b∈out,Spn (ecT out p) b:=fun b hb=>(Spn.of (s.1 b hb)).comb (c:= -coP b (dg q)) (Spn.of s.2) fun i=>by rw[m];grind
 refine⟨fun x E y C r=>?_,v,((k.mono v).comb (c:= -ba (reP p out)) (Spn.of s.2) fun i=>by rw[c9,w];grind)⟩;have j:∀o∈out,dg (reP o [q])=dg o:=fun o d=>(vH (h.piv o d) q1 (z o d)).2;rcases l x E with⟨o,d,rfl⟩|rfl <;> rcases l y C with⟨u,t,rfl⟩|rfl
 rw[j o d,j u t] at r;rw[j u t,m,hr o d u t r,n u t];grind;rw[m,q1.at1];grind;rw[j u t];exact n u t;exact absurd rfl r
theorem FM(l:Lw):∀k,Ef (ecK l k)/\∀j,j< k->Spn (ecK l k) (l.getD j [])
 |0=>⟨fun b hb=>(by cases hb),fun j d=>by omega⟩
 |k+1=>by
  obtain⟨h,f⟩:=FM l k;obtain⟨g,a,c⟩:=ecT_red (p:=l.getD k []) (kG l k) h;rw[ecK];refine⟨g,fun j d=>?_⟩;by_cases e:j=k;rw[e];exact c;exact(f j (by omega)).mono a
theorem ecL_span{l:Lw}:Ef (ecL l)/\∀u,Spn (ecL l) u↔Spn l u:=by
 obtain⟨e,d⟩:=FM l l.length;refine⟨e,fun u=>⟨fun h=>h.mono fun b hb=>?_,fun h=>h.mono fun p hp=>?_⟩⟩;exact zo (Q:=Spn l) (fun p b c r hp hb h=>hp.comb hb h) (.zero fun i=>rfl) l (fun p hp=>Spn.of hp) _ b hb;obtain⟨j,a,rfl⟩:=List.mem_iff_getElem.1 hp;have:=d j a;rwa[List.getD_eq_getElem?_getD,List.getElem?_eq_getElem a] at this
end
end Go.Abs
