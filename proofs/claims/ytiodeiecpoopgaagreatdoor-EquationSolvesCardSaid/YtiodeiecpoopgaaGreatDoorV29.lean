/- Part V29. -/
import Derived.Test.YtiodeiecpoopgaaGreatDoorV28
import Derived.ProofKit
import Derived.OpenShut
import Derived.Carry
import Derived.Deep.Slices
import Derived.Deep.Strs
import Derived.ChangeSame
import Derived.ChangeArms
set_option linter.all false
namespace Go.Proofs.YtiodeiecpoopgaaGreatDoor
open Go.Abs
set_option maxRecDepth 20000
set_option maxHeartbeats 1000000
def mnX(k:Nat):List RQ:=List.replicate k r0++[rq 1]
theorem Fb(k:Nat):vR (mnX k)=shP k [1]:=by unfold mnX;rw[qX,ud];rfl
theorem I5(k:Nat):okX (mnX k):=uT (wT _) (fun z a=>by rw[List.mem_singleton.1 a];exact cK _)
theorem yV(k:Nat)(hk:k<=1000000):FS 53 [i64 k] (.arr (rE (mnX k))):=by
 have a:FS 54 [i64 1] (.agg (rC (rq 1))):=iW 1 (by decide);refine f_c Tryz.func53 ?_;refine r_z 1 ?_;refine ae (r_d aT 6 ?_);refine a_1 ?_;refine o_1 (.makeSlice (l:=k) (c:=k) rfl rfl te_37.h TZ.h rfl TB.h (by first|omega|(simp;done)|(simp;omega)) (by first|omega|(simp;done)|(simp;omega)) (by unfold maxLen;first|omega|(simp;done)|(simp;omega))) ?_;refine c_s (a) ?_;refine a_1 ?_;refine o_2 (.append_l rfl rfl rfl te_37.h rfl rfl rfl rfl rfl d_o (En _) rfl rfl (.lsl rfl (nle rfl)) TZ.h rfl TB.h d_o (by first|(simp[maxLen];done)|(simp[maxLen];omega))) ?_;refine a_1 ?_;refine ao (n_k ?_);exact aj (Fin.tmp rfl (Cv.shutZ (c:=1) aB rfl (fun _ _ h=>by cases h) rfl rfl))
theorem Jw(X:List RQ)(a b:Rat)(s:Nat)(hx:okX X)(hs:bdL (vR X) s)(hs1:1<=s)(hl:X.length<=200)(ha:qs a<=256)(hb:qs b<=256)(hlim:s<=100000000):
    FS 60 [.arr (rE X),.agg (rC (rq a)++rC (rq b))] (.agg (rC (rq (aE (aL (vR X)) b- aE (aL (vR X)) a)))):=by
 have e:=yW X s hx hs (by omega) (by omega);have g:=cO X;have il:=iV (vR X);have ib:=sT hs hs1 (by omega);generalize aL (vR X)=I at *
 have f:(rP I).length=I.length:=by simp[rP]
 have j:=Nat.mul_le_mul (show(rP I).length+2<=203 by omega) (show s+21+256+1<=100000278 by omega);have e1:=Be (rP I) (rq b) (s+21) 256 (fq _) (cK _) (by rw[c6];exact ib) (by omega) hb (by omega) (by omega);have e2:=Be (rP I) (rq a) (s+21) 256 (fq _) (cK _) (by rw[c6];exact ib) (by omega) ha (by omega) (by omega);rw[c6] at e1 e2;have i:=Nat.mul_le_mul (show I.length<=201 by omega) (show s+21+256+1<=100000278 by omega);have b1:=j7 hb ib;have b2:=j7 ha ib;have d:=Fv (rq (aE I b)) (rq (aE I a)) (cK _) (cK _) (by show qs (aE I b)+qs (aE I a)<=_;omega);refine f_n Tryz.func60 ?_ ?_;exact ac (aY X) (ac (aD fun c h=>(List.mem_append.1 h).elim (b6 _ c) (b6 _ c)) af);refine r_z 2 ?_;refine r_c 3 (e) ?_;refine a_z ?_;refine ae (r_d aT 10 ?_);refine c_s (e1) ?_;refine c_s (e2) ?_;refine c_s (d) ?_;refine a_1 ?_;refine ao (n_k ?_);exact aj (c_e (eU _))


end Go.Proofs.YtiodeiecpoopgaaGreatDoor
namespace Go.Proofs.YtiodeiecpoopgaaGreatDoor
open Go.Abs Go.Deep Go.RowKit
set_option maxRecDepth 20000
theorem DL{M:Nat->Prop}{β:Bq}{w:World}{b s off:Nat}{f:Nat->La}:∀(n j:Nat),(∀i,i< j+n->(f i).length=s/\RVcs M β w b (f i) (off+i* s))->RVess M β w b s ((List.range' j n).map f) (off+j* s)
 |0,_,_=>trivial
 |n+1,j,h=>by
  rw[List.range'_succ,List.map_cons];refine⟨(h j (by omega)).1,(h j (by omega)).2,?_⟩;have:=DL (M:=M) (β:=β) (w:=w) (b:=b) (s:=s) (off:=off) n (j+1) (fun i a=>h i (by omega));rwa[Nat.add_mul,Nat.one_mul,<-Nat.add_assoc] at this
theorem o5{w:World}{b o:Nat}{v:Value}(h:w.cell? ⟨b,o,none⟩=some v):∃N,aR w b=some N:=by
 unfold World.cell? at h;unfold aR;split at h
 ·rename_i c _ _ e;rw[show w.heap[b]?=_ from e];exact⟨c.size,rfl⟩
 cases h
theorem tyS:(Tryz.prog).underlying 27=some (.slice 24):=by kernel_rfl
theorem tyN:∃f0 f1 f2,(Tryz.prog).underlying 24=some (.struct #[f0,f1,f2])/\f0.type=2/\f0.offset=0/\f1.type=2/\f1.offset=1/\f2.type=5/\f2.offset=2:=
 ⟨{name:= "N",type:=2,offset:=0,embedded:=false,tag:= "",pkgPath:= "",byteOffset:=0},{name:= "D",type:=2,offset:=1,embedded:=false,tag:= "",pkgPath:= "",byteOffset:=8},{name:= "Pow",type:=5,offset:=2,embedded:=false,tag:= "",pkgPath:= "",byteOffset:=16},by kernel_rfl,rfl,rfl,rfl,rfl,rfl,rfl⟩
theorem Eu:(Tryz.prog).cellsOf 24=3:=by kernel_rfl
theorem tyc2:(Tryz.prog).cellsOf 2=1:=by kernel_rfl
theorem tyc5:(Tryz.prog).cellsOf 5=1:=by kernel_rfl
theorem tyu2:(Tryz.prog).underlying 2=some (.int .i64):=by kernel_rfl
theorem tyu5:(Tryz.prog).underlying 5=some (.int .u8):=by kernel_rfl
theorem yJ{H:Type}{enc:TypeId×Value->H}{W:World}{base n:Nat}{spare:Nat->Bool}{held:Bool}{cs:List Value}{x:DataW H×List MemPlace}(h:DataW.trod enc Tryz.prog W base spare held n 24 cs=some x):
    ∃r:fV,ls r.1/\ls r.2.1/\r.2.2<=255/\cs=[.int .i64 r.1,.int .i64 r.2.1,.int .u8 r.2.2]:=by
 obtain⟨v,w,y,o,i,f,p,g,j,q⟩:=tyN;obtain⟨z,u,A,m,_,hl,c,d,b⟩:=trod_struct3 o h;rw[i,f,tyc2] at c;rw[p,g,tyc2] at d;rw[j,q,tyc5] at b;rw[Eu] at hl;obtain⟨k,e0,_,l⟩:=DataW.trod_int tyu2 c;obtain⟨s,e1,_,e⟩:=DataW.trod_int tyu2 d;obtain⟨a,e2,_,t⟩:=DataW.trod_int tyu5 b
 match cs,hl with
 |[c0,c1,c2],_=>
  simp at e0 e1 e2;subst e0;subst e1;subst e2;have b2:=bounds_u8 t;refine⟨(k,s,a.toNat),bounds_i64 l,bounds_i64 e,?_,?_⟩;show a.toNat<=255;omega;show _=[_,_,Value.int .u8 ((a.toNat:Nat):Int)];rw[Int.toNat_of_nonneg b2.1]
theorem tp{H:Type}{enc:TypeId×Value->H}{W:World}{a:Option Addr}{len cap:Nat}{d:DataW H}{ps:List MemPlace}(h:DataW.Trod enc Tryz.prog W 0 (fun _=>true) true 27 (.slice a len cap) d ps):
    ∃l:List fV,okR l/\RV (fun _=>False) (fun _=>none) W (.arr (nR l)) (.slice a len cap):=by
 obtain⟨J,Q⟩:=h;rcases open_slice tyS Q with⟨o,_⟩|⟨x,G,F,m,n,D,Y,o,_,hl,V,t,_,C⟩
 simp[Value.cells] at o;obtain⟨rfl,rfl,rfl⟩:=o;exact⟨[],(fun r B=>by cases B),none,0,rfl,Nat.le_refl _,by decide,.inl rfl⟩;simp[Value.cells] at o;obtain⟨rfl,rfl,rfl⟩:=o;simp only[if_true] at t;have A:m=cap:=t;rw[A] at C;rw[Eu] at C
 have z:∀i,i< len->∃r:fV,(ls r.1/\ls r.2.1/\r.2.2<=255)/\W.cells? 0 (x.add (i* 3)) 3=some [.int .i64 r.1,.int .i64 r.2.1,.int .u8 r.2.2]:=fun i y=>by
  obtain⟨T,S,O⟩:=C i (by omega);obtain⟨r,N,U,L,e⟩:=yJ O;exact⟨r,⟨N,U,L⟩,by rw[S,e]⟩
 obtain⟨R,K⟩:=choose_lt (α:=fV) z;refine⟨(List.range len).map R,?_,some x,cap,by simp[nR],by simpa[nR] using hl,V,?_⟩;intro r B;obtain⟨i,y,rfl⟩:=List.mem_map.1 B;exact(K i (List.mem_range.1 y)).1;by_cases h0:len=0;subst h0;exact .inl rfl;right
 have c:∀i,i< len->∀j (v:Value),[.int .i64 (R i).1,.int .i64 (R i).2.1,.int .u8 (R i).2.2][j]?=some v->W.cell? (x.add (i* 3+j))=some v:=fun i y j v hv=>by
  have X:j< 3:=by
   have:=(List.getElem?_eq_some_iff.1 hv).1;simpa using this
  have:=(World.cells?_some (K i y).2).2.2 j X;rw[hv,Go.Deep.add_add] at this;exact this
 have E:=c 0 (by omega) 0 _ rfl;obtain⟨b,off,u⟩:=x;have q:u=none:=by simpa[Addr.add] using World.cell?_spot E
 subst q
 have g:∀k,Addr.add ⟨b,off,none⟩ k=⟨b,off+k,none⟩:=fun k=>by
  unfold Addr.add;by_cases hk:k=0;simp[hk];simp[hk]
 refine⟨b,off,3,rfl,o5 (by rw[g] at E;exact E),(fun h=>h),?_⟩;have:=DL (M:=fun _=>False) (β:=fun _=>none) (w:=W) (b:=b) (s:=3) (off:=off) (f:=fun i=>nuC (R i).1 (R i).2.1 (R i).2.2) len 0 (fun i y=>⟨rfl,?_⟩);rw[Nat.zero_mul,Nat.add_zero,<-List.range_eq_range'] at this;rw[nR,List.map_map];exact this;have p:i< len:=by omega
 refine⟨⟨_,?_,rfl⟩,⟨_,?_,rfl⟩,⟨_,?_,rfl⟩,trivial⟩;have:=c i p 0 _ rfl;rw[g] at this;exact this;have:=c i p 1 _ rfl;rw[g] at this;rw[Nat.add_assoc];exact this;have:=c i p 2 _ rfl;rw[g] at this;rw[Nat.add_assoc,Nat.add_assoc];exact this
end Go.Proofs.YtiodeiecpoopgaaGreatDoor
namespace Go.Proofs.YtiodeiecpoopgaaGreatDoor
open Go.Abs
set_option maxRecDepth 100000
set_option maxHeartbeats 2000000











section
variable {a b:Rat}(h:a< b){k:Nat}(hk:1<=k/\k<=4)(ha:qs a<=20)(hb:qs b<=20)
include h hk ha hb
end
section
variable {a b a' b':Rat}(h:a< b)(h':a'< b'){k:Nat}(hk:1<=k/\k<=4)(ha:qs a<=20)(hb:qs b<=20)(ha':qs a'<=20)(hb':qs b'<=20)
include h h' hk ha hb ha' hb'
end


end Go.Proofs.YtiodeiecpoopgaaGreatDoor
namespace Go.Proofs.YtiodeiecpoopgaaGreatDoor
open Go.Abs Go.Deep Go.RowKit Go.WideShapes
set_option maxRecDepth 20000
def okN(r:fV):Prop:=ls r.1/\ls r.2.1/\r.2.2<=255
theorem numP_of{H:Type}{enc:TypeId×Value->H}{W:World}{base:Nat}{v:Value}{d:DataW H}{ps:List MemPlace}(hv:Value.okWide Tryz.prog W .any base 24 v)(h:DataW.Trod enc Tryz.prog W 0 (fun _=>true) true 24 v d ps):
    ∃r:fV,okN r/\RV (fun _=>False) (fun _=>none) W (.agg (nuC r.1 r.2.1 r.2.2)) v:=by
 obtain⟨n,m,l,j,_⟩:=tyN
 obtain⟨cs,rfl,_⟩:∃cs,v= .agg cs/\True:=by
  unfold Value.okWide at hv;rw[j] at hv;obtain⟨cs,i,_⟩:=hv;exact⟨cs,i,trivial⟩
 obtain⟨a,c⟩:=h;obtain⟨r,g,b,f,e⟩:=yJ c;refine⟨r,⟨g,b,f⟩,cs,rfl,?_⟩;have k:cs.toList=[.int .i64 r.1,.int .i64 r.2.1,.int .u8 r.2.2]:=by simpa[Value.cells] using e
 rw[k];exact⟨_,_,rfl,rfl,_,_,rfl,rfl,_,_,rfl,rfl,rfl⟩
end Go.Proofs.YtiodeiecpoopgaaGreatDoor
namespace Go.Proofs.YtiodeiecpoopgaaGreatDoor
open Go.Abs
set_option maxRecDepth 20000
def nk(r:fV):Bool:=decide (¬((r.2.2:Int) % 4≠0)/\¬r.1> 999999/\¬r.1< -999999/\¬r.2.1> 999999/\¬r.2.1< -999999)
def fC(l:List fV)(k:Nat):Bool:=l.all nk && decide (l.length<=k)
theorem pU(l:List fV)(k:Nat)(hl:l.length<=9223372036854775807)(hk:k<=1000000):FS 6 [.arr (nR l),i64 k] (bln (fC l k)):=by
 have m:(nR l).length=l.length:=by simp[nR]
 refine f_n Tryz.func6 ?_ ?_;exact ac (aG (dd l)) (ac (ag _) af);refine r_z 1 ?_;refine ae (r_z 1 ?_);refine aC (fun _:Unit=>⟨[(0,.arr (nR l)),(1,i64 k)],[],1,45⟩) (fun _=>l.all nk=true) ?_ ?_;refine ah (ax (fun j:Nat=>⟨[(5,i64 ((j:Nat):Int)),(0,.arr (nR l)),(1,i64 k)],[],1,45⟩) (fun j=>l.length- j) (fun j=>j<=l.length/\(l.take j).all nk=true) 0 ⟨Nat.zero_le _,rfl⟩ ?_ ?_);have:=(aG (dd l));exact s_f [];rintro j ⟨o,g⟩;by_cases hlt:j< l.length;obtain⟨r,n⟩:∃r,l[j]?=some r:=⟨_,List.getElem?_eq_getElem hlt⟩
 have c:(nR l)[((j:Nat):Int).toNat]?=some (nuC r.1 r.2.1 r.2.2):=by
  rw[Int.toNat_natCast,nR,List.getElem?_map,n];rfl
 have b:nk r=false->fC l k=false:=fun h=>by
  unfold fC;rw[Bool.and_eq_false_iff];exact .inl (List.all_eq_false.2 ⟨r,List.mem_of_getElem? n,by rw[h];decide⟩)
 refine ae (q_z 4 ?_);refine cT (am (ae (ah (s_r 6 ?_))));refine a_2 ?_;refine i_x c ?_;refine l_x c ?_;refine a_z ?_;by_cases c0:((r.2.2:Int) % 4≠0);have a:nk r=false:=decide_eq_false (by rintro⟨e0,e1,e2,d,f⟩;exact e0 c0);rw[b a];refine s_r 24 ?_;refine a_3 ?_;refine o_0 (.bin rfl rfl (vT bR ((by simpa using c0)))) ?_;refine a_z ?_;refine cT (r_z 1 ?_);exact aj (t_e (ag _));by_cases c1:r.1> 999999;have a:nk r=false:=decide_eq_false (by rintro⟨e0,e1,e2,d,f⟩;exact e1 c1);rw[b a];refine s_r 24 ?_;refine a_3 ?_;refine o_0 (.bin rfl rfl (vF bR ((by simpa using c0)))) ?_;refine d_z ?_;refine cT (r_z 1 ?_);exact aj (t_e (ag _));by_cases c2:r.1< -999999;have a:nk r=false:=decide_eq_false (by rintro⟨e0,e1,e2,d,f⟩;exact e2 c2);rw[b a];refine s_r 24 ?_;refine a_3 ?_;refine o_0 (.bin rfl rfl (vF bR ((by simpa using c0)))) ?_;refine d_z ?_;refine cT (r_z 1 ?_);exact aj (t_e (ag _));by_cases c3:r.2.1> 999999;have a:nk r=false:=decide_eq_false (by rintro⟨e0,e1,e2,d,f⟩;exact d c3);rw[b a];refine s_r 24 ?_;refine a_3 ?_;refine o_0 (.bin rfl rfl (vF bR ((by simpa using c0)))) ?_;refine d_z ?_;refine cT (r_z 1 ?_);exact aj (t_e (ag _));by_cases c4:r.2.1< -999999;have a:nk r=false:=decide_eq_false (by rintro⟨e0,e1,e2,d,f⟩;exact f c4);rw[b a];refine s_r 24 ?_;refine a_3 ?_;refine o_0 (.bin rfl rfl (vF bR ((by simpa using c0)))) ?_;refine d_z ?_;refine cT (r_z 1 ?_);exact aj (t_e (ag _));have a:nk r=true:=decide_eq_true ⟨c0,c1,c2,c3,c4⟩;refine s_r 24 ?_;refine a_3 ?_
 refine o_0 (.bin rfl rfl (vF bR ((by simpa using c0)))) ?_;refine d_z ?_;refine cF (am (r_m 3 ?_));refine a_z ?_;refine⟨j+1,by omega,⟨hlt,?_⟩,?_⟩;rw[cm n,List.all_append,g];simp[a];have:=(aG (dd l));exact s_f [];have i:l.take j=l:=List.take_of_length_le (by omega);rw[i] at g;refine ae (q_z 4 ?_);refine cF (aw ⟨(),g,?_⟩);have:=(aG (dd l));exact s_f [];rintro _ g
 have e:fC l k=decide ((((nR l).length:Nat):Int)<=(k:Int)):=by
  unfold fC;rw[g,Bool.true_and,m];exact decide_eq_decide.2 (by omega)
 rw[e];refine r_z 5 ?_;exact aj (t_e (ag _))
theorem good_qs{r:fV}(h:nk r=true)(hb:ls r.1)(hd:ls r.2.1):qs (pr r.1 r.2.1 r.2.2)<=20:=by
 obtain⟨j,i,f,k,g⟩:=of_decide_eq_true h;have hp:r.2.2 % 4=0:=by omega
 have b:bl r.1.natAbs<=20:=iq (by omega);unfold pr;rw[hp];show qs (Rat.divInt r.1 (ww r.2.1))<=20;obtain⟨d,a⟩:∃d,d=ww r.2.1:=⟨_,rfl⟩;have c:d≠0:=by rw[a];unfold ww;split <;> omega
 have e:bl d.natAbs<=20:=by rw[a];unfold ww;split <;> exact iq (by omega)
 rw[<-a];by_cases hn:d< 0;rw[oK _ d hn];exact fF (by omega) (by rw[Int.natAbs_neg];exact b) (by omega);rw[oJ _ d (by omega)];exact fF (by omega) b (by omega)
theorem oY{l:List fV}{k:Nat}(h:fC l k=true)(ho:okR l):bdL (nL l) 20/\(nL l).length<=k:=by
 unfold fC at h;rw[Bool.and_eq_true,List.all_eq_true] at h;refine⟨fun q b=>?_,by simpa[nL] using h.2⟩;obtain⟨r,a,rfl⟩:=List.mem_map.1 b;exact good_qs (h.1 r a) (ho r a).1 (ho r a).2.1
theorem zb(N D N' D':Int)(k k':Nat)(hN:ls N)(hD:ls D)(hk:k<=255)(hN':ls N')(hD':ls D')(hk':k'<=255):
    FS 8 [.agg (nuC N D k++nuC N' D' k')] (.tup [.agg (spC (pr N D k) (pr N' D' k')),.agg (rC (rq (pr N D k))++rC (rq (pr N' D' k')))]):=by
 have b1:=qf N D k hN hD hk;have b2:=qf N' D' k' hN' hD' hk';obtain⟨v,hv⟩:∃v,v=pr N D k:=⟨_,rfl⟩;obtain⟨w,b⟩:∃w,w=pr N' D' k':=⟨_,rfl⟩;rw[<-hv] at b1⊢;rw[<-b] at b2⊢;refine f_n Tryz.func8 ?_ ?_;exact ac (aD fun c a=>(List.mem_append.1 a).elim (iQ _ _ _ c) (iQ _ _ _ c)) af;refine r_z 3 ?_;refine r_c 10 (b1) ?_;refine a_z ?_;refine r_c 10 (b2) ?_;refine a_z ?_;refine ae (r_d aT 8 ?_);refine a_8 ?_;refine ao (n_k ?_);refine aj (Fin.many ⟨_,_,rfl,⟨_,_,_,_,_,rfl,rfl,rfl,.inl ⟨TG.h,_,TS.h,nle rfl,rfl⟩⟩,⟨_,_,rfl,⟨_,_,_,_,_,rfl,rfl,rfl,.inl ⟨TG.h,_,TS.h,nle rfl,rfl⟩⟩,rfl⟩⟩ (nle rfl) ?_);exact ak (ai aB (bD _ _)) (ak (ai aB (aD fun c a=>(List.mem_append.1 a).elim (b6 _ c) (b6 _ c))) aq)
end Go.Proofs.YtiodeiecpoopgaaGreatDoor
namespace Go.Proofs.YtiodeiecpoopgaaGreatDoor
open Go.Abs Go.Deep Go.RowKit Go.WideShapes
set_option maxRecDepth 20000

end Go.Proofs.YtiodeiecpoopgaaGreatDoor
namespace Go.Proofs.YtiodeiecpoopgaaGreatDoor
open Go.Abs Go.ChangeShapes Go.Deep Go.RowKit Go.WideShapes
set_option maxRecDepth 20000
theorem tyG:∃f0 f1,(Tryz.prog).underlying 26=some (.struct #[f0,f1])/\f0.type=24/\f0.offset=0/\f1.type=24/\f1.offset=3:=
 ⟨{name:= "Low",type:=24,offset:=0,embedded:=false,tag:= "",pkgPath:= "",byteOffset:=0},{name:= "High",type:=24,offset:=3,embedded:=false,tag:= "",pkgPath:= "",byteOffset:=24},by kernel_rfl,rfl,rfl,rfl,rfl⟩
theorem tycG:(Tryz.prog).cellsOf 26=6:=by kernel_rfl
theorem gapP_of{H:Type}{enc:TypeId×Value->H}{W:World}{base:Nat}{v:Value}{d:DataW H}{ps:List MemPlace}(hv:Value.okWide Tryz.prog W .any base 26 v)(h:DataW.Trod enc Tryz.prog W 0 (fun _=>true) true 26 v d ps):
    ∃r:fV×fV,(okN r.1/\okN r.2)/\RV (fun _=>False) (fun _=>none) W (.agg (nuC r.1.1 r.1.2.1 r.1.2.2++nuC r.2.1 r.2.2.1 r.2.2.2)) v:=by
 obtain⟨B,C,o,c,s,y,w⟩:=tyG
 obtain⟨cs,rfl,_⟩:∃cs,v= .agg cs/\True:=by
  unfold Value.okWide at hv;rw[o] at hv;obtain⟨cs,c,_⟩:=hv;exact⟨cs,c,trivial⟩
 obtain⟨p,x⟩:=h;obtain⟨D,A,m,_,hl,k,n⟩:=trod_struct2 o x;rw[c,s,Eu] at k;rw[y,w,Eu] at n;rw[tycG] at hl;obtain⟨r,t,z,q,e⟩:=yJ k;obtain⟨a,j,b,g,f⟩:=yJ n
 have i:cs.toList=[.int .i64 r.1,.int .i64 r.2.1,.int .u8 r.2.2,.int .i64 a.1,.int .i64 a.2.1,.int .u8 a.2.2]:=by
  have u:(Value.agg cs).cells.toList=cs.toList:=by simp[Value.cells]
  rw[u] at e f hl;generalize cs.toList=l at *
  match l,hl with
  |[a0,a1,a2,a3,a4,a5],_=>
   simp at e f;obtain⟨rfl,rfl,rfl⟩:=e;obtain⟨rfl,rfl,rfl⟩:=f;rfl
 refine⟨(r,a),⟨⟨t,z,q⟩,⟨j,b,g⟩⟩,cs,rfl,?_⟩;rw[i];exact⟨_,_,rfl,rfl,_,_,rfl,rfl,_,_,rfl,rfl,_,_,rfl,rfl,_,_,rfl,rfl,_,_,rfl,rfl,rfl⟩
end Go.Proofs.YtiodeiecpoopgaaGreatDoor
namespace Go.Proofs.YtiodeiecpoopgaaGreatDoor
open Go.Abs
set_option maxRecDepth 20000
set_option maxHeartbeats 2000000











end Go.Proofs.YtiodeiecpoopgaaGreatDoor
namespace Go.Proofs.YtiodeiecpoopgaaGreatDoor
open Go.Abs Go.Deep Go.RowKit Go.WideShapes
set_option maxRecDepth 20000

end Go.Proofs.YtiodeiecpoopgaaGreatDoor
namespace Go.Proofs.YtiodeiecpoopgaaGreatDoor
open Go.Abs Go.ChangeShapes Go.Deep Go.RowKit Go.WideShapes
set_option maxRecDepth 20000

end Go.Proofs.YtiodeiecpoopgaaGreatDoor
namespace Go.Proofs.YtiodeiecpoopgaaGreatDoor
open Go.Abs
set_option maxRecDepth 20000
set_option maxHeartbeats 4000000

section
variable {T:Lq}{n:Nat}(hn:1<=n/\n<=5)(hl:T.length=n+1)(ht:ar T=T)(hm:ba T=1)(hb:bdL T 20)
include hn hl ht hm hb
end


section
variable {n i j:Nat}{f:Nat->Rat}
theorem um{g:Nat->Rat}(h:∀i,i< n->f i=g i):aJ n f=aJ n g:=List.map_congr_left fun i a=>h i (List.mem_range.1 a)
theorem xW(h:i< n):(aJ n f)[i]?=some (f i):=by simp[aJ,h]
theorem HR{v:Rat}(h:j< n):(aJ n f).set j v=aJ n (fun i=>if i=j then v else f i):=by
 apply List.ext_getElem?;intro i;rw[List.getElem?_set];by_cases hi:i< n;rw[xW (f:=fun i=>if i=j then v else f i) hi];by_cases e:j=i;rw[if_pos e,if_pos (by simp;omega),if_pos e.symm];rw[if_neg e,xW hi,if_neg (fun a=>e a.symm)];rw[List.getElem?_eq_none (by simp;omega),if_neg (show¬j=i by omega),List.getElem?_eq_none (by simp;omega)]
abbrev I4(M:Mx)(n i:Nat):Lc:=rE (rP (aJ (n+1) (M i)))
theorem pt{M:Mx}(hj:j<=n):∀e,e=j->(I4 M n i)[e]?=some (rC (rq (M i j))):=fun e a=>by
 rw[a];unfold I4 rE rP;rw[List.getElem?_map,List.getElem?_map,xW (by omega)];rfl
theorem I3{M M':Mx}{v:Rat}(hj:j<=n)(h1:M' i j=v)(h2:∀k,k<=n->k≠j->M' i k=M i k):∀e,e=j->(I4 M n i).set e (rC (rq v))=I4 M' n i:=fun e a=>by
 rw[a];unfold I4;rw[CQ];congr 1;unfold rP;rw[<-List.map_set,HR (by omega)];congr 1;refine um fun k b=>?_;by_cases e:k=j;rw[if_pos e,e,h1];rw[if_neg e,h2 k (by omega) e]
theorem sgZ_zero{q:Rat}:sgZ q.num=0↔q=0:=by
 constructor;intro h;unfold sgZ at h;split at h
 ·rename_i a
  exact Rat.num_eq_zero.1 a
 split at h;cases h;cases h;intro h;subst h;rfl
end


theorem cmpQ_eq(a b:Rat):(fl a b==(0:Int))=decide (a=b):=by
 unfold fl;by_cases h1:a< b;have c:a≠b:=fun e=>by rw[e] at h1;exact absurd h1 Rat.lt_irrefl
 simp[h1,c];by_cases c:a=b;simp[h1,c,Rat.lt_irrefl];simp[h1,c]
theorem mxL_le{p:Lq}{s:Nat}(h:bdL p s)(hs:1<=s):mxL p<=s:=by
 unfold mxL
 induction p with
 |nil=>exact hs
 |cons a l c=>
  have e:=h a (List.mem_cons_self ..);have d:=c fun q b=>h q (List.mem_cons_of_mem _ b);rw[List.foldr_cons];omega
def pkR(p:Lq×Lq):La:=[.arr (rE (rP p.1)),.arr (rE (rP p.2))]
def keR(k:Ke):Lc:=k.map pkR
@[simp] theorem j2 (k:Ke):(keR k).length=k.length:=by simp[keR]
theorem ki(k:Ke):∀x∈keR k,∀c∈x,Closed c:=fun x a=>by
 obtain⟨p,_,rfl⟩:=List.mem_map.1 a;exact ac (aY _) (ac (aY _) af)
theorem b5(k:Ke):Closed (.arr (keR k)):=aG (ki k)
theorem yT{k:Ke}{i:Nat}{p:Lq×Lq}(h:k[i]?=some p):∀e,e=i->(keR k)[e]?=some (pkR p):=fun e a=>by
 rw[a,keR,List.getElem?_map,h];rfl
def bRq(a:Rat):AV:= .aptr [rC (rq a)] 0 0
theorem iS(a:Rat):Closed (bRq a):=aU (b6 _)
end Go.Proofs.YtiodeiecpoopgaaGreatDoor
