/- Part Y35 of the proof. -/
import Derived.Test.YtjgokhkahkmpbaaGreatDoorY34
import Derived.Test.YtjgokhkahkmpbaaGreatDoorRows
import Derived.JoinedOf
import Derived.SevenTiedAt
import Derived.Lib.LaidTab
set_option linter.all false
namespace Go.Proofs.YtjgokhkahkmpbaaGreatDoor
open Go.Abs
set_option maxRecDepth 100000
set_option maxHeartbeats 8000000
abbrev fW:Lq:=zR [0,0,1]
abbrev cuW:Lq:=zR [0,0,0,1]
abbrev dtW:Dt:=⟨aH 3 daX,zR [0,1,4],[]⟩
abbrev gW:Lq:=gz fW [-1/8,1]
def Dr:Bool:=match fS 40 (fc gW) with
 |some c=>decide (pv c 0) && (decide (sh c 1) && (decide (fo c 1=cG c 0+1) && (decide (c.p.length<=1000) && (decide (cG c 0=0) && (match n8 40 c.p with|some c2=>decide (0< Fj c2) && (decide (td 40 40 c2 0 gW 12=some (-1/8,-1/8)) && (decide (rJ 40 40 c2 0 (gz gW [1/8])=some (-1)) && decide (rJ 40 40 c2 0 (lR gW [1/8])=some 0)))|none=>false)))))
 |none=>false
theorem w8_near:Dr=true:=by decide+kernel
theorem w8_fit:(vx 6 dtW 1).map (λr=>(r.1,r.2.1,r.2.2))=some ([-1/2,2],1/2,[0,1,2]):=by decide+kernel
theorem w8_try:(oX 6 0 2 dtW [] ⟨[],0,false⟩).map (λs=>(s.best,s.err,s.got))=some ([1,1],1,true):=by decide+kernel
theorem w8_lev:BH (mnD fW (0,1) 1) (List.range 3)=some [-1/8,1]/\hD (mnD fW (0,1) 1) (List.range 3)=1/8/\aH 3 (jh (0,1) 1)=[0,1/2,1]:=by decide+kernel
theorem w8_dt:Ep dtW=true/\smL dtW.X:=by decide+kernel
theorem w8_ec:oY 10 (lX [jI (-1,1),((1:Rat)- -1) * (1/ 2)] cuW)=some [0,3/4,0,1/4]/\okEc cuW (-1,1) 2 [0,3/4,0,1/4]:=by decide+kernel
theorem w8_mn:okMn fW (0,1) 1/\smL fW/\smL [(-1:Rat)/8,1]:=by decide+kernel
theorem w8_fine:(∀j,j< 13->sm (cw j))/\(∀j,j< 12->cw 10/ 4< cw j)/\cw 12<=cw 10/ 4/\sm (cw 200)/\cw 200<=cw 10/\sm (cw 10/ 4)/\sz1 (cw 10)/\0< cw 10:=by decide+kernel
theorem w8_e2:lX [-(jI (-1,1) * fX (-1,1)),fX (-1,1)] (ecP [0,3/4,0,1/4] 2)=[0,3/4]/\ecB [0,3/4,0,1/4] 2 1=1/4:=by decide+kernel
theorem w8_g:ea gW 0/\ea gW 1/\aO gW 0=1/8/\aO gW 1=1/8/\smL gW/\gW.length<=1000/\(fc gW).length<=1000/\lu (fc gW)=0/\dr 0 1<=0:=by decide+kernel
theorem w8_sp:(gQ (1/8) 12,upQ (1/8) 12)=((1/8,1/8):Sp)/\dsM (joS (abS (1/8,1/8)) (abS (1/8,1/8))) (λ_=>(-1/8,-1/8)) 1=(1/8,1/8):=by decide+kernel
theorem w8_pt:xd [(0:Rat),1/2,1]=true/\smL [(0:Rat),1/2,1]/\(∀i,i< 3->(0:Rat)<=coP [0,1/2,1] i/\coP [(0:Rat),1/2,1] i<=1/\ea gW (coP [0,1/2,1] i)/\sm (aO gW (coP [0,1/2,1] i))/\(1/8:Rat)<=c8 (aO gW (coP [0,1/2,1] i)))/\(∀i,i< 2->sgZ (aO gW (coP [0,1/2,1] (i+1))).num≠sgZ (aO gW (coP [0,1/2,1] i)).num):=by decide+kernel
theorem w8_t1:CY [-1/2,2]=[50,32,120,32,45,32,49,47,50]/\Gz [-1/2,2]/\kq (1/2)=[49,47,50]/\okT (1/2)/\CY [1,1]=[120,32,43,32,49]/\Gz [1,1]/\kq 1=[49]/\okT 1/\CY [0,3/4]=[51,47,52,32,120]/\Gz [0,3/4]/\kq (1/4)=[49,47,52]/\okT (1/4):=by decide+kernel
theorem w8_f0:ea (gz fW []) 0/\ea (gz fW []) 1/\sm (aO (gz fW []) 0)/\sm (aO (gz fW []) 1)/\c8 (aO (gz fW []) 0)<=0/\0< c8 (aO (gz fW []) 1)/\db fW<=40/\db ([]:Lq)<=1/\db fW=2/\db [(-1:Rat)/8,1]<=1:=by decide+kernel
theorem wk8_fit:FS 27 [.agg (dC dtW),i64 1] (.tup [.agg (beC [-1/2,2] (1/2) [0,1,2]),i64 0]):=by
 have h:=w8_fit;cases hf:vx 6 dtW 1 with
 |none=>rw[hf] at h;cases h
 |some r=>
 rw[hf] at h;have e:(r.1,r.2.1,r.2.2)=(([-1/2,2],1/2,[0,1,2]):Lq×Rat×Ln):=Option.some.inj h;have:=fs_Fit 6 dtW 1 r w8_dt.1 w8_dt.2 δ hf;rw[show r.1=[-1/2,2] from congrArg (·.1) e,show r.2.1=1/2 from congrArg (·.2.1) e,show r.2.2=[0,1,2] from congrArg (·.2.2) e] at this;exact this
theorem Ft:FS 29 [.agg (dC dtW),i64 1,i64 0] (.tup [.arr (pE [1,1]),.agg (qC 1),i64 0]):=by
 have h:=w8_try;cases hf:oX 6 0 2 dtW [] ⟨[],0,false⟩ with
 |none=>rw[hf] at h;cases h
 |some s=>
 rw[hf] at h;obtain⟨B,E,G⟩:=s;have e:(B,E,G)=(([1,1],1,true):Lq×Rat×Bool):=Option.some.inj h;cases e;have:=fs_Grid 6 dtW 1 0 [1,1] 1 w8_dt.1 w8_dt.2 δ δ (by rw[show wi 0 256=0 by decide];exact hf) δ;rw[show aA ([1,1]:Lq).reverse=[1,1] by decide+kernel] at this;exact this
theorem yG:∃c c2:Cnt,Turn 40 gW (0,1) c 1/\cG c 0=0/\n8 40 c.p=some c2/\0< Fj c2/\td 40 40 c2 0 gW 12=some (-1/8,-1/8)/\rJ 40 40 c2 0 (gz gW [1/8])=some (-1)/\rJ 40 40 c2 0 (lR gW [1/8])=some 0:=by
 have h:=w8_near;unfold Dr at h;cases hc:fS 40 (fc gW) with
 |none=>rw[hc] at h;cases h
 |some c=>
 rw[hc] at h;simp only[Bool.and_eq_true,decide_eq_true_eq] at h;obtain⟨h1,h2,h3,h4,h5,h6⟩:=h;cases hp:n8 40 c.p with
 |none=>rw[hp] at h6;cases h6
 |some c2=>
 rw[hp] at h6;simp only[Bool.and_eq_true,decide_eq_true_eq] at h6;obtain⟨g1,g2,g3,g4⟩:=h6;obtain⟨_,_,_,_,k1,k2,k3,k4,k5⟩:=w8_g;exact⟨c,c2,⟨hc,δ,h1,h2,⟨δ,δ⟩,k5,k4,k1,k2,k3,h4,h3⟩,h5,hp,g1,g2,g3,g4⟩
theorem Fs:FS 30 [.arr (pE fW),.agg (spC 0 1),i64 1,.agg (qC (cw 10))] (.tup [.agg (naC [-1/8,1] [0,1/2,1] (1/8) (1/8)),i64 0]):=by
 obtain⟨c,c2,t,b0,hp,ha,hv,_,_⟩:=yG;obtain⟨g1,g2,g3,g4,g5,g6,g7,g8,g9⟩:=w8_g;obtain⟨f1,f2,f3,f4,f5,f6,f7,f8⟩:=w8_fine;obtain⟨l1,l2,l3⟩:=w8_lev;obtain⟨s1,s2⟩:=w8_sp;have hfi:=Hr (cw 10/ 4) 12 δ f2 f3 f6 f1;have hval:=ET 40 40 c.p 0 12 c2 gW (-1/8,-1/8) hp δ (Int.le_refl 0) ha (by decide+kernel) ω hv
 have hdi:=z8 40 gW (0,1) c 1 12 (λ_=>(-1/8,-1/8)) (1/8,1/8) (1/8,1/8) t δ g1 g2 (by rw[g3];decide+kernel) (by rw[g4];decide+kernel) (by rw[g3,show wi 12 256=12 by decide];exact s1.symm) (by rw[g4,show wi 12 256=12 by decide];exact s1.symm) (by decide+kernel) (by decide+kernel) (λj hj=>⟨by decide+kernel,by
  obtain rfl:j=0:=ω
  rw[show cG c ((0:Rat),(1:Rat)).1=0 from b0];exact hval⟩)
 rw[s2] at hdi;have hm:=zU fW (0,1) 1 (cw 10) [-1/8,1] 12 (1/8,1/8) w8_mn.1 f7 l1 w8_mn.2.1 w8_mn.2.2 δ δ hfi hdi (by decide+kernel) (by rw[l2];decide+kernel) (by rw[l2];decide+kernel) (by rw[l2];decide+kernel) (by rw[l2];decide+kernel);rw[l2,l3,show c8 (1/8)=1/8 by decide+kernel] at hm;exact Ce fW (0,1) 1 (cw 10) _ (by decide+kernel) δ δ f8 f7.sm δ ⟨w8_f0.2.2.2.2.2.2.1,by rw[w8_f0.2.2.2.2.2.2.2.2.1];decide⟩ δ f4 f5 hm rfl (fe _ _ _ _) rfl
theorem A2:FS 35 [.arr (pE fW),.agg (spC 0 1),i64 1,.agg (naC [-1/8,1] [0,1/2,1] (1/8) (1/8))] (bln true):=by
 obtain⟨c,c2,t,b0,hp,ha,_,h1,h2⟩:=yG;obtain⟨g1,g2,g3,g4,g5,g6,g7,g8,g9⟩:=w8_g;obtain⟨p1,p2,p3,p4⟩:=w8_pt;have r1:=Af 40 40 c.p 0 c2 (gz gW [1/8]) (-1) hp δ (Int.le_refl 0) ha (by decide+kernel) (by decide+kernel) h1;have r2:=Af 40 40 c.p 0 c2 (lR gW [1/8]) 0 hp δ (Int.le_refl 0) ha (by decide+kernel) (by decide+kernel) h2
 have hw:=BU 40 gW (0,1) c 1 (1/8) t δ g1 g2 (by rw[g3];decide+kernel) (by rw[g4];decide+kernel) (by decide+kernel) (by rw[g3];decide+kernel) (by rw[g4];decide+kernel) (λj hj=>by
  obtain rfl:j=0:=ω
  rw[show cG c ((0:Rat),(1:Rat)).1=0 from b0];exact⟨-1,0,r1,r2,δ,δ⟩)
 exact EW fW (0,1) 1 [-1/8,1] [0,1/2,1] (1/8) (1/8) gW rfl δ δ (by decide+kernel) δ w8_f0.2.2.2.2.2.2.1 w8_f0.2.2.2.2.2.2.2.2.2 δ δ w8_mn.2.1 w8_mn.2.2 hw (by decide+kernel) (by decide+kernel) rfl p1 p2 p3 (λi hi=>p4 i (by have:i+1< 3:=hi;omega))
theorem na_00:([.arr [],.arr []]++([.arr [],bln false,.arr []]++[.arr [],bln false,.arr []]):La)=naC [] [] 0 0:=by
 rw[show naC [] [] 0 0=[.arr (pE []),.arr (pE [])]++(qC 0++qC 0) from rfl,qC0];rfl
theorem A3:FS 35 [.arr (pE fW),.agg (spC 0 1),i64 1,.agg ([.arr [],.arr []]++([.arr [],bln false,.arr []]++[.arr [],bln false,.arr []]))] (bln false):=by
 obtain⟨a1,a2,a3,a4,a5,a6,a7,a8,a9,_⟩:=w8_f0;rw[na_00];have hw:=BV (gz fW []) (0,1) 0 a1 a2 a3 a4 δ a5 a6;exact EX fW (0,1) 1 [] [] 0 0 δ δ (by decide+kernel) δ a7 a8 δ δ w8_mn.2.1 (λq hq=>by cases hq) hw
theorem wk8_eco:FS 11 [.arr (pE cuW),.agg (spC (-1) 1),i64 2] (.tup [.arr (pE [0,3/4]),.agg (qC (1/4)),i64 0]):=by
 have h:=xV 10 cuW (-1,1) 2 [0,3/4,0,1/4] w8_ec.2 w8_ec.1;rw[w8_e2.1,show([0,3/4,0,1/4]:Lq).length- (2+1)=1 from rfl,w8_e2.2] at h;exact h
theorem FM:([.arr [],bln false,.arr []]:La)++qC ((1:Int):Rat)=spC 0 1:=by
 rw[show((1:Int):Rat)=1 from rfl];unfold spC;rw[qC0]
theorem qw:∀c∈([.arr [],bln false,.arr []]:La)++qC ((1:Int):Rat),Closed c:=by rw[FM];exact cu 0 1
abbrev bSp8:AV:= .aptr [[.arr [],bln false,.arr []]++qC ((1:Int):Rat)] 0 0
abbrev Fi:AV:= .aptr [beC [-1/2,2] (1/2) [0,1,2]] 0 0
theorem eX:FS 7 [] (.v (.bool true)):=by
 have hda:FS 28 [.arr (zE [0,1,4])] (.agg (dC dtW)):=EN [0,1,4] δ δ δ;have hi2:FS 31 [.arr (zE [0,0,1])] (.arr (pE fW)):=wm [0,0,1] δ δ;have hi3:FS 31 [.arr (zE [0,0,0,1])] (.arr (pE cuW)):=wm [0,0,0,1] δ δ;have hft:=wk8_fit;have hgr:=Ft;have hmi:=Fs;have hpt:=A2;have hpf:=A3;have hec:=wk8_eco;rw[<-FM] at hmi hpt hpf;have n1:=df 1 δ;have nm:=df (-1) δ;have hfi:=jk 10;rw[show wi 10 256=10 by decide] at hfi;obtain⟨t1,o1,t2,o2,t3,o3,t4,o4,t5,o5,t6,o6⟩:=w8_t1;have x1:=uz _ o1;rw[t1] at x1;have x2:=pX _ o2;rw[t2] at x2;have x3:=uz _ o3;rw[t3] at x3;have x4:=pX _ o4;rw[t4] at x4;have x5:=uz _ o5;rw[t5] at x5;have x6:=pX _ o6;rw[t6] at x6;refine f_c Tryz.func7 ?_;refine r_z 1 ?_;refine s_r 9 ?_;refine a_1 ?_;refine o_1 (.callS1 rfl rfl rfl (.shut rfl d_n (.nil)) rfl (hda)) ?_;refine c_s (hft) ?_;refine a_z ?_;refine AWp.ent (st':=⟨[(1,Fi),(2,i64 0)],[],1,112⟩) ?_ ?_;refine s_x [] (λhs=>?_) (λhs=>?_)
 ·repeat' (first|exact aF|refine aj rfl ?_ ?_|exact Cv.boxp hs rfl (aP rfl) rfl (dt _ _ _)|exact aX)
 ·repeat' (first|exact aD|refine h_c ?_ ?_|exact bG|refine ay ?_|exact ax|refine af ?_ ?_|exact Cv.boxp hs rfl (aP rfl) rfl (dt _ _ _)|exact aX)
 refine s_r 11 ?_;refine a_1 ?_;refine o_1 (.callS1 rfl rfl rfl (.shut rfl d_n (.nil)) rfl (hda)) ?_;refine c_s (hgr) ?_;refine a_z ?_;refine AWp.ent (st':=⟨[(1,Fi),(2,i64 0),(3,.arr (pE [1,1])),(4,bQ 1),(5,i64 0)],[],1,112⟩) ?_ ?_;refine s_x [] (λhs=>?_) (λhs=>?_)
 ·repeat' (first|exact aF|refine aj rfl ?_ ?_|exact ah hs (aW (dt _ _ _))|exact ah hs (aq _)|exact Cv.boxp hs rfl (aP rfl) rfl (bo _)|exact aX)
 ·repeat' (first|exact aD|refine h_c ?_ ?_|exact bG|refine ay ?_|exact ax|refine af ?_ ?_|exact ah hs (aW (dt _ _ _))|exact ah hs (aq _)|exact Cv.boxp hs rfl (aP rfl) rfl (bo _)|exact aX)
 refine r_c 4 (n1) ?_;refine a_z ?_;refine AWp.ent (st':=⟨[(1,Fi),(2,i64 0),(3,.arr (pE [1,1])),(4,bQ 1),(5,i64 0),(6,.lptr 1 0 0)],[(1,some ⟨44,6,[[.arr [],bln false,.arr []]++qC ((1:Int):Rat)]⟩)],2,112⟩) ?_ ?_;refine s_x [(1,6)] (λhs=>?_) (λhs=>?_)
 ·repeat' (first|exact aF|refine aj rfl ?_ ?_|exact ah hs (aW (dt _ _ _))|exact ah hs (aq _)|exact ah hs (aT _)|exact aX)
 ·repeat' (first|exact aD|refine h_c ?_ ?_|exact CvLL.cons (af (Cv.emp _) (af (ah hs (ag _)) (af (Cv.emp _) (CvL.clo hs (bo _))))) CvLL.nil|exact bG|refine ay ?_|exact ax|refine af ?_ ?_|exact ah hs (aW (dt _ _ _))|exact ah hs (aq _)|exact ah hs (aT _)|exact aX)
 refine AWp.ent (st':=⟨[(1,Fi),(2,i64 0),(3,.arr (pE [1,1])),(4,bQ 1),(5,i64 0),(6,bSp8)],[],1,112⟩) ?_ ?_;refine s_x [] (λhs=>?_) (λhs=>?_)
 ·repeat' (first|exact aF|refine aj rfl ?_ ?_|exact ah hs (aW (dt _ _ _))|exact ah hs (aq _)|exact ah hs (aT _)|exact Cv.boxp hs rfl (aP rfl) rfl qw|exact aX)
 ·repeat' (first|exact aD|refine h_c ?_ ?_|exact bG|refine ay ?_|exact ax|refine af ?_ ?_|exact ah hs (aW (dt _ _ _))|exact ah hs (aq _)|exact ah hs (aT _)|exact Cv.boxp hs rfl (aP rfl) rfl qw|exact aX)
 refine ac (r_d hmix 11 ?_);refine a_1 ?_;refine o_1 (.callS1 rfl rfl rfl (.shut rfl d_n (.nil)) rfl (hi2)) ?_;refine c_s (hfi) ?_;refine c_s (hmi) ?_;refine a_6 ?_;refine ao (n_k ?_);refine AWp.ent (st':=⟨[(1,Fi),(2,i64 0),(3,.arr (pE [1,1])),(4,bQ 1),(5,i64 0),(6,bSp8),(7,bNa [-1/8,1] [0,1/2,1] (1/8) (1/8)),(8,i64 0)],[],1,112⟩) ?_ ?_;refine s_x [] (λhs=>?_) (λhs=>?_)
 ·repeat' (first|exact aF|refine aj rfl ?_ ?_|exact ah hs (aW (dt _ _ _))|exact ah hs (aq _)|exact ah hs (aT _)|exact ah hs (aW qw)|exact Cv.boxp hs rfl (aP rfl) rfl (fe _ _ _ _)|exact aX)
 ·repeat' (first|exact aD|refine h_c ?_ ?_|exact bG|refine ay ?_|exact ax|refine af ?_ ?_|exact ah hs (aW (dt _ _ _))|exact ah hs (aq _)|exact ah hs (aT _)|exact ah hs (aW qw)|exact Cv.boxp hs rfl (aP rfl) rfl (fe _ _ _ _)|exact aX)
 refine s_r 14 ?_;refine a_1 ?_;refine o_1 (.callS1 rfl rfl rfl (.shut rfl d_n (.nil)) rfl (hi3)) ?_;refine c_s (nm) ?_;refine c_s (n1) ?_;refine c_s (hec) ?_;refine a_z ?_;refine AWp.ent (st':=⟨[(1,Fi),(2,i64 0),(3,.arr (pE [1,1])),(4,bQ 1),(5,i64 0),(6,bSp8),(7,bNa [-1/8,1] [0,1/2,1] (1/8) (1/8)),(8,i64 0),(9,.arr (pE [0,3/4])),(10,bQ (1/4)),(11,i64 0)],[],1,112⟩) ?_ ?_;refine s_x [] (λhs=>?_) (λhs=>?_)
 ·repeat' (first|exact aF|refine aj rfl ?_ ?_|exact ah hs (aW (dt _ _ _))|exact ah hs (aq _)|exact ah hs (aT _)|exact ah hs (aW qw)|exact ah hs (lM _ _ _ _)|exact Cv.boxp hs rfl (aP rfl) rfl (bo _)|exact aX)
 ·repeat' (first|exact aD|refine h_c ?_ ?_|exact bG|refine ay ?_|exact ax|refine af ?_ ?_|exact ah hs (aW (dt _ _ _))|exact ah hs (aq _)|exact ah hs (aT _)|exact ah hs (aW qw)|exact ah hs (lM _ _ _ _)|exact Cv.boxp hs rfl (aP rfl) rfl (bo _)|exact aX)
 refine ac (r_d hmix 68 ?_);refine a_1 ?_;refine o_0 (.bin rfl rfl (vT aM (rfl))) ?_;refine e_s (x1) ?_;refine ap rfl rfl rfl (.bin rfl rfl (vT gX rfl)) rfl rfl ?_;refine e_s (x2) ?_;refine ap rfl rfl rfl (.bin rfl rfl (vT gX rfl)) rfl rfl ?_;refine d_5 ?_;refine ap rfl rfl rfl (.bin rfl rfl (vT aM (rfl))) rfl rfl ?_;refine d_3 ?_;refine ap rfl rfl rfl (.bin rfl rfl (vT aM (rfl))) rfl rfl ?_;refine e_s (x3) ?_;refine ap rfl rfl rfl (.bin rfl rfl (vT gX rfl)) rfl rfl ?_;refine e_s (x4) ?_;refine ap rfl rfl rfl (.bin rfl rfl (vT gX rfl)) rfl rfl ?_;refine d_3 ?_;refine ap rfl rfl rfl (.bin rfl rfl (vT aM (rfl))) rfl rfl ?_;refine d_3 ?_;refine AR.op1y rfl rfl rfl (.callS1 rfl rfl rfl (.shut rfl d_n (.nil)) rfl (hi2)) rfl rfl ?_;refine e_s (hpt) ?_;refine d_3 ?_;refine AR.op1y rfl rfl rfl (.callS1 rfl rfl rfl (.shut rfl d_n (.nil)) rfl (hi2)) rfl rfl ?_;refine e_s (hpf) ?_;refine d_4 ?_;refine ap rfl rfl rfl (.bin rfl rfl (vT aM (rfl))) rfl rfl ?_;refine e_s (x5) ?_;refine ap rfl rfl rfl (.bin rfl rfl (vT gX rfl)) rfl rfl ?_;refine e_s (x6) ?_;refine ap rfl rfl rfl (.bin rfl rfl (vT gX rfl)) rfl rfl ?_;refine a_2 ?_;refine ao (n_k ?_);exact an (t_e (ag _))
theorem aq_none(c:Lq)(m n:Nat)(hc:c.length<=12)(hb:bdL c 20)(hl:m+n+1<=c.length)(hg:gjM (quM c m n) n n=none):
    FS 18 [.arr (pE c),i64 m,i64 n] (.tup [.arr [],.arr [],i64 14])/\FS 19 [.arr (rE (rP c)),i64 m,i64 n] (.tup [.arr [],.arr [],bln false]):=by
 obtain⟨k,hk⟩:=upto_ex (quM c m n) n;have hkn:=hk.none hg;have hG:∀j,j<=11->gjB 20 j<=100000000:=δ
 have hS:∀j,j<=11->slB 20 j<=100000000:=δ
 refine⟨xM c m n 100000000 k ω ω ω hl ω hk hkn δ λl hl2 i j hi hj=>?_,EL c m n 20 ⟨ω,ω⟩ ω hl ω hb δ (by have:=hG n ω;omega) hg⟩;have h1:=CL (tR (m:=m) (n:=n) hb δ) l ω i j hi hj;have:=hS l ω;omega
theorem aq_some(c:Lq)(A:Mx)(m n:Nat)(hc:c.length<=12)(hb:bdL c 20)(hl:m+n+1<=c.length)(hg:gjM (quM c m n) n n=some A):
    ∃p q:Lq,FS 18 [.arr (pE c),i64 m,i64 n] (.tup [.arr (pE p),.arr (pE q),i64 0])/\FS 19 [.arr (rE (rP c)),i64 m,i64 n] (.tup [.arr (rE (rP p)),.arr (rE (rP q)),bln true])/\
     FS 15 [.arr (pE p),.arr (rE (rP p))] (bln true)/\FS 15 [.arr (pE q),.arr (rE (rP q))] (bln true):=by
 have hG:∀j,j<=11->gjB 20 j<=100000000:=δ
 have hS:∀j,j<=11->slB 20 j<=100000000:=δ
 have hGn:=hG n ω;obtain⟨e1,e2⟩:=qt_same hg;obtain⟨bq0,_⟩:=yZ ω hb δ ω hg;have bq:bdL (qtQ A n) 200000001:=mM bq0 ω;have lq:(qtQ A n).length<=12:=by simp[qtQ];omega
 have bt:∀k,bdL (c.take k) 20:=λk x hx=>hb x (List.mem_of_mem_take hx);have lt:∀k,(c.take k).length<=12:=λk=>by rw[List.length_take];omega
 have bm:bdL (ep (c.take (m+n+1)) (qtQ A n)) 3000000000:=by
  rw[<-BD];exact mM (GR (bt _) bq δ δ _) (Nat.le_trans (Nat.add_le_add_right (Nat.mul_le_mul_right _ lq) 1) δ)
 have h1:=Ag c m n 100000000 ω ω ω hl ω (yO hg).1 δ (λl hl2 i j hi hj=>by
  have h1:=CL (tR (m:=m) (n:=n) hb δ) l ω i j hi hj;have:=hS l ω;omega) (by
  rw[e1];have m1:mxL (c.take (m+1))<=20:=GK (bt _) δ;have m2:mxL (aA (qtQ A n))<=200000001:=GK (vi bq) δ;have l1:=lt (m+1);have l2:=Nat.le_trans (cv (qtQ A n)) lq;have m3:(c.take (m+1)).length* (mxL (c.take (m+1))+mxL (aA (qtQ A n))+1)<=12* 200000022:=Nat.mul_le_mul l1 ω;exact⟨ω,ω,ω,ω⟩)
 have h2:=EK c A m n 20 ω ω hl ω hb δ ω ω hg;rw[e1,e2] at h1;refine⟨_,_,h1,h2,?_,?_⟩;refine Ae _ _ (qG _) (by rw[kp,ju]) (mM (vi λx hx=>bm x (List.mem_of_mem_take hx)) ?_) ?_;decide;have:=cv ((ep (c.take (m+n+1)) (qtQ A n)).take (m+1));rw[List.length_take] at this;simp[rP];omega;refine Ae _ _ (qG _) (by rw[kp,ju]) (mM (vi bq) δ) ?_;have:=cv (qtQ A n);simp[rP];omega
theorem oj(ar:List kX)(m n:Int)(ha:okR ar)(hal:ar.length<=9223372036854775807)(hm:lZ m)(hn:lZ n):
    FS 4 [.arr (nR ar),i64 m,i64 n] (bln true):=by
 have ca:=aU (ew ar);have t1:=fs_Tame ar 12 hal δ;unfold lZ at hm hn;refine f_c Tryz.func4 ?_;refine r_z 1 ?_;cases e1:rI ar 12 with
 |false=>
  rw[e1] at t1;refine ac (r_c 3 (t1) ?_);refine a_z ?_;refine cT (r_c 2 (eX) ?_);refine a_z ?_;exact an (t_e (ag _))
 |true=>
 rw[e1] at t1;refine ac (r_c 3 (t1) ?_);refine a_z ?_;refine cF (am ?_);obtain⟨ba,la⟩:=tame_bd e1 ha
 have bo1:=fs_List ar (by have:(nL ar).length=ar.length:=by simp[nL]
                          omega) ha
 refine r_c 7 (bo1) ?_;refine a_z ?_;generalize nL ar=c at *
 have cc:=aq c;have cr:Closed (.arr (rL c)):=bp _;have lr:(rL c).length=c.length:=ψ
 have lr2:(List.map rq c).length=c.length:=ψ
 by_cases hbad:m< 0\/n< 0\/20<=m\/20<=n\/20< m+n+1;have hQ:=xN c m n hbad;refine r_c 11 (hQ) ?_;refine a_z ?_;by_cases c0:m< 0
 ·refine r_z 1 ?_
  refine ac (s_r 21 ?_);refine a_1 ?_;refine o_0 (.bin rfl rfl (vT aZ (decide_eq_true ω))) ?_;refine a_z ?_;refine cT (r_m 1 ?_);refine a_z ?_;refine ac (s_r 2 ?_);refine a_1 ?_;refine o_0 (.bin rfl rfl (vT bO (rfl))) ?_;refine ao ?_;refine cT (s_r 15 ?_);refine a_2 ?_;refine o_0 (.bin rfl rfl (vT aM (rfl))) ?_;refine a_1 ?_
  first|refine ap rfl rfl rfl (.move rfl) rfl rfl ?_|refine aV rfl rfl (by first|(simp[aQ];done)|exact nofun) rfl rfl ?_
  first|refine ap rfl rfl rfl (.lenD rfl rfl rfl rfl te_30.h) rfl rfl ?_|refine ap rfl rfl rfl (.lenI rfl rfl rfl rfl te_30.h) rfl rfl ?_|refine ap rfl rfl rfl (.lenP rfl rfl rfl rfl te_30.h) rfl rfl ?_|refine ap rfl rfl rfl (.lenC rfl rfl rfl rfl te_30.h) rfl rfl ?_|refine ap rfl rfl rfl (.lenR rfl rfl rfl rfl te_30.h) rfl rfl ?_|refine ap rfl rfl rfl (.len rfl rfl rfl rfl rfl te_30.h) rfl rfl ?_|refine aV rfl rfl (by first|(simp[aQ];done)|exact nofun) rfl rfl ?_
  first|refine ap rfl rfl rfl (.move rfl) rfl rfl ?_|refine aV rfl rfl (by first|(simp[aQ];done)|exact nofun) rfl rfl ?_
  first|refine ap rfl rfl rfl (.lenD rfl rfl rfl rfl te_30.h) rfl rfl ?_|refine ap rfl rfl rfl (.lenI rfl rfl rfl rfl te_30.h) rfl rfl ?_|refine ap rfl rfl rfl (.lenP rfl rfl rfl rfl te_30.h) rfl rfl ?_|refine ap rfl rfl rfl (.lenC rfl rfl rfl rfl te_30.h) rfl rfl ?_|refine ap rfl rfl rfl (.lenR rfl rfl rfl rfl te_30.h) rfl rfl ?_|refine ap rfl rfl rfl (.len rfl rfl rfl rfl rfl te_30.h) rfl rfl ?_|refine aV rfl rfl (by first|(simp[aQ];done)|exact nofun) rfl rfl ?_
  refine ap rfl rfl rfl (.bin rfl rfl (dj δ)) rfl rfl ?_;refine ap rfl rfl rfl (.bin rfl rfl (vT aM (rfl))) rfl rfl ?_;refine c_s (eX) ?_;refine a_z ?_;exact an (t_e (ag _))
 by_cases c1:n< 0
 ·refine r_z 1 ?_
  refine ac (s_r 21 ?_);refine a_1 ?_;refine o_0 (.bin rfl rfl (vF aZ (decide_eq_false ω))) ?_;refine a_1 ?_
  first|refine ap rfl rfl rfl (.move rfl) rfl rfl ?_|refine aV rfl rfl (by first|(simp[aQ];done)|exact nofun) rfl rfl ?_
  refine ap rfl rfl rfl (.bin rfl rfl (vT aZ (decide_eq_true ω))) rfl rfl ?_;refine a_z ?_;refine cT (r_m 1 ?_);refine a_z ?_;refine ac (s_r 2 ?_);refine a_1 ?_;refine o_0 (.bin rfl rfl (vT bO (rfl))) ?_;refine ao ?_;refine cT (s_r 15 ?_);refine a_2 ?_;refine o_0 (.bin rfl rfl (vT aM (rfl))) ?_;refine a_1 ?_
  first|refine ap rfl rfl rfl (.move rfl) rfl rfl ?_|refine aV rfl rfl (by first|(simp[aQ];done)|exact nofun) rfl rfl ?_
  first|refine ap rfl rfl rfl (.lenD rfl rfl rfl rfl te_30.h) rfl rfl ?_|refine ap rfl rfl rfl (.lenI rfl rfl rfl rfl te_30.h) rfl rfl ?_|refine ap rfl rfl rfl (.lenP rfl rfl rfl rfl te_30.h) rfl rfl ?_|refine ap rfl rfl rfl (.lenC rfl rfl rfl rfl te_30.h) rfl rfl ?_|refine ap rfl rfl rfl (.lenR rfl rfl rfl rfl te_30.h) rfl rfl ?_|refine ap rfl rfl rfl (.len rfl rfl rfl rfl rfl te_30.h) rfl rfl ?_|refine aV rfl rfl (by first|(simp[aQ];done)|exact nofun) rfl rfl ?_
  first|refine ap rfl rfl rfl (.move rfl) rfl rfl ?_|refine aV rfl rfl (by first|(simp[aQ];done)|exact nofun) rfl rfl ?_
  first|refine ap rfl rfl rfl (.lenD rfl rfl rfl rfl te_30.h) rfl rfl ?_|refine ap rfl rfl rfl (.lenI rfl rfl rfl rfl te_30.h) rfl rfl ?_|refine ap rfl rfl rfl (.lenP rfl rfl rfl rfl te_30.h) rfl rfl ?_|refine ap rfl rfl rfl (.lenC rfl rfl rfl rfl te_30.h) rfl rfl ?_|refine ap rfl rfl rfl (.lenR rfl rfl rfl rfl te_30.h) rfl rfl ?_|refine ap rfl rfl rfl (.len rfl rfl rfl rfl rfl te_30.h) rfl rfl ?_|refine aV rfl rfl (by first|(simp[aQ];done)|exact nofun) rfl rfl ?_
  refine ap rfl rfl rfl (.bin rfl rfl (dj δ)) rfl rfl ?_;refine ap rfl rfl rfl (.bin rfl rfl (vT aM (rfl))) rfl rfl ?_;refine c_s (eX) ?_;refine a_z ?_;exact an (t_e (ag _))
 by_cases c2:19< m
 ·refine r_z 1 ?_
  refine ac (s_r 21 ?_);refine a_1 ?_;refine o_0 (.bin rfl rfl (vF aZ (decide_eq_false ω))) ?_;refine a_1 ?_
  first|refine ap rfl rfl rfl (.move rfl) rfl rfl ?_|refine aV rfl rfl (by first|(simp[aQ];done)|exact nofun) rfl rfl ?_
  refine ap rfl rfl rfl (.bin rfl rfl (vF aZ (decide_eq_false ω))) rfl rfl ?_;refine a_2 ?_
  first|refine ap rfl rfl rfl (.move rfl) rfl rfl ?_|refine aV rfl rfl (by first|(simp[aQ];done)|exact nofun) rfl rfl ?_
  refine ap rfl rfl rfl (.bin rfl rfl (vT ct (decide_eq_true ω))) rfl rfl ?_;refine a_z ?_;refine cT (r_m 1 ?_);refine a_z ?_;refine ac (s_r 2 ?_);refine a_1 ?_;refine o_0 (.bin rfl rfl (vT bO (rfl))) ?_;refine ao ?_;refine cT (s_r 15 ?_);refine a_2 ?_;refine o_0 (.bin rfl rfl (vT aM (rfl))) ?_;refine a_1 ?_
  first|refine ap rfl rfl rfl (.move rfl) rfl rfl ?_|refine aV rfl rfl (by first|(simp[aQ];done)|exact nofun) rfl rfl ?_
  first|refine ap rfl rfl rfl (.lenD rfl rfl rfl rfl te_30.h) rfl rfl ?_|refine ap rfl rfl rfl (.lenI rfl rfl rfl rfl te_30.h) rfl rfl ?_|refine ap rfl rfl rfl (.lenP rfl rfl rfl rfl te_30.h) rfl rfl ?_|refine ap rfl rfl rfl (.lenC rfl rfl rfl rfl te_30.h) rfl rfl ?_|refine ap rfl rfl rfl (.lenR rfl rfl rfl rfl te_30.h) rfl rfl ?_|refine ap rfl rfl rfl (.len rfl rfl rfl rfl rfl te_30.h) rfl rfl ?_|refine aV rfl rfl (by first|(simp[aQ];done)|exact nofun) rfl rfl ?_
  first|refine ap rfl rfl rfl (.move rfl) rfl rfl ?_|refine aV rfl rfl (by first|(simp[aQ];done)|exact nofun) rfl rfl ?_
  first|refine ap rfl rfl rfl (.lenD rfl rfl rfl rfl te_30.h) rfl rfl ?_|refine ap rfl rfl rfl (.lenI rfl rfl rfl rfl te_30.h) rfl rfl ?_|refine ap rfl rfl rfl (.lenP rfl rfl rfl rfl te_30.h) rfl rfl ?_|refine ap rfl rfl rfl (.lenC rfl rfl rfl rfl te_30.h) rfl rfl ?_|refine ap rfl rfl rfl (.lenR rfl rfl rfl rfl te_30.h) rfl rfl ?_|refine ap rfl rfl rfl (.len rfl rfl rfl rfl rfl te_30.h) rfl rfl ?_|refine aV rfl rfl (by first|(simp[aQ];done)|exact nofun) rfl rfl ?_
  refine ap rfl rfl rfl (.bin rfl rfl (dj δ)) rfl rfl ?_;refine ap rfl rfl rfl (.bin rfl rfl (vT aM (rfl))) rfl rfl ?_;refine c_s (eX) ?_;refine a_z ?_;exact an (t_e (ag _))
 by_cases c3:19< n
 ·refine r_z 1 ?_
  refine ac (s_r 21 ?_);refine a_1 ?_;refine o_0 (.bin rfl rfl (vF aZ (decide_eq_false ω))) ?_;refine a_1 ?_
  first|refine ap rfl rfl rfl (.move rfl) rfl rfl ?_|refine aV rfl rfl (by first|(simp[aQ];done)|exact nofun) rfl rfl ?_
  refine ap rfl rfl rfl (.bin rfl rfl (vF aZ (decide_eq_false ω))) rfl rfl ?_;refine a_2 ?_
  first|refine ap rfl rfl rfl (.move rfl) rfl rfl ?_|refine aV rfl rfl (by first|(simp[aQ];done)|exact nofun) rfl rfl ?_
  refine ap rfl rfl rfl (.bin rfl rfl (vF ct (decide_eq_false ω))) rfl rfl ?_;refine a_2 ?_
  first|refine ap rfl rfl rfl (.move rfl) rfl rfl ?_|refine aV rfl rfl (by first|(simp[aQ];done)|exact nofun) rfl rfl ?_
  refine ap rfl rfl rfl (.bin rfl rfl (vT ct (decide_eq_true ω))) rfl rfl ?_;refine a_z ?_;refine cT (r_m 1 ?_);refine a_z ?_;refine ac (s_r 2 ?_);refine a_1 ?_;refine o_0 (.bin rfl rfl (vT bO (rfl))) ?_;refine ao ?_;refine cT (s_r 15 ?_);refine a_2 ?_;refine o_0 (.bin rfl rfl (vT aM (rfl))) ?_;refine a_1 ?_
  first|refine ap rfl rfl rfl (.move rfl) rfl rfl ?_|refine aV rfl rfl (by first|(simp[aQ];done)|exact nofun) rfl rfl ?_
  first|refine ap rfl rfl rfl (.lenD rfl rfl rfl rfl te_30.h) rfl rfl ?_|refine ap rfl rfl rfl (.lenI rfl rfl rfl rfl te_30.h) rfl rfl ?_|refine ap rfl rfl rfl (.lenP rfl rfl rfl rfl te_30.h) rfl rfl ?_|refine ap rfl rfl rfl (.lenC rfl rfl rfl rfl te_30.h) rfl rfl ?_|refine ap rfl rfl rfl (.lenR rfl rfl rfl rfl te_30.h) rfl rfl ?_|refine ap rfl rfl rfl (.len rfl rfl rfl rfl rfl te_30.h) rfl rfl ?_|refine aV rfl rfl (by first|(simp[aQ];done)|exact nofun) rfl rfl ?_
  first|refine ap rfl rfl rfl (.move rfl) rfl rfl ?_|refine aV rfl rfl (by first|(simp[aQ];done)|exact nofun) rfl rfl ?_
  first|refine ap rfl rfl rfl (.lenD rfl rfl rfl rfl te_30.h) rfl rfl ?_|refine ap rfl rfl rfl (.lenI rfl rfl rfl rfl te_30.h) rfl rfl ?_|refine ap rfl rfl rfl (.lenP rfl rfl rfl rfl te_30.h) rfl rfl ?_|refine ap rfl rfl rfl (.lenC rfl rfl rfl rfl te_30.h) rfl rfl ?_|refine ap rfl rfl rfl (.lenR rfl rfl rfl rfl te_30.h) rfl rfl ?_|refine ap rfl rfl rfl (.len rfl rfl rfl rfl rfl te_30.h) rfl rfl ?_|refine aV rfl rfl (by first|(simp[aQ];done)|exact nofun) rfl rfl ?_
  refine ap rfl rfl rfl (.bin rfl rfl (dj δ)) rfl rfl ?_;refine ap rfl rfl rfl (.bin rfl rfl (vT aM (rfl))) rfl rfl ?_;refine c_s (eX) ?_;refine a_z ?_;exact an (t_e (ag _))
 by_cases c4:20< m+n+1
 ·refine r_z 1 ?_
  refine ac (s_r 21 ?_);refine a_1 ?_;refine o_0 (.bin rfl rfl (vF aZ (decide_eq_false ω))) ?_;refine a_1 ?_
  first|refine ap rfl rfl rfl (.move rfl) rfl rfl ?_|refine aV rfl rfl (by first|(simp[aQ];done)|exact nofun) rfl rfl ?_
  refine ap rfl rfl rfl (.bin rfl rfl (vF aZ (decide_eq_false ω))) rfl rfl ?_;refine a_2 ?_
  first|refine ap rfl rfl rfl (.move rfl) rfl rfl ?_|refine aV rfl rfl (by first|(simp[aQ];done)|exact nofun) rfl rfl ?_
  refine ap rfl rfl rfl (.bin rfl rfl (vF ct (decide_eq_false ω))) rfl rfl ?_;refine a_2 ?_
  first|refine ap rfl rfl rfl (.move rfl) rfl rfl ?_|refine aV rfl rfl (by first|(simp[aQ];done)|exact nofun) rfl rfl ?_
  refine ap rfl rfl rfl (.bin rfl rfl (vF ct (decide_eq_false ω))) rfl rfl ?_;refine a_2 ?_
  first|refine ap rfl rfl rfl (.move rfl) rfl rfl ?_|refine aV rfl rfl (by first|(simp[aQ];done)|exact nofun) rfl rfl ?_
  first|refine ap rfl rfl rfl (.move rfl) rfl rfl ?_|refine aV rfl rfl (by first|(simp[aQ];done)|exact nofun) rfl rfl ?_
  first|refine ap rfl rfl rfl (.bin rfl rfl (dj ω)) rfl rfl ?_|refine aV rfl rfl (by first|(simp[aQ];done)|exact nofun) rfl rfl ?_
  first|refine ap rfl rfl rfl (.bin rfl rfl (dj ω)) rfl rfl ?_|refine aV rfl rfl (by first|(simp[aQ];done)|exact nofun) rfl rfl ?_
  refine ap rfl rfl rfl (.bin rfl rfl (vT ct (decide_eq_true ω))) rfl rfl ?_;refine a_z ?_;refine cT (r_m 1 ?_);refine a_z ?_;refine ac (s_r 2 ?_);refine a_1 ?_;refine o_0 (.bin rfl rfl (vT bO (rfl))) ?_;refine ao ?_;refine cT (s_r 15 ?_);refine a_2 ?_;refine o_0 (.bin rfl rfl (vT aM (rfl))) ?_;refine a_1 ?_
  first|refine ap rfl rfl rfl (.move rfl) rfl rfl ?_|refine aV rfl rfl (by first|(simp[aQ];done)|exact nofun) rfl rfl ?_
  first|refine ap rfl rfl rfl (.lenD rfl rfl rfl rfl te_30.h) rfl rfl ?_|refine ap rfl rfl rfl (.lenI rfl rfl rfl rfl te_30.h) rfl rfl ?_|refine ap rfl rfl rfl (.lenP rfl rfl rfl rfl te_30.h) rfl rfl ?_|refine ap rfl rfl rfl (.lenC rfl rfl rfl rfl te_30.h) rfl rfl ?_|refine ap rfl rfl rfl (.lenR rfl rfl rfl rfl te_30.h) rfl rfl ?_|refine ap rfl rfl rfl (.len rfl rfl rfl rfl rfl te_30.h) rfl rfl ?_|refine aV rfl rfl (by first|(simp[aQ];done)|exact nofun) rfl rfl ?_
  first|refine ap rfl rfl rfl (.move rfl) rfl rfl ?_|refine aV rfl rfl (by first|(simp[aQ];done)|exact nofun) rfl rfl ?_
  first|refine ap rfl rfl rfl (.lenD rfl rfl rfl rfl te_30.h) rfl rfl ?_|refine ap rfl rfl rfl (.lenI rfl rfl rfl rfl te_30.h) rfl rfl ?_|refine ap rfl rfl rfl (.lenP rfl rfl rfl rfl te_30.h) rfl rfl ?_|refine ap rfl rfl rfl (.lenC rfl rfl rfl rfl te_30.h) rfl rfl ?_|refine ap rfl rfl rfl (.lenR rfl rfl rfl rfl te_30.h) rfl rfl ?_|refine ap rfl rfl rfl (.len rfl rfl rfl rfl rfl te_30.h) rfl rfl ?_|refine aV rfl rfl (by first|(simp[aQ];done)|exact nofun) rfl rfl ?_
  refine ap rfl rfl rfl (.bin rfl rfl (dj δ)) rfl rfl ?_;refine ap rfl rfl rfl (.bin rfl rfl (vT aM (rfl))) rfl rfl ?_;refine c_s (eX) ?_;refine a_z ?_;exact an (t_e (ag _))
 omega;obtain⟨M,rfl⟩:∃M:Nat,m=M:=⟨m.toNat,ω⟩;obtain⟨N,rfl⟩:∃N:Nat,n=N:=⟨n.toNat,ω⟩;by_cases hlen:c.length< M+N+1
 ·have hQ:=xO c M N ω ω ω hlen
  refine r_c 11 (hQ) ?_;refine a_z ?_;refine r_z 1 ?_;refine ac (s_r 21 ?_);refine a_1 ?_;refine o_0 (.bin rfl rfl (vF aZ (decide_eq_false ω))) ?_;refine a_1 ?_
  first|refine ap rfl rfl rfl (.move rfl) rfl rfl ?_|refine aV rfl rfl (by first|(simp[aQ];done)|exact nofun) rfl rfl ?_
  refine ap rfl rfl rfl (.bin rfl rfl (vF aZ (decide_eq_false ω))) rfl rfl ?_;refine a_2 ?_
  first|refine ap rfl rfl rfl (.move rfl) rfl rfl ?_|refine aV rfl rfl (by first|(simp[aQ];done)|exact nofun) rfl rfl ?_
  refine ap rfl rfl rfl (.bin rfl rfl (vF ct (decide_eq_false ω))) rfl rfl ?_;refine a_2 ?_
  first|refine ap rfl rfl rfl (.move rfl) rfl rfl ?_|refine aV rfl rfl (by first|(simp[aQ];done)|exact nofun) rfl rfl ?_
  refine ap rfl rfl rfl (.bin rfl rfl (vF ct (decide_eq_false ω))) rfl rfl ?_;refine a_2 ?_
  first|refine ap rfl rfl rfl (.move rfl) rfl rfl ?_|refine aV rfl rfl (by first|(simp[aQ];done)|exact nofun) rfl rfl ?_
  first|refine ap rfl rfl rfl (.move rfl) rfl rfl ?_|refine aV rfl rfl (by first|(simp[aQ];done)|exact nofun) rfl rfl ?_
  first|refine ap rfl rfl rfl (.bin rfl rfl (dj ω)) rfl rfl ?_|refine aV rfl rfl (by first|(simp[aQ];done)|exact nofun) rfl rfl ?_
  first|refine ap rfl rfl rfl (.bin rfl rfl (dj ω)) rfl rfl ?_|refine aV rfl rfl (by first|(simp[aQ];done)|exact nofun) rfl rfl ?_
  refine ap rfl rfl rfl (.bin rfl rfl (vF ct (decide_eq_false ω))) rfl rfl ?_;refine a_z ?_;refine cF (s_r 7 ?_);refine a_6 ?_;refine o_0 (.bin rfl rfl (vT aZ (decide_eq_true ω))) ?_;refine ao ?_;refine cT (r_m 1 ?_);refine a_z ?_;refine ac (s_r 2 ?_);refine a_1 ?_;refine o_0 (.bin rfl rfl (vT bO (rfl))) ?_;refine ao ?_;refine cT (s_r 15 ?_);refine a_2 ?_;refine o_0 (.bin rfl rfl (vT aM (rfl))) ?_;refine a_1 ?_
  first|refine ap rfl rfl rfl (.move rfl) rfl rfl ?_|refine aV rfl rfl (by first|(simp[aQ];done)|exact nofun) rfl rfl ?_
  first|refine ap rfl rfl rfl (.lenD rfl rfl rfl rfl te_30.h) rfl rfl ?_|refine ap rfl rfl rfl (.lenI rfl rfl rfl rfl te_30.h) rfl rfl ?_|refine ap rfl rfl rfl (.lenP rfl rfl rfl rfl te_30.h) rfl rfl ?_|refine ap rfl rfl rfl (.lenC rfl rfl rfl rfl te_30.h) rfl rfl ?_|refine ap rfl rfl rfl (.lenR rfl rfl rfl rfl te_30.h) rfl rfl ?_|refine ap rfl rfl rfl (.len rfl rfl rfl rfl rfl te_30.h) rfl rfl ?_|refine aV rfl rfl (by first|(simp[aQ];done)|exact nofun) rfl rfl ?_
  first|refine ap rfl rfl rfl (.move rfl) rfl rfl ?_|refine aV rfl rfl (by first|(simp[aQ];done)|exact nofun) rfl rfl ?_
  first|refine ap rfl rfl rfl (.lenD rfl rfl rfl rfl te_30.h) rfl rfl ?_|refine ap rfl rfl rfl (.lenI rfl rfl rfl rfl te_30.h) rfl rfl ?_|refine ap rfl rfl rfl (.lenP rfl rfl rfl rfl te_30.h) rfl rfl ?_|refine ap rfl rfl rfl (.lenC rfl rfl rfl rfl te_30.h) rfl rfl ?_|refine ap rfl rfl rfl (.lenR rfl rfl rfl rfl te_30.h) rfl rfl ?_|refine ap rfl rfl rfl (.len rfl rfl rfl rfl rfl te_30.h) rfl rfl ?_|refine aV rfl rfl (by first|(simp[aQ];done)|exact nofun) rfl rfl ?_
  refine ap rfl rfl rfl (.bin rfl rfl (dj δ)) rfl rfl ?_;refine ap rfl rfl rfl (.bin rfl rfl (vT aM (rfl))) rfl rfl ?_;refine c_s (eX) ?_;refine a_z ?_;exact an (t_e (ag _))
 cases hg:gjM (quM c M N) N N with
 |none=>
  obtain⟨q1,q2⟩:=aq_none c M N la ba ω hg;refine r_c 11 (q1) ?_;refine a_z ?_;refine r_z 1 ?_;refine ac (s_r 21 ?_);refine a_1 ?_;refine o_0 (.bin rfl rfl (vF aZ (decide_eq_false ω))) ?_;refine a_1 ?_
  first|refine ap rfl rfl rfl (.move rfl) rfl rfl ?_|refine aV rfl rfl (by first|(simp[aQ];done)|exact nofun) rfl rfl ?_
  refine ap rfl rfl rfl (.bin rfl rfl (vF aZ (decide_eq_false ω))) rfl rfl ?_;refine a_2 ?_
  first|refine ap rfl rfl rfl (.move rfl) rfl rfl ?_|refine aV rfl rfl (by first|(simp[aQ];done)|exact nofun) rfl rfl ?_
  refine ap rfl rfl rfl (.bin rfl rfl (vF ct (decide_eq_false ω))) rfl rfl ?_;refine a_2 ?_
  first|refine ap rfl rfl rfl (.move rfl) rfl rfl ?_|refine aV rfl rfl (by first|(simp[aQ];done)|exact nofun) rfl rfl ?_
  refine ap rfl rfl rfl (.bin rfl rfl (vF ct (decide_eq_false ω))) rfl rfl ?_;refine a_2 ?_
  first|refine ap rfl rfl rfl (.move rfl) rfl rfl ?_|refine aV rfl rfl (by first|(simp[aQ];done)|exact nofun) rfl rfl ?_
  first|refine ap rfl rfl rfl (.move rfl) rfl rfl ?_|refine aV rfl rfl (by first|(simp[aQ];done)|exact nofun) rfl rfl ?_
  first|refine ap rfl rfl rfl (.bin rfl rfl (dj ω)) rfl rfl ?_|refine aV rfl rfl (by first|(simp[aQ];done)|exact nofun) rfl rfl ?_
  first|refine ap rfl rfl rfl (.bin rfl rfl (dj ω)) rfl rfl ?_|refine aV rfl rfl (by first|(simp[aQ];done)|exact nofun) rfl rfl ?_
  refine ap rfl rfl rfl (.bin rfl rfl (vF ct (decide_eq_false ω))) rfl rfl ?_;refine a_z ?_;refine cF (s_r 7 ?_);refine a_6 ?_;refine o_0 (.bin rfl rfl (vF aZ (decide_eq_false ω))) ?_;refine ao ?_;refine cF (am (ac (s_r 2 ?_)));refine a_1 ?_;refine o_0 (.bin rfl rfl (vF bO (rfl))) ?_;refine ao ?_;refine cF (am (r_c 11 (q2) ?_));refine a_z ?_;refine ac (r_z 2 ?_);refine cT (s_r 14 ?_);refine a_1 ?_;refine o_0 (.bin rfl rfl (vT aM (rfl))) ?_;refine a_1 ?_
  first|refine ap rfl rfl rfl (.move rfl) rfl rfl ?_|refine aV rfl rfl (by first|(simp[aQ];done)|exact nofun) rfl rfl ?_
  first|refine ap rfl rfl rfl (.lenD rfl rfl rfl rfl te_30.h) rfl rfl ?_|refine ap rfl rfl rfl (.lenI rfl rfl rfl rfl te_30.h) rfl rfl ?_|refine ap rfl rfl rfl (.lenP rfl rfl rfl rfl te_30.h) rfl rfl ?_|refine ap rfl rfl rfl (.lenC rfl rfl rfl rfl te_30.h) rfl rfl ?_|refine ap rfl rfl rfl (.lenR rfl rfl rfl rfl te_30.h) rfl rfl ?_|refine ap rfl rfl rfl (.len rfl rfl rfl rfl rfl te_30.h) rfl rfl ?_|refine aV rfl rfl (by first|(simp[aQ];done)|exact nofun) rfl rfl ?_
  first|refine ap rfl rfl rfl (.move rfl) rfl rfl ?_|refine aV rfl rfl (by first|(simp[aQ];done)|exact nofun) rfl rfl ?_
  first|refine ap rfl rfl rfl (.lenD rfl rfl rfl rfl te_30.h) rfl rfl ?_|refine ap rfl rfl rfl (.lenI rfl rfl rfl rfl te_30.h) rfl rfl ?_|refine ap rfl rfl rfl (.lenP rfl rfl rfl rfl te_30.h) rfl rfl ?_|refine ap rfl rfl rfl (.lenC rfl rfl rfl rfl te_30.h) rfl rfl ?_|refine ap rfl rfl rfl (.lenR rfl rfl rfl rfl te_30.h) rfl rfl ?_|refine ap rfl rfl rfl (.len rfl rfl rfl rfl rfl te_30.h) rfl rfl ?_|refine aV rfl rfl (by first|(simp[aQ];done)|exact nofun) rfl rfl ?_
  refine ap rfl rfl rfl (.bin rfl rfl (dj δ)) rfl rfl ?_;refine ap rfl rfl rfl (.bin rfl rfl (vT aM (rfl))) rfl rfl ?_;refine c_s (eX) ?_;refine a_z ?_;exact an (t_e (ag _))
 |some A=>
  obtain⟨p,q,q1,q2,s1,s2⟩:=aq_some c A M N la ba ω hg;refine r_c 11 (q1) ?_;refine a_z ?_;refine r_z 1 ?_;refine ac (s_r 21 ?_);refine a_1 ?_;refine o_0 (.bin rfl rfl (vF aZ (decide_eq_false ω))) ?_;refine a_1 ?_
  first|refine ap rfl rfl rfl (.move rfl) rfl rfl ?_|refine aV rfl rfl (by first|(simp[aQ];done)|exact nofun) rfl rfl ?_
  refine ap rfl rfl rfl (.bin rfl rfl (vF aZ (decide_eq_false ω))) rfl rfl ?_;refine a_2 ?_
  first|refine ap rfl rfl rfl (.move rfl) rfl rfl ?_|refine aV rfl rfl (by first|(simp[aQ];done)|exact nofun) rfl rfl ?_
  refine ap rfl rfl rfl (.bin rfl rfl (vF ct (decide_eq_false ω))) rfl rfl ?_;refine a_2 ?_
  first|refine ap rfl rfl rfl (.move rfl) rfl rfl ?_|refine aV rfl rfl (by first|(simp[aQ];done)|exact nofun) rfl rfl ?_
  refine ap rfl rfl rfl (.bin rfl rfl (vF ct (decide_eq_false ω))) rfl rfl ?_;refine a_2 ?_
  first|refine ap rfl rfl rfl (.move rfl) rfl rfl ?_|refine aV rfl rfl (by first|(simp[aQ];done)|exact nofun) rfl rfl ?_
  first|refine ap rfl rfl rfl (.move rfl) rfl rfl ?_|refine aV rfl rfl (by first|(simp[aQ];done)|exact nofun) rfl rfl ?_
  first|refine ap rfl rfl rfl (.bin rfl rfl (dj ω)) rfl rfl ?_|refine aV rfl rfl (by first|(simp[aQ];done)|exact nofun) rfl rfl ?_
  first|refine ap rfl rfl rfl (.bin rfl rfl (dj ω)) rfl rfl ?_|refine aV rfl rfl (by first|(simp[aQ];done)|exact nofun) rfl rfl ?_
  refine ap rfl rfl rfl (.bin rfl rfl (vF ct (decide_eq_false ω))) rfl rfl ?_;refine a_z ?_;refine cF (s_r 7 ?_);refine a_6 ?_;refine o_0 (.bin rfl rfl (vF aZ (decide_eq_false ω))) ?_;refine ao ?_;refine cF (am (ac (s_r 2 ?_)));refine a_1 ?_;refine o_0 (.bin rfl rfl (vF bO (rfl))) ?_;refine ao ?_;refine cF (am (r_c 11 (q2) ?_));refine a_z ?_;refine ac (r_z 2 ?_);refine cF (am (s_r 16 ?_));refine a_1 ?_;refine o_0 (.bin rfl rfl (vT aM (rfl))) ?_;refine c_s (s1) ?_;refine c_s (s2) ?_;refine c_s (eX) ?_;refine a_z ?_;exact an (t_e (ag _))
theorem rvlen{W:World}{l:List kX}{v:Value}(h:RV (λ_=>False) (λ_=>none) W (.arr (nR l)) v):l.length<=9223372036854775807:=by
 obtain⟨_,_,_,hle,hcap,_⟩:=h;have h1:(nR l).length=l.length:=by simp[nR]
 have hm:maxLen=9223372036854775807:=δ
 omega
end Go.Proofs.YtjgokhkahkmpbaaGreatDoor
namespace Go.Proofs.YtjgokhkahkmpbaaGreatDoor
open Go
def mkF(P:Program)(fn:Func)(c:OpenClaim):Bool:=(P.make==some c.make) && (c.kinds==(if c.domain.isEmpty then [] else fn.params.toList.map λt=>match P.underlying t with|some (.int k)=>some k|_=>none)) && (c.pinned==c.pinnedBy)
section
variable {P:Program}{f:FuncId}{fn:Func}{s:ChangeSpec}{c:OpenClaim}
theorem EC (h1:c.wf (OpenSpec.ofChange s)=true) (h2:laidOutB P=true) (h3:mapsRowed P=true)
    (h4:fn.params.all (P.readableRec ·)=true) (h5:namedTie P c.named s.vars=true)
    (h6:((c.stops==[]) && (P.stops==[]) && (c.knobs==[]) && (P.stopKnobs==[]))=true)
    (h7:(c.inPlace==P.inPlace f)=true) (h8:(c.unfollowed==P.unfollowed f)=true) (h9:(c.recurses==P.recurses f)=true) (h10:(c.named==P.varsNamed f)=true)
    (h11:((c.maps==(fn.params.toList++s.plain.varTypes P).any (P.mapsRec ·)) && (c.ifaces==(fn.params.toList++s.plain.varTypes P).any (P.ifacesRec ·)) && (c.mapsOut==P.mapsAmong fn.resultTypes.toList))=true)
    (h12:((c.loops==(fn.params.toList++s.plain.varTypes P).any (P.loopsFrom ·)) && (c.wideKeys==(fn.params.toList++s.plain.varTypes P++fn.resultTypes.toList).any (P.wideKeysFrom ·)))=true)
    (h13:(s.vars.all (P.varReadable ·) && fn.resultTypes.all (λt=>P.readableRec t && decide (t< P.types.size)) && (c.ifacesOut==fn.resultTypes.toList.any (P.ifacesRec ·)) && (c.loopsOut==fn.resultTypes.toList.any (P.loopsFrom ·)) && (c.plainKeys==P.plainKeys) && c.shortTexts.isNone)=true)
    (h14:P.stopsHeard=true) (h15:P.mayEnter=true) (h16:(c.lifted==P.liftsFinal)=true)
    (h17:mkF P fn c=true)
    (h18:((c.veiled==(fn.params.toList++s.plain.varTypes P++fn.resultTypes.toList).any (P.veiledRec ·)) && c.veiledFits P fn.params.toList (fn.params.toList++s.plain.varTypes P++fn.resultTypes.toList))=true):
    joinedFacts P f fn s c=true:=by
 unfold mkF at h17;simp only[Bool.and_eq_true] at h6 h11 h12 h13 h17 h18;simp only[joinedFacts,Bool.and_eq_true]
 and_intros
 all_goals first|assumption|exact h6.1.1.1|exact h6.1.1.2|exact h6.1.2|exact h6.2|exact h11.1.1|exact h11.1.2|exact h11.2|exact h12.1|exact h12.2|exact h13.1.1.1.1.1|exact h13.1.1.1.1.2|exact h13.1.1.1.2|exact h13.1.1.2|exact h13.1.2|exact h13.2|exact h17.1.1|exact h17.1.2|exact h17.2|exact h18.1|exact h18.2
end
theorem yA:laidOutB Tryz.prog=true:=by kernel_rfl
theorem all_mr:mapsRowed Tryz.prog=true:=by kernel_rfl
theorem all_sh:Tryz.prog.stopsHeard=true:=by kernel_rfl
theorem all_me:Tryz.prog.mayEnter=true:=by kernel_rfl
theorem all_lk:false=Tryz.prog.looks []:=by kernel_rfl
theorem all_mi:Tryz.prog.mainIs=some (true,("70a96ca732a625b64e2cc30d8b2ff4a1e0277bc946d2166fe72dcd27bb40609a" :String).toList):=by kernel_rfl
theorem all_lf:Tryz.prog.liftsFinal=Rows.approxSeriesRow.lifted:=by kernel_rfl
theorem oz:Rows.approxQuotientsRow.wf (OpenSpec.ofChange Rows.approxQuotientsSpec)=true:=by kernel_rfl
theorem oF:Tryz.f4.params.all (Tryz.prog.readableRec ·)=true:=by kernel_rfl
theorem oH:namedTie Tryz.prog Rows.approxQuotientsRow.named Rows.approxQuotientsSpec.vars=true:=by kernel_rfl
theorem oE:((Rows.approxQuotientsRow.stops==[]) && (Tryz.prog.stops==[]) && (Rows.approxQuotientsRow.knobs==[]) && (Tryz.prog.stopKnobs==[]))=true:=by kernel_rfl
theorem oQ:(Rows.approxQuotientsRow.inPlace==Tryz.prog.inPlace 4)=true:=by kernel_rfl
theorem oD:(Rows.approxQuotientsRow.unfollowed==Tryz.prog.unfollowed 4)=true:=by kernel_rfl
theorem oG:(Rows.approxQuotientsRow.recurses==Tryz.prog.recurses 4)=true:=by kernel_rfl
theorem oB:(Rows.approxQuotientsRow.named==Tryz.prog.varsNamed 4)=true:=by kernel_rfl
theorem oI:((Rows.approxQuotientsRow.maps==(Tryz.f4.params.toList++Rows.approxQuotientsSpec.plain.varTypes Tryz.prog).any (Tryz.prog.mapsRec ·)) && (Rows.approxQuotientsRow.ifaces==(Tryz.f4.params.toList++Rows.approxQuotientsSpec.plain.varTypes Tryz.prog).any (Tryz.prog.ifacesRec ·)) && (Rows.approxQuotientsRow.mapsOut==Tryz.prog.mapsAmong Tryz.f4.resultTypes.toList))=true:=by kernel_rfl
theorem oK:((Rows.approxQuotientsRow.loops==(Tryz.f4.params.toList++Rows.approxQuotientsSpec.plain.varTypes Tryz.prog).any (Tryz.prog.loopsFrom ·)) && (Rows.approxQuotientsRow.wideKeys==(Tryz.f4.params.toList++Rows.approxQuotientsSpec.plain.varTypes Tryz.prog++Tryz.f4.resultTypes.toList).any (Tryz.prog.wideKeysFrom ·)))=true:=by kernel_rfl
theorem oA:(Rows.approxQuotientsSpec.vars.all (Tryz.prog.varReadable ·) && Tryz.f4.resultTypes.all (λt=>Tryz.prog.readableRec t && decide (t< Tryz.prog.types.size)) && (Rows.approxQuotientsRow.ifacesOut==Tryz.f4.resultTypes.toList.any (Tryz.prog.ifacesRec ·)) && (Rows.approxQuotientsRow.loopsOut==Tryz.f4.resultTypes.toList.any (Tryz.prog.loopsFrom ·)) && (Rows.approxQuotientsRow.plainKeys==Tryz.prog.plainKeys) && Rows.approxQuotientsRow.shortTexts.isNone)=true:=by kernel_rfl
theorem oC:((Rows.approxQuotientsRow.veiled==(Tryz.f4.params.toList++Rows.approxQuotientsSpec.plain.varTypes Tryz.prog++Tryz.f4.resultTypes.toList).any (Tryz.prog.veiledRec ·)) && Rows.approxQuotientsRow.veiledFits Tryz.prog Tryz.f4.params.toList (Tryz.f4.params.toList++Rows.approxQuotientsSpec.plain.varTypes Tryz.prog++Tryz.f4.resultTypes.toList))=true:=by kernel_rfl
theorem ov:Rows.approxQuotientsRow.wfByText (OpenSpec.ofChange Rows.approxQuotientsSpec)=true:=by kernel_rfl
theorem oR:false=Rows.approxQuotientsRow.goesBy Tryz.prog:=by kernel_rfl
theorem approxQuotients_fn:Tryz.prog.funcNamed Rows.approxQuotientsRow.func=some 4:=by kernel_rfl
theorem oO:decide (Tryz.f4.isInstance Tryz.prog Rows.approxQuotientsRow.origin Rows.approxQuotientsRow.targs)=true:=by kernel_rfl
theorem ow:(Tryz.f4.params.toList.all λu=>!Tryz.prog.wantsStandIn u)=true:=by kernel_rfl
theorem oJ:mkF Tryz.prog Tryz.f4 Rows.approxQuotientsRow=true:=by kernel_rfl
theorem oM:(Rows.approxQuotientsRow.lifted==Tryz.prog.liftsFinal)=true:=by rw[all_lf];kernel_rfl
theorem lO:joinedFacts Tryz.prog 4 Tryz.f4 Rows.approxQuotientsSpec Rows.approxQuotientsRow=true:=
 EC oz yA all_mr oF oH oE oQ oD oG oB oI oK oA all_sh all_me oM oJ oC
theorem mN:Tryz.f4.isWrapper Tryz.prog Rows.approxQuotientsRow.wrapper Rows.approxQuotientsRow.mainSum:=by
 unfold Func.isWrapper;first|(rw[if_pos (by decide+kernel)];kernel_rfl)|(rw[if_neg (by decide+kernel)];exact⟨rfl,rfl⟩)
end Go.Proofs.YtjgokhkahkmpbaaGreatDoor
namespace Go.Proofs.YtjgokhkahkmpbaaGreatDoor
open Go.Abs Go.RowKit
theorem tab_glb:(Tryz.prog).globalNamed "internal/strconv.uint64pow10" =some GT:=by kernel_rfl
theorem tab_of{n1 n2:String}{a b:DataW Unit}{W:World}(h:laidMet Tryz.prog [(n1,a),(n2,b),("internal/strconv.uint64pow10",Lib.tabData .u64 Lib.pow10Tab)] W):TabW W:=by
 obtain⟨ps,⟨g1,t1,c1,u1,p1,q1,_,_,_,_,⟨g2,t2,c2,u2,p2,q2,_,_,_,_,⟨g,t,cs,fuel,p,q,hg,ht,hv,hd,_,_⟩,_⟩,_⟩,_,_⟩:=h;obtain rfl:=Option.some.inj (tab_glb.symm.trans hg);have hT:((Tryz.prog).globals[GT]?).map (·.type)=some 293:=by kernel_rfl
 have hu:(Tryz.prog).underlying 293=some (.array 20 173):=by kernel_rfl
 have he:(Tryz.prog).underlying 173=some (.int .u64):=by kernel_rfl
 have hce:(Tryz.prog).cellsOf 173=1:=by kernel_rfl
 have hct:(Tryz.prog).cellsOf 293=20:=by kernel_rfl
 obtain rfl:=Option.some.inj (hT.symm.trans ht);have hc:=Lib.cells_of_tab (zs:=Lib.pow10Tab) hu he hce hct hd;unfold World.var? at hv;rw[tab_glb] at hv;have hv':(match W.heap[GT]? with|some (.cells cs _ _)=>some cs|_=>none)=some cs:=hv;cases hh:W.heap[GT]? with
 |none=>rw[hh] at hv';cases hv'
 |some o=>
  rw[hh] at hv';cases o with
  |cells a b c=>
   obtain rfl:a=cs:=Option.some.inj hv';refine⟨b,c,?_⟩;rw[hh]
   have:a=tabA:=by
    unfold tabA;rw[<-hc]
   rw[this]
  |_=>cases hv'
end Go.Proofs.YtjgokhkahkmpbaaGreatDoor
