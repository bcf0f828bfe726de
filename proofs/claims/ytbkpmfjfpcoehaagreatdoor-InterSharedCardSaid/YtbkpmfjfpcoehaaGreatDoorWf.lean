/- What is computed, as data, and laws of it. No condition. -/
import Derived.Test.YtbkpmfjfpcoehaaGreatDoorWe
set_option maxHeartbeats 16000000
namespace Go.Proofs.YtbkpmfjfpcoehaaGreatDoor
open Go Go.RowKit Dw
set_option maxRecDepth 100000
theorem Ff(x:Ez)(hx:VR x.e):Xq Tryz.prog 44 [evV x] (.val (iV .i64 (Yh (Xn x.e)))):=by
 obtain⟨n1,n2,n3⟩:=hx;have m1:x.e.da.length≤1000000:=by omega
 have m2:x.e.dd.length≤1000000:=by omega
 have m3:x.e.dw.length≤1000000:=by omega
 have w1:IntKind.i64.wrap ((x.e.da.length:Int)+x.e.dd.length)=(x.e.da.length:Int)+x.e.dd.length:=by rw[wrap_small]<;>omega
 have w2:IntKind.i64.wrap ((x.e.da.length:Int)+x.e.dd.length+x.e.dw.length)=(x.e.da.length:Int)+x.e.dd.length+x.e.dw.length:=by rw[wrap_small]<;>omega
 obtain⟨R,hR⟩:∃R,Yh (Xn x.e)=R:=⟨_,rfl⟩;rw[hR];unfold Xn at hR;unfold evV;refine Xk (rs:=[.tmp 2]) (Xl _) Tryz.func44 rfl Tryz.ntmps44 rfl (by simp) ?_;refine Wa YL fun K J=>?_;simp;apply J;clear J K;refine Wa YL fun K J=>?_;simp[Xg,w1,w2];apply J;clear J K;refine We fun S Y=>?_;refine Wb YL fun K J=>?_;have hK2:∀st,Gh st (⟨[(1, .one (.ptr 1 0)),(3,iV .i64 ((x.e.da.length:Int)+x.e.dd.length+x.e.dw.length)),(4,bV (XJ x.e))],[(1, .box (x.cv.map .c))]⟩:St)→K st:=by
  intro st hg;refine J _ (Y _ (Wp.gh hg ?_));clear hg J K Y S;cases hA:XJ x.e
  ·rw[hA]at hR;by_cases k6:x.e.kind=6
   ·have e6:=eq_true k6;refine We fun S Y=>?_;refine Wa YL fun K J=>?_;simp[Ez.cv,e6];apply J;clear J K;refine Wt (by simp) ?_;refine Wb YL fun K J=>?_;simp;apply J;clear J K;apply Y;clear Y S;refine We fun S Y=>?_;refine Wa YL fun K J=>?_;simp;apply J;clear J K;refine Wt (by simp) ?_;refine Wa YL fun K J=>?_;simp;apply J;clear J K;refine Wp.ret ?_;simp;rw[←hR];rfl
   ·have e6k:=bh k6
    repeat(first|((first|refine Wa YL fun K J=>?_|refine Wb YL fun K J=>?_|refine Wc YL [] fun K J=>?_|refine Wd YL [] fun K J=>?_);simp[Ez.cv,e6k];first|done|(with_reducible refine J _ ?_;clear J K)|(apply And.intro;(·kernel_rfl);with_reducible refine J _ ?_;clear J K))|refine We fun S Y=>?_|refine Wp.block ?_|refine Wp.skip ?_|(apply Wt;· (simp;done))|(apply Wf;· (simp;done))|(apply Y;clear Y S)|(clear Y S;apply Y;clear Y S))
    refine Wp.ret ?_;simp;rw[←hR];rfl
  rw[hA,ce]at hR;by_cases k6:x.e.kind=6
  ·rw[if_pos k6]at hR;have e6:=eq_true k6;refine We fun S Y=>?_;refine Wa YL fun K J=>?_;simp[Ez.cv,e6];apply J;clear J K;refine Wt (by simp) ?_;have hend:∀(b:Bool) st,Yh b=R→Gh st (⟨[(1, .one (.ptr 1 0)),(3,iV .i64 ((x.e.da.length:Int)+x.e.dd.length+x.e.dw.length)),(4,bV b)],[(1, .box (x.cv.map .c))]⟩:St)→S st:=by
    intro b st hb hg;refine Y _ (Wp.gh hg ?_);cases b
    ·refine We fun S Y=>?_;refine Wa YL fun K J=>?_;simp;apply J;clear J K;refine Wt (by simp) ?_;refine Wa YL fun K J=>?_;simp;apply J;clear J K;refine Wp.ret ?_;simp;exact hb
    ·refine We fun S Y=>?_;refine Wa YL fun K J=>?_;simp;apply J;clear J K;refine Wf (by simp) ?_;refine Wp.skip ?_;apply Y;clear Y S;refine Wa YL fun K J=>?_;simp;apply J;clear J K;refine Wp.ret ?_;simp;exact hb
   clear Y;refine Wb YL fun K J=>?_;have hF:JX x.e=false→∀st,Gh st (⟨[(1, .one (.ptr 1 0)),(3,iV .i64 ((x.e.da.length:Int)+x.e.dd.length+x.e.dw.length)),(4,bV false)],[(1, .box (x.cv.map .c))]⟩:St)→K st:=fun h st hg=>J _ (hend false st (by rw[←hR,h]) hg);by_cases q0:x.e.addr=0
   case neg=>
    have f0:=bh q0;simp[f0];refine hF (bk fun h=>q0 h.1) _ ?_;apply Go1<;>simp[Ez.cv]
   have f0:=eq_true q0;by_cases q1:x.e.load=0
   case neg=>
    have f1:=bh q1;simp[f0,f1];refine hF (bk fun h=>q1 h.2.1) _ ?_;apply Go1<;>simp[Ez.cv]
   have f1:=eq_true q1;by_cases q2:x.e.store=0
   case neg=>
    have f2:=bh q2;simp[f0,f1,f2];refine hF (bk fun h=>q2 h.2.2.1) _ ?_;apply Go1<;>simp[Ez.cv]
   have f2:=eq_true q2;by_cases q3:x.e.aq=false
   case neg=>
    have f3:=(by simpa using q3:x.e.aq=true);simp[f0,f1,f2,f3];refine hF (bk fun h=>q3 h.2.2.2.1) _ ?_;apply Go1<;>simp[Ez.cv,f3]
   have f3:=q3;by_cases q4:x.e.rl=false
   case neg=>
    have f4:=(by simpa using q4:x.e.rl=true);simp[f0,f1,f2,f3,f4];refine hF (bk fun h=>q4 h.2.2.2.2.1) _ ?_;apply Go1<;>simp[Ez.cv,f3,f4]
   have f4:=q4;by_cases q5:x.e.pair=0
   case neg=>
    have f5:=bh q5;simp[f0,f1,f2,f3,f4,f5];refine hF (bk fun h=>q5 h.2.2.2.2.2.1) _ ?_;apply Go1<;>simp[Ez.cv,f3,f4]
   have f5:=eq_true q5;by_cases q6:(x.e.da.length:Int)+x.e.dd.length+x.e.dw.length=0
   case neg=>
    have f6:=bh q6;simp[f0,f1,f2,f3,f4,f5,f6];refine hF (bk fun h=>q6 (by have:=h.2.2.2.2.2.2.1;omega)) _ ?_;apply Go1<;>simp[Ez.cv,f3,f4]
   have f6:=eq_true q6;by_cases q7:0≤x.e.pred
   case neg=>
    have f7:=bh q7;simp[f0,f1,f2,f3,f4,f5,f6,f7];refine hF (bk fun h=>q7 h.2.2.2.2.2.2.2.1) _ ?_;apply Go1<;>simp[Ez.cv,f3,f4]
   have f7:=eq_true q7;by_cases q8:x.e.pred≤15
   case neg=>
    have f8:=bh q8;simp[f0,f1,f2,f3,f4,f5,f6,f7,f8];refine hF (bk fun h=>q8 h.2.2.2.2.2.2.2.2.1) _ ?_;apply Go1<;>simp[Ez.cv,f3,f4]
   have f8:=eq_true q8;by_cases q9:0≤x.e.succ
   case neg=>
    have f9:=bh q9;simp[f0,f1,f2,f3,f4,f5,f6,f7,f8,f9];refine hF (bk fun h=>q9 h.2.2.2.2.2.2.2.2.2.1) _ ?_;apply Go1<;>simp[Ez.cv,f3,f4]
   have f9:=eq_true q9;by_cases q10:x.e.succ≤15
   case neg=>
    have f10:=bh q10;simp[f0,f1,f2,f3,f4,f5,f6,f7,f8,f9,f10];refine hF (bk fun h=>q10 h.2.2.2.2.2.2.2.2.2.2) _ ?_;apply Go1<;>simp[Ez.cv,f3,f4]
   have f10:=eq_true q10;simp[f0,f1,f2,f3,f4,f5,f6,f7,f8,f9,f10];refine J _ (hend true _ (by rw[←hR,JX,ck ⟨q0,q1,q2,q3,q4,q5,by omega,q7,q8,q9,q10⟩]) ?_);apply Go1<;>simp[Ez.cv,f3,f4]
  ·rw[if_neg k6]at hR;have e6k:=bh k6;refine We fun S Y=>?_;refine Wa YL fun K J=>?_;simp[Ez.cv,e6k];apply J;clear J K;refine Wf (by simp) ?_;refine We fun S Y=>?_;rename_i S0 g0;obtain⟨B5,h5⟩:∃b,decide (Int.tmod x.e.addr 8=0∧(x.e.reads=true∨x.e.load=0)∧(x.e.writes=true∨x.e.store=0)∧x.e.pred=0∧x.e.succ=0)=b:=⟨_,rfl⟩;obtain⟨B6,h6⟩:∃b,decide ((x.e.kind=1∨x.e.kind=2)→x.e.aq=false∧x.e.rl=false)=b:=⟨_,rfl⟩;obtain⟨B7,h7⟩:∃b,decide ((x.e.kind=4→0≤x.e.pair∧x.e.pair<x.e.pos)∧(x.e.kind≠4→x.e.pair=0))=b:=⟨_,rfl⟩;obtain⟨B8,h8⟩:∃b,(XO x.e.da x.e.pos&&(XO x.e.dd x.e.pos&&(XO x.e.dw x.e.pos&&decide (x.e.writes=true∨x.e.dd.length=0))))=b:=⟨_,rfl⟩;have hB:Yh (x.e.mem&&(B5&&(B6&&(B7&&B8))))=R:=by
    have:(B5&&(B6&&(B7&&B8)))=XQ x.e:=by
     rw[←h5,←h6,←h7,←h8,XQ,eg];simp only[aj,al];constructor
     ·rintro⟨⟨b1,b2,b3,b4,b5⟩,c,⟨d1,d2⟩,f⟩;exact⟨⟨b1,b2,b3,b4,b5,c,d1,d2⟩,f⟩
     ·rintro⟨⟨b1,b2,b3,b4,b5,c,d1,d2⟩,f⟩;exact⟨⟨b1,b2,b3,b4,b5⟩,c,⟨d1,d2⟩,f⟩
    rw[this];exact hR
   clear hR;have e0:∀(b:Bool) st,Yh b=R→Gh st (⟨[(1, .one (.ptr 1 0)),(3,iV .i64 ((x.e.da.length:Int)+x.e.dd.length+x.e.dw.length)),(4,bV b)],[(1, .box (x.cv.map .c))]⟩:St)→S0 st:=by
    intro b st hb hg;refine g0 _ (Wp.gh hg ?_);clear Y g0 hB;cases b
    ·refine We fun S Y=>?_;refine Wa YL fun K J=>?_;simp;apply J;clear J K;refine Wt (by simp) ?_;refine Wa YL fun K J=>?_;simp;apply J;clear J K;refine Wp.ret ?_;simp;exact hb
    ·refine We fun S Y=>?_;refine Wa YL fun K J=>?_;simp;apply J;clear J K;refine Wf (by simp) ?_;refine Wp.skip ?_;apply Y;clear Y S;refine Wa YL fun K J=>?_;simp;apply J;clear J K;refine Wp.ret ?_;simp;exact hb
   have e6:∀(b:Bool) st,Yh (b&&(B6&&(B7&&B8)))=R→Gh st (⟨[(1, .one (.ptr 1 0)),(3,iV .i64 ((x.e.da.length:Int)+x.e.dd.length+x.e.dw.length)),(4,bV b)],[(1, .box (x.cv.map .c))]⟩:St)→S st:=by
    intro b st hb hg;refine Y _ (Wp.gh hg ?_);clear Y hg g0 hB;refine Wp.rk (Xl _) YL rfl fun K6 hK6=>?_;have e7:∀(b:Bool) st,Yh (b&&(B7&&B8))=R→Gh st (⟨[(1, .one (.ptr 1 0)),(3,iV .i64 ((x.e.da.length:Int)+x.e.dd.length+x.e.dw.length)),(4,bV b)],[(1, .box (x.cv.map .c))]⟩:St)→K6 st:=by
     intro b st hb hg;refine hK6 _ (Wp.gh hg ?_);clear hK6 hg;refine Wp.rk (Xl _) YL rfl fun K7 hK7=>?_;have e8:∀(b:Bool) st,Yh (b&&B8)=R→Gh st (⟨[(1, .one (.ptr 1 0)),(3,iV .i64 ((x.e.da.length:Int)+x.e.dd.length+x.e.dw.length)),(4,bV b)],[(1, .box (x.cv.map .c))]⟩:St)→K7 st:=by
      intro b st hb hg;refine hK7 _ (Wp.gh hg ?_);clear hK7 hg;refine Wp.rl (Xl _) YL rfl fun K8 hK8=>?_;cases b
      ·simp[Ez.cv];refine hK8 _ (e0 false _ hb ?_);apply Go1<;>simp[Ez.cv]
      rw[ce]at hb;cases b1:XO x.e.da x.e.pos<;>cases b2:XO x.e.dd x.e.pos<;>cases b3:XO x.e.dw x.e.pos<;>cases ew:x.e.writes<;>rcases dh (x.e.dd.length=0)with d0|d0
      all_goals
       simp[sb2,se1,Xo,Kb,FE,X2,unS,Xa,Ev.eta',Ez.cv,m1,m2,m3,Xg,b1,b2,b3,ew,d0];refine hK8 _ (e0 B8 _ hb ?_);rw[←h8];apply Go1<;>simp[Ez.cv,b1,b2,b3,ew,d0]
     clear hK7;cases b
     ·simp[Ez.cv];refine(e8 false _ hb ?_);apply Go1<;>simp[Ez.cv]
     rw[ce]at hb;rcases dh (x.e.kind=4)with k4|k4<;>rcases dh (0≤x.e.pair)with p0|p0<;>rcases dh (x.e.pair<x.e.pos)with p1|p1<;>rcases dh (x.e.pair=0)with p2|p2
     all_goals
      simp[Ez.cv,k4,p0,p1,p2];refine(e8 B7 _ hb ?_);rw[←h7];apply Go1<;>simp[Ez.cv,k4,p0,p1,p2]
    clear hK6;cases b
    ·simp[Ez.cv];refine(e7 false _ hb ?_);apply Go1<;>simp[Ez.cv]
    rw[ce]at hb;rcases dh (x.e.kind=1)with k1|k1<;>rcases dh (x.e.kind=2)with k2|k2<;>cases ea:x.e.aq<;>cases er:x.e.rl
    all_goals
     simp[Ez.cv,k1,k2,ea,er];refine(e7 B6 _ hb ?_);rw[←h6];apply Go1<;>simp[Ez.cv,k1,k2,ea,er]
   refine Wb YL fun K J=>?_;cases em:x.e.mem
   ·rw[em]at hB;simp[sb2,Xo,Kb,X2,unS,Xa,Ev.eta',em];refine J _ (e6 false _ hB ?_);apply Go1<;>simp[Ez.cv]
   rw[em,ce]at hB;rcases dh (Int.tmod x.e.addr 8=0)with f1|f1<;>cases er:x.e.reads<;>rcases dh (x.e.load=0)with ql|ql<;>cases ew:x.e.writes<;>rcases dh (x.e.store=0)with qs|qs<;>rcases dh (x.e.pred=0)with qp|qp<;>rcases dh (x.e.succ=0)with qc|qc
   all_goals
    simp[sb2,se1,Xo,Kb,X2,unS,Xa,Ev.eta',em,f1,er,ql,ew,qs,qp,qc];refine J _ (e6 B5 _ hB ?_);rw[←h5];apply Go1<;>simp[Ez.cv,f1,er,ql,ew,qs,qp,qc]
 have hv:XJ x.e=decide (0≤x.e.hart∧x.e.hart<8∧0≤x.e.pos):=rfl;rw[hv]at hK2;by_cases a1:0≤x.e.hart
 case neg=>
  rw[bk fun h=>a1 h.1]at hK2;simp[a1];refine hK2 _ ?_;apply Go1<;>simp[Ez.cv]
 by_cases a2:x.e.hart<8
 case neg=>
  rw[bk fun h=>a2 h.2.1]at hK2;simp[a1,a2];refine hK2 _ ?_;apply Go1<;>simp[Ez.cv]
 by_cases a3:0≤x.e.pos
 case neg=>
  rw[bk fun h=>a3 h.2.2]at hK2;simp[a1,a2,a3];refine hK2 _ ?_;apply Go1<;>simp[Ez.cv]
 rw[ck ⟨a1,a2,a3⟩]at hK2;simp[a1,a2,a3];refine hK2 _ ?_;apply Go1<;>simp[Ez.cv]
end Go.Proofs.YtbkpmfjfpcoehaaGreatDoor
