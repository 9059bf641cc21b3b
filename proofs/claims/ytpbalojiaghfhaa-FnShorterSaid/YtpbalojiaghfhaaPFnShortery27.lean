import Derived.Test.YtpbalojiaghfhaaPFnShortery0
import Derived.Test.YtpbalojiaghfhaaPFnShortery23
import Derived.Test.YtpbalojiaghfhaaPFnShortery26
namespace Go.Proofs.Ytpbalojiaghfhaa.PFnShorter
open Go.RowKit Go.Proofs.YtpbalojiaghfhaaW.PrintWords Go.Proofs.YtpbalojiaghfhaaW.PrintLast Go.Proofs.YtpbalojiaghfhaaW.PrintMore Go.Proofs.YtpbalojiaghfhaaW.Z
open Kd
attribute [local go_sem] isS max2_int min2_int max_two min_two max_three min_three max_four min_four
set_option linter.unusedVariables false
set_option linter.unusedSimpArgs false
def spec_Threaded.l0:Nat→List (S34)→Int→Option ((List (S34)))
  | 0,_,_=>none
  | k+1,g,c=>if c≥0 then(if 0≤c then(if c<(g.length:Int)then(if((rd_T34 g c).f0)=7 then(if 0≤(wrap64 ((wrap64 (c+1))+((rd_T34 g c).f1)))then(if(wrap64 ((wrap64 (c+1))+((rd_T34 g c).f1)))<(g.length:Int)then(if((rd_T34 g (wrap64 ((wrap64 (c+1))+((rd_T34 g c).f1)))).f0)=8 then(spec_Threaded.l0 k (g.set (c:Int).toNat (⟨(rd_T34 g (wrap64 ((wrap64 (c+1))+((rd_T34 g c).f1)))).f0,(rd_T34 g (wrap64 ((wrap64 (c+1))+((rd_T34 g c).f1)))).f1,(rd_T34 g (wrap64 ((wrap64 (c+1))+((rd_T34 g c).f1)))).f2,(rd_T34 g (wrap64 ((wrap64 (c+1))+((rd_T34 g c).f1)))).f3⟩ :S34)) (wrap64 (c - 1)))else(spec_Threaded.l0 k g (wrap64 (c - 1))))else(none))else(none))else(spec_Threaded.l0 k g (wrap64 (c - 1))))else(none))else(none))else(some g)
def spec_Threaded.f (k:Nat) (i:List (S34)):Option ((List (S34))):=(some (([] :List (S34)):List (S34))).bind fun E=>(if E.length+i.length<4398046511104 then((some (E ++ i:List (S34))).bind fun q=>((spec_CheckProgram.f k i).bind fun ad=>(if ad=true then(spec_Threaded.l0 k q (wrap64 ((q.length:Int) - 1)))else(some q))))else(none))
set_option maxHeartbeats 8000000 in
set_option maxRecDepth 100000 in
theorem spec_Threaded.calls {k:Nat}{G:Option Addr}{I:Nat}{i:List (S34)}{r:List (S34)}{w:World}(h:spec_Threaded.f k i=some r)(J:Kd.C k34 w G i.length i)(L:i.length≤I) :
 Calls Try.prog 48 #[.slice G i.length I] w fun e w'=> ∃ v0_:Value,e= .returned (v0_)∧Kd.R k34 34 w' w.heap.size (fun _=>True) v0_ r∧Below w.heap.size w w':=by
 have hu34:=Try.underlying34;have HR0:=aM J;have HC0:=aM L;clear J L;have HB:=rW w
 unfold spec_Threaded.f at h;have H:=h
 clear h;replace H:=nE H;obtain⟨E,ab,H⟩:=H;replace H:=gC H;obtain⟨ae,H⟩:=H;have ay:=aM ae;clear ae;replace H:=nE H;obtain⟨q,az,H⟩:=H;replace H:=bE H;obtain⟨ad,ac,H⟩:=H;by_cases M:ad=true
 ·subst M;replace H:=iT H;have H':=aM H;clear H;go_enter Try.func48,Try.ntmps48
  go_wp2_with (first|((with_reducible refine gN 5 ?_);refine R_lit k34 _ 34 ?hg (N:=5) ?hd (xs:=([] :List (S34))) (inner:=[]) (ok:=fun _=>True) (okp:=fun _=>True) ?hr ?hp (fun _ hk=>hk) trivial (Below.refl _ _) (Nat.le_refl _) (by simp) ?_;(case hd=>rfl);(case hg=>rfl);(case hr=>exact rG);(case hp=>exact(Reps.none _ _));intro af bo O hb hg_ hnew_;clear hg_ hnew_;(first|rw[← ab.out]at O|(simp only[Int.reduceToNat]at O;rw[← ab.out]at O));have U:=rL O;replace HB:=sB hb;clear hb O)|((with_reducible refine gA 5 6 ?_);at_builtin;refine R_append_rows k34 (w0:=w) w.heap.size rfl (.tmp 5) (.tmp 6) 24 34 (.agg #[(.int .i64 0),(.int .i64 0),(.int .i64 0),(.int .i64 0)]) 32 rfl Try.underlying24 info34 rfl (by decide) (by omega) af E i _ _ _ (fun _=>True) (fun _=>False) rfl rfl ?aO ?aR (fun _ _ h=>h) (fun _ h=>h.elim) ?aF ?aB ?aS ?aL ?_;(case aR=>exact cH HR0);(case aB=>exact cB);(case aF=>exact(fun _ _=>trivial));(case aO=>exact(mR U));(case aS=>exact(below_size cB));(case aL=>have:=ay.out;omega);intro aV bp ho hb hg hat;rw[← az.out]at ho;replace HB:=aM hb;have n:=aM ho;clear U ho hb hg hat)|((with_reducible refine gF 12 ?_);refine gX (some 9) Try.func12 (spec_CheckProgram.calls ac.out (cH HR0) HC0.out) ?_;intro bq hb;replace n:=rB n hb;replace HB:=sB hb;(try clear hb);obtain⟨aW,ag,aX⟩:=R_slice n.out;subst aX))
  go_loopg [4] k (fun kq aY w'=> ∃ (b:List (S34)) (a:Int),aY= .int .i64 a∧Aside0 (spec_Threaded.l0 kq b a=some r)∧Aside0 (kq≤k)∧Aside0 (Kd.R k34 34 w' w.heap.size (fun _=>True) (.slice aW q.length ag) b)∧Aside0 (Below w.heap.size w w'))
  case atStart=>exact⟨(q),(wrap64 ((q.length:Int) - 1)),rS,H',⟨Nat.le_refl _⟩,⟨mR n⟩,⟨cB⟩⟩
  case round=>
   clear H';(try clear ae);(try clear M);obtain⟨b,a,rfl,HA,HK1,d,HB⟩:=hrel;have hl3_1:=(R_reads' d.out).1;rw[hl3_1]at d;(try simp only[hl3_1])
   cases gk with
   | zero=>exact absurd HA.out (by simp[spec_Threaded.l0])
   | succ k1=>
    have H:=HA.out;clear HA;simp only[spec_Threaded.l0]at H;by_cases z:a≥0
    ·rw[if_pos z]at H;have aZ:decide (0≤a)=true:=decide_eq_true z;clear z;replace H:=gD H;obtain⟨br,H⟩:=H;replace H:=gD H;obtain⟨bs,H⟩:=H;by_cases W:((rd_T34 b a).f0)=7
     ·rw[if_pos W]at H;obtain⟨a0,a1⟩:=eT W;clear W;obtain⟨ji14,hji14⟩ : ∃ j_:Int,(wrap64 ((wrap64 (a+1))+((rd_T34 b a).f1)))=j_:=⟨_,rfl⟩
      (first|rw[hji14]at H|simp only[hji14]at H)
      have hji14w:(IntKind.i64.wrap ((wrap64 (a+1))+((rd_T34 b a).f1)))=ji14:=(i64_w _).trans hji14;replace H:=gD H;obtain⟨bu,H⟩:=H;replace H:=gD H;obtain⟨bv,H⟩:=H;by_cases X:((rd_T34 b (ji14)).f0)=8
      ·rw[if_pos X]at H;obtain⟨a2,a3⟩:=eT X;clear X;obtain⟨aA,aC⟩ : ∃ y_:List (S34),Aside0 (y_=(b.set (a:Int).toNat (⟨(rd_T34 b (ji14)).f0,(rd_T34 b (ji14)).f1,(rd_T34 b (ji14)).f2,(rd_T34 b (ji14)).f3⟩ :S34))):=⟨_,⟨rfl⟩⟩;rw[← aC.out]at H;have H':=aM H;clear H;have l:0≤(a:Int):=dA;have m:a<(b.length:Int):=dA;obtain⟨o,Y,ah,ai,aj,ak⟩:=at_T34 (R_reads' d.out).2.2 a l m;cases Y;replace l:=eq_true l;replace m:=eq_true m;have s:0≤(a:Int):=dA;have u:a<(b.length:Int):=dA;obtain⟨al,am,aD,aE,aG,aH⟩:=at_T34 (R_reads' d.out).2.2 a s u
       obtain rfl:o=al:=(by injection am)
       replace s:=eq_true s;replace u:=eq_true u;have x:0≤((ji14):Int):=dA;have y:(ji14)<(b.length:Int):=dA;obtain⟨an,ao,aI,aJ,aK,aN⟩:=at_T34 (R_reads' d.out).2.2 (ji14) x y
       obtain rfl:o=an:=(by injection ao)
       replace x:=eq_true x;replace y:=eq_true y;have ap:0≤(a:Int):=dA;have aq:a<(b.length:Int):=dA;obtain⟨a4,a5,a6,a7,a8,a9⟩:=at_T34 (R_reads' d.out).2.2 a ap aq
       obtain rfl:o=a4:=(by injection a5)
       replace ap:=eq_true ap;replace aq:=eq_true aq;have ar:0≤((ji14):Int):=dA;have au:(ji14)<(b.length:Int):=dA;obtain⟨ba,bb,bd,be,bf,bg⟩:=at_T34 (R_reads' d.out).2.2 (ji14) ar au
       obtain rfl:o=ba:=(by injection bb)
       replace ar:=eq_true ar;replace au:=eq_true au;have av:0≤(a:Int):=dA;have aw:(a:Int)<((b.length:Int):Int):=dA
       obtain⟨go18,bw,aP,aQ,gl18,cl18,HG18⟩:=R_form d.out (by omega)
       (first|cases aP|(injection aP with ea_ en_ ec_;(first|subst ea_|(injection ea_ with ea_;subst ea_));subst ec_;clear en_))
       have GB18:=aM aQ;have GG18:=aM HG18;clear aQ gl18 HG18
       (first|simp only[add_plain]at ah|skip)
       (first|simp only[add_plain]at ai|skip)
       (first|simp only[add_plain]at aj|skip)
       (first|simp only[add_plain]at ak|skip)
       (first|simp only[add_plain]at aD|skip)
       (first|simp only[add_plain]at aE|skip)
       (first|simp only[add_plain]at aG|skip)
       (first|simp only[add_plain]at aH|skip)
       (first|simp only[add_plain]at aI|skip)
       (first|simp only[add_plain]at aJ|skip)
       (first|simp only[add_plain]at aK|skip)
       (first|simp only[add_plain]at aN|skip)
       (first|simp only[add_plain]at a6|skip)
       (first|simp only[add_plain]at a7|skip)
       (first|simp only[add_plain]at a8|skip)
       (first|simp only[add_plain]at a9|skip)
       (first|simp only[add_plain]at bd|skip)
       (first|simp only[add_plain]at be|skip)
       (first|simp only[add_plain]at bf|skip)
       (first|simp only[add_plain]at bg|skip)
       obtain⟨ce18,hcl18,hM18,hcc18,hfr18⟩:=R_elem d.out z34 (a:Int) av aw;obtain rfl:=k34_openM hM18;have bx:wr.cell? ⟨go18,(a:Int).toNat*4,none⟩=some (.int .i64 ((rd_T34 b a).f0)):=hcc18 0 _ rfl;have bz:wr.cell? ⟨go18,(a:Int).toNat*4+1,none⟩=some (.int .i64 ((rd_T34 b a).f1)):=hcc18 1 _ rfl;have bA:wr.cell? ⟨go18,(a:Int).toNat*4+2,none⟩=some (.int .i64 ((rd_T34 b a).f2)):=hcc18 2 _ rfl;have bB:wr.cell? ⟨go18,(a:Int).toNat*4+3,none⟩=some (.int .i64 ((rd_T34 b a).f3)):=hcc18 3 _ rfl;have hf18_0:wr.frozen? ⟨go18,(a:Int).toNat*4,none⟩=false:=hfr18 0;have hf18_1:wr.frozen? ⟨go18,(a:Int).toNat*4+1,none⟩=false:=hfr18 1;have hf18_2:wr.frozen? ⟨go18,(a:Int).toNat*4+2,none⟩=false:=hfr18 2;have hf18_3:wr.frozen? ⟨go18,(a:Int).toNat*4+3,none⟩=false:=hfr18 3;clear hcl18 hcc18 hfr18;(try clear hM18);replace av:=eq_true av;replace aw:=eq_true aw
       have HX19:=aM (show Kd.R k34 34 wr w.heap.size (fun _=>True) (.slice (some ⟨go18,0,none⟩) b.length ag) b from (mR d))
       obtain⟨ce19,hcl19,hM19,hcc19,hfr19⟩:=R_elem HX19.out z34 (a:Int) (dA) (by have h_:(a:Int)<((b.length:Int):Int):=dA;first|exact h_|(have e_:=(R_reads' d.out).1;omega)|simpa using h_)
       obtain rfl:=k34_openM hM19
       have HP19:=R_seg HX19.out (a:Int) (dA) (by have h_:(a:Int)<((b.length:Int):Int):=dA;first|exact h_|(have e_:=(R_reads' d.out).1;omega)|simpa using h_) (seg:=[.int .i64 ((rd_T34 b (ji14)).f0),.int .i64 ((rd_T34 b (ji14)).f1),.int .i64 ((rd_T34 b (ji14)).f2),.int .i64 ((rd_T34 b (ji14)).f3)]) (j:=0) hcl19 hcc19 (show 4≤4 from by decide) (x':=(⟨(rd_T34 b (ji14)).f0,(rd_T34 b (ji14)).f1,(rd_T34 b (ji14)).f2,(rd_T34 b (ji14)).f3⟩ :S34)) (k34_mkM _ _ _ (⟨(rd_T34 b (ji14)).f0,(rd_T34 b (ji14)).f1,(rd_T34 b (ji14)).f2,(rd_T34 b (ji14)).f3⟩ :S34)) (fun _ hk=>hk)
       have bh:=hcc19 0 _ rfl;(try simp only[show(k34).sz=4 from rfl,Nat.mul_one,Nat.add_zero]at bh);have hf19_0:=hfr19 0;(try simp only[show(k34).sz=4 from rfl,Nat.mul_one,Nat.add_zero]at hf19_0);have bi:=hcc19 1 _ rfl;(try simp only[show(k34).sz=4 from rfl,Nat.mul_one,Nat.add_zero]at bi);have hf19_1:=hfr19 1;(try simp only[show(k34).sz=4 from rfl,Nat.mul_one,Nat.add_zero]at hf19_1);have bj:=hcc19 2 _ rfl;(try simp only[show(k34).sz=4 from rfl,Nat.mul_one,Nat.add_zero]at bj);have hf19_2:=hfr19 2;(try simp only[show(k34).sz=4 from rfl,Nat.mul_one,Nat.add_zero]at hf19_2);have bk:=hcc19 3 _ rfl;(try simp only[show(k34).sz=4 from rfl,Nat.mul_one,Nat.add_zero]at bk);have hf19_3:=hfr19 3;(try simp only[show(k34).sz=4 from rfl,Nat.mul_one,Nat.add_zero]at hf19_3);clear hcl19 hcc19 hfr19;(try clear hM19)
       go_wp2_with (first|((with_reducible refine gate_store (t:=34) (p:=53) rfl ?_);refine store_event (t:=34) (p:=53) (v:=?vo_w20) (w1:=((((wr.setCell ⟨go18,(a:Int).toNat*4,none⟩ (.int .i64 ((rd_T34 b (ji14)).f0))).setCell ⟨go18,(a:Int).toNat*4+1,none⟩ (.int .i64 ((rd_T34 b (ji14)).f1))).setCell ⟨go18,(a:Int).toNat*4+2,none⟩ (.int .i64 ((rd_T34 b (ji14)).f2))).setCell ⟨go18,(a:Int).toNat*4+3,none⟩ (.int .i64 ((rd_T34 b (ji14)).f3)))) ?hg ?ho ?hn ?hr ?_;(case ho=>rfl);(case hg=>rfl);(case hn=>rfl);(case hr=>exact rG);intro ax hw;have hg:wr.grownBy ax (some go18):=(by rw[hw];exact HP19.2);have hp_:Kd.R k34 34 ax w.heap.size (fun _=>True) (.slice (some ⟨go18,0,none⟩) b.length ag) aA:=(by rw[hw,aC.out];exact HP19.1);clear HP19;replace d:=aM hp_;replace HB:=aM ((by rw[hw];exact below_set (below_set (below_set (below_set (HB.out) GB18.out) GB18.out) GB18.out) GB18.out:Below w.heap.size w ax));clear hg hw hp_))
       (try simp only[← hl3_1]);go_roundg k1
       case measure=>exact oK
       case rel=>exact⟨(aA),(wrap64 (a - 1)),rS,H',⟨oK⟩,⟨by(try simp only[hl3_1]);(with_reducible repeat(first|apply R_alloc|apply R_drewN|apply R_drew));exact d.out⟩,⟨cB⟩⟩
      ·rw[if_neg X]at H;obtain⟨a2,a3⟩:=eF X;have H':=aM H;clear H;have l:0≤(a:Int):=dA;have m:a<(b.length:Int):=dA;obtain⟨o,Y,ah,ai,aj,ak⟩:=at_T34 (R_reads' d.out).2.2 a l m;cases Y;replace l:=eq_true l;replace m:=eq_true m;have s:0≤(a:Int):=dA;have u:a<(b.length:Int):=dA;obtain⟨al,am,aD,aE,aG,aH⟩:=at_T34 (R_reads' d.out).2.2 a s u
       obtain rfl:o=al:=(by injection am)
       replace s:=eq_true s;replace u:=eq_true u;have x:0≤((ji14):Int):=dA;have y:(ji14)<(b.length:Int):=dA;obtain⟨an,ao,aI,aJ,aK,aN⟩:=at_T34 (R_reads' d.out).2.2 (ji14) x y
       obtain rfl:o=an:=(by injection ao)
       replace x:=eq_true x;replace y:=eq_true y;go_wp2;(try simp only[← hl3_1]);go_roundg k1
       case measure=>exact oK
       case rel=>exact⟨(b),(wrap64 (a - 1)),rS,H',⟨oK⟩,⟨by(try simp only[hl3_1]);(with_reducible repeat(first|apply R_alloc|apply R_drewN|apply R_drew));exact d.out⟩,⟨cB⟩⟩
     ·rw[if_neg W]at H;obtain⟨a0,a1⟩:=eF W;have H':=aM H;clear H;have l:0≤(a:Int):=dA;have m:a<(b.length:Int):=dA;obtain⟨o,Y,ah,ai,aj,ak⟩:=at_T34 (R_reads' d.out).2.2 a l m;cases Y;replace l:=eq_true l;replace m:=eq_true m;go_wp2;(try simp only[← hl3_1]);go_roundg k1
      case measure=>exact oK
      case rel=>exact⟨(b),(wrap64 (a - 1)),rS,H',⟨oK⟩,⟨by(try simp only[hl3_1]);(with_reducible repeat(first|apply R_alloc|apply R_drewN|apply R_drew));exact d.out⟩,⟨cB⟩⟩
    ·rw[if_neg z]at H;have aZ:decide (0≤a)=false:=decide_eq_false z;clear z;obtain rfl:=Option.some.inj H;go_wp2;go_ret;exact⟨_,rE,mR d,cB⟩
 ·replace M:=Bool.eq_false_iff.mpr M;subst M;replace H:=iF H;obtain rfl:=Option.some.inj H;go_enter Try.func48,Try.ntmps48
  go_wp2_with (first|((with_reducible refine gN 5 ?_);refine R_lit k34 _ 34 ?hg (N:=5) ?hd (xs:=([] :List (S34))) (inner:=[]) (ok:=fun _=>True) (okp:=fun _=>True) ?hr ?hp (fun _ hk=>hk) trivial (Below.refl _ _) (Nat.le_refl _) (by simp) ?_;(case hd=>rfl);(case hg=>rfl);(case hr=>exact rG);(case hp=>exact(Reps.none _ _));intro af bC aa hb hg_ hnew_;clear hg_ hnew_;(first|rw[← ab.out]at aa|(simp only[Int.reduceToNat]at aa;rw[← ab.out]at aa));have U:=rL aa;replace HB:=sB hb;clear hb aa)|((with_reducible refine gA 5 6 ?_);at_builtin;refine R_append_rows k34 (w0:=w) w.heap.size rfl (.tmp 5) (.tmp 6) 24 34 (.agg #[(.int .i64 0),(.int .i64 0),(.int .i64 0),(.int .i64 0)]) 32 rfl Try.underlying24 info34 rfl (by decide) (by omega) af E i _ _ _ (fun _=>True) (fun _=>False) rfl rfl ?aO ?aR (fun _ _ h=>h) (fun _ h=>h.elim) ?aF ?aB ?aS ?aL ?_;(case aR=>exact cH HR0);(case aB=>exact cB);(case aF=>exact(fun _ _=>trivial));(case aO=>exact(mR U));(case aS=>exact(below_size cB));(case aL=>have:=ay.out;omega);intro aV bD ho hb hg hat;rw[← az.out]at ho;replace HB:=aM hb;have n:=aM ho;clear U ho hb hg hat)|((with_reducible refine gF 12 ?_);refine gX (some 9) Try.func12 (spec_CheckProgram.calls ac.out (cH HR0) HC0.out) ?_;intro bF hb;replace n:=rB n hb;replace HB:=sB hb;(try clear hb)))
  go_ret;exact⟨_,rE,mR n,cB⟩
def spec_Short.f (k:Nat) (i:List (S34)):Option ((List (S34))):=(spec_Threaded.f k i).bind fun aT=>((spec_Trimmed.f k aT).bind fun aU=>(some aU))
set_option maxHeartbeats 8000000 in
set_option maxRecDepth 100000 in
theorem spec_Short.calls {k:Nat}{G:Option Addr}{I:Nat}{i:List (S34)}{r:List (S34)}{w:World}(h:spec_Short.f k i=some r)(J:Kd.C k34 w G i.length i)(L:i.length≤I) :
 Calls Try.prog 16 #[.slice G i.length I] w fun e w'=> ∃ v0_:Value,e= .returned (v0_)∧Kd.R k34 34 w' w.heap.size (fun _=>True) v0_ r∧Below w.heap.size w w':=by
 have HR0:=aM J;have HC0:=aM L;clear J L;have HB:=rW w
 unfold spec_Short.f at h;have H:=h
 clear h;replace H:=bE H;obtain⟨aT,bl,H⟩:=H;replace H:=bE H;obtain⟨aU,ac,H⟩:=H;obtain rfl:=Option.some.inj H;go_enter Try.func16,Try.ntmps16
 go_wp2_with (first|((with_reducible refine gF 48 ?_);refine gY (some 4) Try.func48 (spec_Threaded.calls bl.out (cC HR0.out) HC0.out) ?_;rintro bG bH ⟨A,hb⟩;have D:=rL A;replace HB:=sB hb;(try clear hb);(try clear A);obtain⟨bI,bJ,bm⟩:=R_slice D.out;subst bm)|((with_reducible refine gF 47 ?_);refine gY (some 5) Try.func47 (spec_Trimmed.calls ac.out (rX D) ((rY D))) ?_;rintro bL bM ⟨A,hb⟩;have bn:=aM (R_lower (R_new' A (R_lt (mR D))) (below_size cB));replace D:=eB D (R_base A) hb;replace HB:=sB hb;(try clear hb);(try clear A)))
 go_ret
 exact⟨_,rE,by(with_reducible repeat(first|apply R_alloc|apply R_drewN|apply R_drew));exact R_mono bn.out (fun _ hk=>trivial),cB⟩
end Go.Proofs.Ytpbalojiaghfhaa.PFnShorter
