import Derived.Test.YtpbalojiaghfhaaGreatPFnExactCompiley0
import Derived.Test.YtpbalojiaghfhaaGreatPFnExactCompiley13
namespace Go.Proofs.YtpbalojiaghfhaaGreat.PFnExactCompile
open Go.RowKit Go.Proofs.YtpbalojiaghfhaaGreatW.PrintWords Go.Proofs.YtpbalojiaghfhaaGreatW.PrintLast Go.Proofs.YtpbalojiaghfhaaGreatW.PrintMore Go.Proofs.YtpbalojiaghfhaaGreatW.Z
open Kd
attribute [local go_sem] isS max2_int min2_int max_two min_two max_three min_three max_four min_four
set_option linter.unusedVariables false
set_option linter.unusedSimpArgs false
mutual
def spec_l10Put.l0:Nat→List Int→Int→List Int→Int→Option (List Int)
  | 0,_,_,_,_=>none
  | k+1,q,x,m,ab=>if ab<(q.length:Int)then(if 0≤ab then(if(rd q ab)<x then(if m.length<17592186044416 then(spec_l10Put.l0 k q x (m ++ [rd q ab]) (wrap64 (ab+1)))else(none))else(spec_l10Put.l0 k q x m (wrap64 (ab+1))))else(none))else(if m.length<17592186044416 then(spec_l10Put.l1 k q x (m ++ [x]) 0)else(none))
def spec_l10Put.l1:Nat→List Int→Int→List Int→Int→Option (List Int)
  | 0,_,_,_,_=>none
  | k+1,q,x,m,ac=>if ac<(q.length:Int)then(if 0≤ac then(if(rd q ac)>x then(if m.length<17592186044416 then(spec_l10Put.l1 k q x (m ++ [rd q ac]) (wrap64 (ac+1)))else(none))else(spec_l10Put.l1 k q x m (wrap64 (ac+1))))else(none))else(some m)
end
def spec_l10Put.f (k:Nat) (a:List Int) (j:Int):Option (List Int):=(spec_l09In.f k a j).bind fun aC=>(if aC=true then(some a)else(spec_l10Put.l0 k a j (([] :List Int)) 0))
theorem q17x0 {P:Prop} (h:P:=by repeat(first|(with_reducible first|exact HK.out|apply Kept.alloc|apply Kept.drewN|apply Kept.drew)|exact HK.out)):P:=h
set_option maxHeartbeats 8000000 in
set_option maxRecDepth 100000 in
theorem spec_l10Put.calls (k:Nat) (P0_:Nat→Prop) (u9000_:Value) (a:List Int) (j:Int) (r:List Int) (w0 w:World) (hB:Below w0.heap.size w0 w) (aq:Kd.R (Kd.int .i64) 3 w w0.heap.size P0_ u9000_ a) (h:spec_l10Put.f k a j=some r) :
 Calls Tryz.prog 65 #[u9000_,.int .i64 j] w fun e w'=> ∃ v0_:Value,e= .returned (v0_)∧Kd.R (Kd.int .i64) 3 w' w0.heap.size (fun k_=>(P0_ k_∨w.heap.size≤k_)) v0_ r∧Below w0.heap.size w0 w'∧Kept w w' (fun k_=>P0_ k_):=by
 have s:=aM (show Kd.R (Kd.int .i64) 3 w w0.heap.size (fun k_=>(P0_ k_∨w.heap.size≤k_)) u9000_ a from R_mono aq (fun k_ hk=>(.inl hk)))
 have HK:=aM (Kept.refl w (fun k_=>P0_ k_))
 have HW0:=aM hB.size;have HB:=aM hB;clear hB
 unfold spec_l10Put.f at h;have H:=h
 clear h;replace H:=bE H;obtain⟨aC,a3,H⟩:=H;by_cases ad:aC=true
 ·subst ad;replace H:=iT H;obtain rfl:=Option.some.inj H;obtain⟨bk,bl,bm⟩:=R_slice s.out;subst bm;go_enter Tryz.func65,Tryz.ntmps65
  go_wp2_with (first|((with_reducible refine gF 58 ?_);refine goZ (some 10) Tryz.func58 #[.slice bk a.length bl,.int .i64 j] ?_;(with_reducible refine(spec_l09In.calls k _ _ a j true _ ?side1 ?side2 a3.out).mono ?_);(case side1=>exact cC ((R_reads' s.out).2.2));(case side2=>exact(R_reads' s.out).2.1);rintro e w' ⟨rfl,⟨nd,rfl⟩⟩;refine⟨_,rfl,?_⟩))
  go_ret;exact⟨_,rE,mR s,cB,q17x0⟩
 ·replace ad:=Bool.eq_false_iff.mpr ad;subst ad;replace H:=iF H;obtain⟨bn,aD⟩ : ∃ y_:List Int,Aside0 (y_=(([] :List Int))):=⟨_,⟨rfl⟩⟩;rw[← aD.out]at H;have H':=aM H;clear H;obtain⟨ae,z,bo⟩:=R_slice s.out;subst bo;go_enter Tryz.func65,Tryz.ntmps65
  go_wp2_with (first|((with_reducible refine gF 58 ?_);refine goZ (some 10) Tryz.func58 #[.slice ae a.length z,.int .i64 j] ?_;(with_reducible refine(spec_l09In.calls k _ _ a j false _ ?side1 ?side2 a3.out).mono ?_);(case side1=>exact cC ((R_reads' s.out).2.2));(case side2=>exact(R_reads' s.out).2.1);rintro e w' ⟨rfl,⟨nd,rfl⟩⟩;refine⟨_,rfl,?_⟩)|((with_reducible refine gN 12 ?_);refine R_lit (Kd.int .i64) _ 3 ?hg (N:=12) ?hd (xs:=([] :List Int)) (inner:=[]) (ok:=fun _=>True) (okp:=fun _=>True) ?hr ?hp (fun _ hk=>hk) trivial (Below.refl _ _) (Nat.le_refl _) (by simp) ?_;(case hd=>rfl);(case hg=>rfl);(case hr=>exact rG);(case hp=>exact(Reps.none _ _));intro cd ce af hb hg_ hnew_;clear hg_ hnew_;(first|rw[← aD.out]at af|(simp only[Int.reduceToNat]at af;rw[← aD.out]at af));have bp:=aM (R_lower (R_new' (R_newM (M:=fun k_=>(P0_ k_∨w.heap.size≤k_)) af (by first|exact HK.out.1|exact(show Kept w _ (fun k_=>P0_ k_)from q17x0).1) (fun k_ h_=> .inr h_)) (R_lt (mR s))) (below_size cB));replace s:=eB s (R_base af) hb;replace HK:=aM (Kept.below (S:=(fun k_=>P0_ k_)) q17x0 hb);replace HB:=sB hb;clear hb af))
  go_loopg [5,6] k (fun kq L bq w'=> ∃ (A:List Int) (g:Int),bq= .int .i64 g∧Aside0 (spec_l10Put.l0 kq a j A g=some r)∧Aside0 (kq≤k)∧Aside0 (Kd.R (Kd.int .i64) 3 w' w0.heap.size (fun k_=>(P0_ k_∨w.heap.size≤k_)∧some k_≠(L:Value).ownBlock) (.slice ae a.length z) a)∧Aside0 (Kd.R (Kd.int .i64) 3 w' w0.heap.size (fun k_=>(P0_ k_∨w.heap.size≤k_)∧some k_≠((.slice ae a.length z):Value).ownBlock) L A)∧Aside0 (Kept w w' (fun k_=>P0_ k_))∧Aside0 (Below w0.heap.size w0 w'))
  case atStart=>exact⟨(bn),(0),rS,H',⟨Nat.le_refl _⟩,⟨mR s⟩,⟨by(with_reducible repeat(first|apply R_alloc|apply R_drewN|apply R_drew));exact R_mono bp.out (fun _ hk=>⟨hk.1.1,hk.2⟩)⟩,⟨q17x0⟩,⟨cB⟩⟩
  case round=>
   clear H';(try clear ad);obtain⟨A,g,rfl,HA,HK1,b,p,HK,HB⟩:=hrel
   cases gk with
   | zero=>exact absurd HA.out (by simp[spec_l10Put.l0])
   | succ k1=>
    have H:=HA.out;clear HA;simp only[spec_l10Put.l0]at H;by_cases o:g<(a.length:Int)
    ·rw[if_pos o]at H;have ar:=decide_eq_true o;clear o;replace H:=gD H;obtain⟨a4,H⟩:=H;by_cases O:(rd a g)<j
     ·rw[if_pos O]at H;have a5:=decide_eq_true O;clear O;replace H:=gC H;obtain⟨aE,H⟩:=H;have br:=aM aE;clear aE;obtain⟨bs,a6⟩ : ∃ y_:List Int,Aside0 (y_=(A ++ [rd a g])):=⟨_,⟨rfl⟩⟩;rw[← a6.out]at H;have H':=aM H;clear H;have D:0≤(g:Int):=dA;have E:g<(a.length:Int):=dA;obtain⟨aG,aH,a7⟩:=at_int (R_reads' b.out).2.2 g D E;cases aH;replace D:=eq_true D;replace E:=eq_true E;have au:0≤(g:Int):=dA;have av:g<(a.length:Int):=dA;obtain⟨bu,bv,bw⟩:=at_int (R_reads' b.out).2.2 g au av
      obtain rfl:aG=bu:=(by injection bv)
      replace au:=eq_true au;replace av:=eq_true av
      go_wp2_with (first|((with_reducible refine gA 25 30 ?_);at_builtin;refine R_append (Kd.int .i64) (w0:=w0) w0.heap.size rfl (.tmp 25) (.tmp 30) 42 3 (.int .i64 0) 8 rfl Tryz.underlying42 info3 rfl (by decide) (by omega) u5 A (rd a g) [.int .i64 (rd a g)] (fun k_=>(P0_ k_∨w.heap.size≤k_)∧some k_≠(.slice (some aG) a.length z:Value).ownBlock) (fun _=>False) rfl rfl ?aP (fun _ hk=>hk.elim) ?aF ?aO ?aB ?aS ?aL ?_;(case aP=>exact rfl);(case aB=>exact cB);(case aF=>exact(fun k_ hk=>⟨(.inr (Nat.le_trans (by first|exact HK.out.1|exact(show Kept w _ (fun k_=>P0_ k_)from q17x0).1) hk)),Kd.fresh' (R_lt (mR b)) k_ hk⟩));(case aO=>exact(mR p));(case aS=>exact(below_size cB));(case aL=>have:=br.out;omega);intro cf cg ho hb hg hat;rw[← a6.out]at ho;replace b:=aM (R_after (ok:=(fun k_=>(P0_ k_∨w.heap.size≤k_))) (mR b) hg hat);replace HB:=aM (hb);replace HK:=aM (Kept.of_grown (S:=(fun k_=>P0_ k_)) hg q17x0 (fun k_ e_=>(p.out.1 k_ e_).1));have bx:=aM (ho);clear p ho hb hg hat))
      go_roundg k1
      case measure=>have:=HK1.out;omega
      case rel=>exact⟨(bs),(wrap64 (g+1)),rS,H',⟨by have:=HK1.out;omega⟩,⟨mR b⟩,⟨mR bx⟩,⟨q17x0⟩,⟨cB⟩⟩
     ·rw[if_neg O]at H;have a5:=decide_eq_false O;clear O;have H':=aM H;clear H;have D:0≤(g:Int):=dA;have E:g<(a.length:Int):=dA;obtain⟨aG,aH,a7⟩:=at_int (R_reads' b.out).2.2 g D E;cases aH;replace D:=eq_true D;replace E:=eq_true E;go_wp2;go_roundg k1
      case measure=>have:=HK1.out;omega
      case rel=>exact⟨(A),(wrap64 (g+1)),rS,H',⟨by have:=HK1.out;omega⟩,⟨mR b⟩,⟨mR p⟩,⟨q17x0⟩,⟨cB⟩⟩
    ·rw[if_neg o]at H;have ar:=decide_eq_false o;clear o;replace H:=gC H;obtain⟨aI,H⟩:=H;have bz:=aM aI;clear aI;obtain⟨bA,a8⟩ : ∃ y_:List Int,Aside0 (y_=(A ++ [j])):=⟨_,⟨rfl⟩⟩;rw[← a8.out]at H;have H':=aM H;clear H
     go_wp2_with (first|((with_reducible refine gA 32 34 ?_);at_builtin;refine R_append (Kd.int .i64) (w0:=w0) w0.heap.size rfl (.tmp 32) (.tmp 34) 42 3 (.int .i64 0) 8 rfl Tryz.underlying42 info3 rfl (by decide) (by omega) u5 A j [.int .i64 j] (fun k_=>(P0_ k_∨w.heap.size≤k_)∧some k_≠(.slice ae a.length z:Value).ownBlock) (fun _=>False) rfl rfl ?aP (fun _ hk=>hk.elim) ?aF ?aO ?aB ?aS ?aL ?_;(case aP=>exact rfl);(case aB=>exact cB);(case aF=>exact(fun k_ hk=>⟨(.inr (Nat.le_trans (by first|exact HK.out.1|exact(show Kept w _ (fun k_=>P0_ k_)from q17x0).1) hk)),Kd.fresh' (R_lt (mR b)) k_ hk⟩));(case aO=>exact(mR p));(case aS=>exact(below_size cB));(case aL=>have:=bz.out;omega);intro ch ci ho hb hg hat;rw[← a8.out]at ho;replace b:=aM (R_after (ok:=(fun k_=>(P0_ k_∨w.heap.size≤k_))) (mR b) hg hat);replace HB:=aM (hb);replace HK:=aM (Kept.of_grown (S:=(fun k_=>P0_ k_)) hg q17x0 (fun k_ e_=>(p.out.1 k_ e_).1));have bB:=aM (ho);clear p ho hb hg hat))
     go_loopg [5,7] k1 (fun kq L bC w'=> ∃ (l:List Int) (c:Int),bC= .int .i64 c∧Aside0 (spec_l10Put.l1 kq a j l c=some r)∧Aside0 (kq≤k1)∧Aside0 (Kd.R (Kd.int .i64) 3 w' w0.heap.size (fun k_=>(P0_ k_∨w.heap.size≤k_)∧some k_≠(L:Value).ownBlock) (.slice ae a.length z) a)∧Aside0 (Kd.R (Kd.int .i64) 3 w' w0.heap.size (fun k_=>(P0_ k_∨w.heap.size≤k_)∧some k_≠((.slice ae a.length z):Value).ownBlock) L l)∧Aside0 (Kept w w' (fun k_=>P0_ k_))∧Aside0 (Below w0.heap.size w0 w'))
     case atStart=>exact⟨(bA),(0),rS,H',⟨Nat.le_refl _⟩,⟨mR b⟩,⟨mR bB⟩,⟨q17x0⟩,⟨cB⟩⟩
     case round=>
      clear H';(try clear ad);(try clear o);(try clear ar);(try clear cj);(try clear a4);(try clear O);(try clear a5);(try clear aE);(try clear aI);(try clear a7);(try clear bw);(try clear D);(try clear au);(try clear E);(try clear av);obtain⟨l,c,rfl,HA,HK2,b,p,HK,HB⟩:=hrel
      cases gk with
      | zero=>exact absurd HA.out (by simp[spec_l10Put.l1])
      | succ k2=>
       have H:=HA.out;clear HA;simp only[spec_l10Put.l1]at H;by_cases ag:c<(a.length:Int)
       ·rw[if_pos ag]at H;have bD:=decide_eq_true ag;clear ag;replace H:=gD H;obtain⟨ck,H⟩:=H;by_cases ah:(rd a c)>j
        ·rw[if_pos ah]at H;have bF:decide (j<(rd a c))=true:=decide_eq_true ah;clear ah;replace H:=gC H;obtain⟨a9,H⟩:=H;have bG:=aM a9;clear a9;obtain⟨bH,ba⟩ : ∃ y_:List Int,Aside0 (y_=(l ++ [rd a c])):=⟨_,⟨rfl⟩⟩;rw[← ba.out]at H;have H':=aM H;clear H;have U:0≤(c:Int):=dA;have W:c<(a.length:Int):=dA;obtain⟨aJ,aK,bI⟩:=at_int (R_reads' b.out).2.2 c U W;cases aK;replace U:=eq_true U;replace W:=eq_true W;have aN:0≤(c:Int):=dA;have aQ:c<(a.length:Int):=dA;obtain⟨bJ,bL,cl⟩:=at_int (R_reads' b.out).2.2 c aN aQ
         obtain rfl:aJ=bJ:=(by injection bL)
         replace aN:=eq_true aN;replace aQ:=eq_true aQ
         go_wp2_with (first|((with_reducible refine gA 48 53 ?_);at_builtin;refine R_append (Kd.int .i64) (w0:=w0) w0.heap.size rfl (.tmp 48) (.tmp 53) 42 3 (.int .i64 0) 8 rfl Tryz.underlying42 info3 rfl (by decide) (by omega) u5 l (rd a c) [.int .i64 (rd a c)] (fun k_=>(P0_ k_∨w.heap.size≤k_)∧some k_≠(.slice (some aJ) a.length z:Value).ownBlock) (fun _=>False) rfl rfl ?aP (fun _ hk=>hk.elim) ?aF ?aO ?aB ?aS ?aL ?_;(case aP=>exact rfl);(case aB=>exact cB);(case aF=>exact(fun k_ hk=>⟨(.inr (Nat.le_trans (by first|exact HK.out.1|exact(show Kept w _ (fun k_=>P0_ k_)from q17x0).1) hk)),Kd.fresh' (R_lt (mR b)) k_ hk⟩));(case aO=>exact(mR p));(case aS=>exact(below_size cB));(case aL=>have:=bG.out;omega);intro cm cn ho hb hg hat;rw[← ba.out]at ho;replace b:=aM (R_after (ok:=(fun k_=>(P0_ k_∨w.heap.size≤k_))) (mR b) hg hat);replace HB:=aM (hb);replace HK:=aM (Kept.of_grown (S:=(fun k_=>P0_ k_)) hg q17x0 (fun k_ e_=>(p.out.1 k_ e_).1));have bM:=aM (ho);clear p ho hb hg hat))
         go_roundg k2
         case measure=>have:=HK1.out;have:=HK2.out;omega
         case rel=>exact⟨(bH),(wrap64 (c+1)),rS,H',⟨by have:=HK1.out;have:=HK2.out;omega⟩,⟨mR b⟩,⟨mR bM⟩,⟨q17x0⟩,⟨cB⟩⟩
        ·rw[if_neg ah]at H;have bF:decide (j<(rd a c))=false:=decide_eq_false ah;clear ah;have H':=aM H;clear H;have U:0≤(c:Int):=dA;have W:c<(a.length:Int):=dA;obtain⟨aJ,aK,bI⟩:=at_int (R_reads' b.out).2.2 c U W;cases aK;replace U:=eq_true U;replace W:=eq_true W;go_wp2;go_roundg k2
         case measure=>have:=HK1.out;have:=HK2.out;omega
         case rel=>exact⟨(l),(wrap64 (c+1)),rS,H',⟨by have:=HK1.out;have:=HK2.out;omega⟩,⟨mR b⟩,⟨mR p⟩,⟨q17x0⟩,⟨cB⟩⟩
       ·rw[if_neg ag]at H;have bD:=decide_eq_false ag;clear ag;obtain rfl:=Option.some.inj H;go_wp2;go_ret
        exact⟨_,rE,by(with_reducible repeat(first|apply R_alloc|apply R_drewN|apply R_drew));exact R_mono p.out (fun _ hk=>hk.1),cB,q17x0⟩
mutual
def spec_NumsOf.l0:Nat→List Int→Int→Int→Int→Int→List (S78)→Option (List Int)
  | 0,_,_,_,_,_,_=>none
  | k+1,ak,y,aw,ax,ay,G=>if y<(G.length:Int)then(spec_NumsOf.l1 k ak y 0 aw ax ay G)else(some ak)
def spec_NumsOf.l1:Nat→List Int→Int→Int→Int→Int→Int→List (S78)→Option (List Int)
  | 0,_,_,_,_,_,_,_=>none
  | k+1,ak,y,m,aw,ax,ay,G=>if 0≤y then(if y<(G.length:Int)then(if m<(((rd_T78 G y).f0).length:Int)then(if 0≤m then((spec_l10Put.f k ak (rd ((rd_T78 G y).f0) m)).bind fun az=>(spec_NumsOf.l1 k az y (wrap64 (m+1)) aw ax ay G))else(none))else(spec_NumsOf.l0 k ak (wrap64 (y+1)) aw ax ay G))else(none))else(none)
end
def spec_NumsOf.f (k:Nat) (t:Int) (u:Int) (v:Int) (d:List (S78)):Option (List Int):=spec_NumsOf.l0 k (([] :List Int)) 0 t u v d
set_option maxHeartbeats 8000000 in
set_option maxRecDepth 100000 in
theorem spec_NumsOf.calls (k:Nat) (t:Int) (u:Int) (v:Int) (al:Option Addr) (am:Nat) (d:List (S78)) (r:List Int) (w:World) (bb:Kd.C k78 w al d.length d) (bd:d.length≤am) (h:spec_NumsOf.f k t u v d=some r) :
 Calls Tryz.prog 27 #[.agg #[.int .i64 t,.int .i64 u,.int .i64 v,.slice al d.length am]] w fun e w'=> ∃ v0_:Value,e= .returned (v0_)∧Kd.R (Kd.int .i64) 3 w' w.heap.size (fun _=>True) v0_ r∧Below w.heap.size w w':=by
 have hu26:=Tryz.underlying26;have HR0_3:=aM bb;have HC0_3:=aM bd;clear bb bd;have HB:=aM (Below.refl w.heap.size w);have H:(spec_NumsOf.l0 k (([] :List Int)) 0 t u v d)=some r:=h;clear h;obtain⟨bN,aR⟩ : ∃ y_:List Int,Aside0 (y_=(([] :List Int))):=⟨_,⟨rfl⟩⟩;rw[← aR.out]at H;have H':=aM H;clear H;go_enter Tryz.func27,Tryz.ntmps27
 go_wp2_with (first|((with_reducible refine gN 1 ?_);refine boxZ 1 #[.int .i64 t,.int .i64 u,.int .i64 v,.slice al d.length am] 26 ?_;intro be hg co hbox hb;have n:=aM (hbox);have GW933:=gS hg;have GE933:=gS hg;replace HB:=sB hb;clear hb hbox hg)|((with_reducible refine gN 6 ?_);refine R_lit (Kd.int .i64) _ 3 ?hg (N:=6) ?hd (xs:=([] :List Int)) (inner:=[]) (ok:=fun _=>True) (okp:=fun _=>True) ?hr ?hp (fun _ hk=>hk) trivial (Below.refl _ _) (Nat.le_refl _) (by simp) ?_;(case hd=>rfl);(case hg=>rfl);(case hr=>exact rG);(case hp=>exact(Reps.none _ _));intro cp cq an hb hg_ hnew_;clear hg_ hnew_;(first|rw[← aR.out]at an|(simp only[Int.reduceToNat]at an;rw[← aR.out]at an));have bO:=aM (R_lower an (below_size cB));replace n:=kB n hb;replace HB:=sB hb;clear hb an))
 go_loopg [3,4] k (fun kq aT bP w'=> ∃ (aA:List Int) (i:Int),bP= .int .i64 i∧Aside0 (spec_NumsOf.l0 kq aA i t u v d=some r)∧Aside0 (kq≤k)∧Aside0 (Kd.R (Kd.int .i64) 3 w' w.heap.size (fun _=>True) aT aA)∧Aside0 (w'.heap[be]?=some (.cells #[.int .i64 t,.int .i64 u,.int .i64 v,(.slice al d.length am)] 26 (0,0)))∧Aside0 (Below w.heap.size w w'))
 case atStart=>exact⟨(bN),(0),rS,H',⟨Nat.le_refl _⟩,⟨mR bO⟩,⟨mK n⟩,⟨cB⟩⟩
 case round=>
  clear H';obtain⟨aA,i,rfl,HA,HK1,I,n,HB⟩:=hrel
  cases gk with
  | zero=>exact absurd HA.out (by simp[spec_NumsOf.l0])
  | succ k1=>
   have H:=HA.out;clear HA;simp only[spec_NumsOf.l0]at H;by_cases X:i<(d.length:Int)
   ·rw[if_pos X]at H;have bf:=decide_eq_true X;clear X;have H':=aM H;clear H;obtain⟨bQ,bR,bS,bT,bU,bV,bW,bX⟩:=cz4 n;go_wp2
    go_loopg [3,5] k1 (fun kq aT L w'=> ∃ (J:List Int) (l:Int),L= .int .i64 l∧Aside0 (spec_NumsOf.l1 kq J i l t u v d=some r)∧Aside0 (kq≤k1)∧Aside0 (Kd.R (Kd.int .i64) 3 w' w.heap.size (fun _=>True) aT J)∧Aside0 (w'.heap[be]?=some (.cells #[.int .i64 t,.int .i64 u,.int .i64 v,(.slice al d.length am)] 26 (0,0)))∧Aside0 (Below w.heap.size w w'))
    case atStart=>exact⟨(aA),(0),rS,H',⟨Nat.le_refl _⟩,⟨mR I⟩,⟨mK n⟩,⟨cB⟩⟩
    case round=>
     clear H';(try clear X);(try clear bf);(try clear bQ bR bS bT);(try clear bU bV bW bX);obtain⟨J,l,rfl,HA,HK2,I,n,HB⟩:=hrel
     cases gk with
     | zero=>exact absurd HA.out (by simp[spec_NumsOf.l1])
     | succ k2=>
      have H:=HA.out;clear HA;simp only[spec_NumsOf.l1]at H;replace H:=gD H;obtain⟨cr,H⟩:=H;replace H:=gD H;obtain⟨cs,H⟩:=H;by_cases o:l<(((rd_T78 d i).f0).length:Int)
      ·rw[if_pos o]at H;have ar:=decide_eq_true o;clear o;replace H:=gD H;obtain⟨a4,H⟩:=H;replace H:=bE H;obtain⟨az,bY,H⟩:=H;have H':=aM H;clear H;obtain⟨ct,cu,cv,cw,cx,cy,cz,cA⟩:=cz4 n;have Y:0≤(i:Int):=dA;have aa:i<(d.length:Int):=dA;obtain⟨bg,bZ,b0,b1,b5,aU,ai,aj,ao,ap,hl937_0,hi937_0,hl937_1,hi937_1⟩:=at_T78 HR0_3.out i Y aa;cases aU;replace ai:=(bc HB ai :);replace aj:=(bc HB aj :);replace ao:=(bc HB ao :);replace ap:=(bc HB ap :);have HR937_0:=aM hi937_0;have HC937_0:=aM hl937_0;clear hi937_0 hl937_0;have HR937_1:=aM hi937_1;have HC937_1:=aM hl937_1;clear hi937_1 hl937_1;replace Y:=eq_true Y;replace aa:=eq_true aa;have aV:0≤(i:Int):=dA;have aW:i<(d.length:Int):=dA;obtain⟨b8,cD,cE,cF,cG,b9,aX,aY,bh,bi,hl938_0,hi938_0,hl938_1,hi938_1⟩:=at_T78 HR0_3.out i aV aW
       obtain rfl:bg=b8:=(by injection b9)
       replace aX:=(bc HB aX :);replace aY:=(bc HB aY :);replace bh:=(bc HB bh :);replace bi:=(bc HB bi :);have HR938_0:=aM hi938_0;have HC938_0:=aM hl938_0;clear hi938_0 hl938_0;have HR938_1:=aM hi938_1;have HC938_1:=aM hl938_1;clear hi938_1 hl938_1;replace aV:=eq_true aV;replace aW:=eq_true aW;have ea_:=Option.some.inj (ai.symm.trans aX)
       injection ea_ with ea_ en_ ec_
       subst ea_;subst ec_;clear en_;have ea_:=Option.some.inj (aj.symm.trans aY)
       injection ea_ with ea_ en_ ec_
       subst ea_;subst ec_;clear en_;have aZ:0≤(l:Int):=dA;have a0:l<(((rd_T78 d i).f0).length:Int):=dA;obtain⟨cH,ca,bj⟩:=at_int HR938_0.out l aZ a0;cases ca;replace bj:=(bc HB bj :);replace aZ:=eq_true aZ;replace a0:=eq_true a0;obtain⟨a1,a2,cb⟩:=R_slice I.out;subst cb
       go_wp2_with (first|((with_reducible refine gF 65 ?_);refine goZ (some 35) Tryz.func65 #[.slice a1 J.length a2,.int .i64 (rd ((rd_T78 d i).f0) l)] ?_;(with_reducible refine(spec_l10Put.calls k2 (fun k_=>some k_=(.slice a1 J.length a2:Value).ownBlock) (.slice a1 J.length a2) J (rd ((rd_T78 d i).f0) l) az w _ ?side1 ?side2 bY.out).mono ?_);(case side1=>exact cB);(case side2=>exact R_tight rfl I.out);rintro e cI ⟨cJ,rfl,aq,hb,hkp⟩;refine⟨_,rfl,?_⟩;replace n:=aM (blk_kept (mK n) hkp (fun hs_=>(fun e_=>(R_ne I.out n.out (by decide)) e_) hs_));have cc:=aM (R_mono (ok':=fun k_=>True) aq (fun k_ hk_=>trivial));replace HB:=aM (hb);clear I;(try clear hb);(try clear hkp);(try clear aq)))
       go_roundg k2
       case measure=>have:=HK1.out;have:=HK2.out;omega
       case rel=>exact⟨(az),(wrap64 (l+1)),rS,H',⟨by have:=HK1.out;have:=HK2.out;omega⟩,⟨mR cc⟩,⟨mK n⟩,⟨cB⟩⟩
      ·rw[if_neg o]at H;have ar:=decide_eq_false o;clear o;have H':=aM H;clear H;obtain⟨cL,cM,cN,cO,cP,cQ,cR,cS⟩:=cz4 n;have Y:0≤(i:Int):=dA;have aa:i<(d.length:Int):=dA;obtain⟨bg,bZ,b0,b1,b5,aU,ai,aj,ao,ap,hl937_0,hi937_0,hl937_1,hi937_1⟩:=at_T78 HR0_3.out i Y aa;cases aU;replace ai:=(bc HB ai :);replace aj:=(bc HB aj :);replace ao:=(bc HB ao :);replace ap:=(bc HB ap :);have HR937_0:=aM hi937_0;have HC937_0:=aM hl937_0;clear hi937_0 hl937_0;have HR937_1:=aM hi937_1;have HC937_1:=aM hl937_1;clear hi937_1 hl937_1;replace Y:=eq_true Y;replace aa:=eq_true aa;go_wp2;go_roundg k2
       case measure=>have:=HK1.out;have:=HK2.out;omega
       case rel=>exact⟨(J),(wrap64 (i+1)),rS,H',⟨by have:=HK1.out;have:=HK2.out;omega⟩,⟨mR I⟩,⟨mK n⟩,⟨cB⟩⟩
   ·rw[if_neg X]at H;have bf:=decide_eq_false X;clear X;obtain rfl:=Option.some.inj H;obtain⟨cT,cU,cV,cW,cX,cY,cZ,c0⟩:=cz4 n;go_wp2;go_ret;exact⟨_,rE,mR I,cB⟩
end Go.Proofs.YtpbalojiaghfhaaGreat.PFnExactCompile
