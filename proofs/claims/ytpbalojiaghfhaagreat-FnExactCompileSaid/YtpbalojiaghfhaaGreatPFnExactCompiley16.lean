import Derived.Test.YtpbalojiaghfhaaGreatPFnExactCompiley0
import Derived.Test.YtpbalojiaghfhaaGreatPFnExactCompiley13
import Derived.Test.YtpbalojiaghfhaaGreatPFnExactCompiley15
namespace Go.Proofs.YtpbalojiaghfhaaGreat.PFnExactCompile
open Go.RowKit Go.Proofs.YtpbalojiaghfhaaGreatW.PrintWords Go.Proofs.YtpbalojiaghfhaaGreatW.PrintLast Go.Proofs.YtpbalojiaghfhaaGreatW.PrintMore Go.Proofs.YtpbalojiaghfhaaGreatW.Z
open Kd
attribute [local go_sem] isS max2_int min2_int max_two min_two max_three min_three max_four min_four
set_option linter.unusedVariables false
set_option linter.unusedSimpArgs false
theorem qh16x0 {P:Prop} (h:P:=by exact⟨(blk_cell b.out 0).trans rfl,(blk_cell b.out 1).trans rfl,(blk_cell b.out 2).trans rfl,(blk_cell b.out 3).trans rfl,((bc HB ap :))⟩):P:=h
theorem qh16x1 {P:Prop} (h:P:=by exact⟨(blk_cell b.out 0).trans rfl,(blk_cell b.out 1).trans rfl,(blk_cell b.out 2).trans rfl,(blk_cell b.out 3).trans rfl⟩):P:=h
def spec_TreeLines.f:Nat→Int→Int→Int→List (S78)→List Int→ByteArray→Option ((List (S86)))
  | 0,_,_,_,_,_,_=>none
  | k+1,g,i,j,d,c,a=>if(c.length:Int)=0 then((spec_ChainLines.f k g i j d 0 true a).bind fun aq=>(some aq))else(if(c.length:Int)=1 then(if 0<(c.length:Int)then(if a.size+1≤9223372036854775807 then((spec_l11Asks.f 3 (rd c 0) (a ++ (⟨#[121]⟩ :ByteArray)) (a ++ (⟨#[120]⟩ :ByteArray))).bind fun o=>((some (([(⟨o.1,(⟨o.2.1,o.2.2.1,o.2.2.2.1,o.2.2.2.2.1⟩ :S71),o.2.2.2.2.2.1,o.2.2.2.2.2.2⟩ :S86),(⟨a ++ (⟨#[121]⟩ :ByteArray),(⟨0,0,0,0⟩ :S71),(⟨#[]⟩ :ByteArray),(⟨#[]⟩ :ByteArray)⟩ :S86)] :List (S86)):List (S86))).bind fun J=>((spec_ChainLines.f k g i j d (rd c 0) false (a ++ (⟨#[121]⟩ :ByteArray))).bind fun v=>(if J.length+v.length<1759218604441 then((some (J ++ v:List (S86))).bind fun L=>(if L.length<1759218604441 then((some (L ++ [(⟨a ++ (⟨#[120]⟩ :ByteArray),(⟨0,0,0,0⟩ :S71),(⟨#[]⟩ :ByteArray),(⟨#[]⟩ :ByteArray)⟩ :S86)] :List (S86))).bind fun G=>((spec_ChainLines.f k g i j d 0 true (a ++ (⟨#[120]⟩ :ByteArray))).bind fun y=>(if G.length+y.length<1759218604441 then(some (G ++ y))else(none))))else(none)))else(none)))))else(none))else(none))else(if 0≤(wrap64 ((c.length:Int) / 2))then(if(wrap64 ((c.length:Int) / 2))<(c.length:Int)then(if a.size+1≤9223372036854775807 then((spec_l11Asks.f 5 (rd c (wrap64 ((c.length:Int) / 2))) (a ++ (⟨#[104]⟩ :ByteArray)) (a ++ (⟨#[108]⟩ :ByteArray))).bind fun p=>((some (([(⟨p.1,(⟨p.2.1,p.2.2.1,p.2.2.2.1,p.2.2.2.2.1⟩ :S71),p.2.2.2.2.2.1,p.2.2.2.2.2.2⟩ :S86),(⟨a ++ (⟨#[108]⟩ :ByteArray),(⟨0,0,0,0⟩ :S71),(⟨#[]⟩ :ByteArray),(⟨#[]⟩ :ByteArray)⟩ :S86)] :List (S86)):List (S86))).bind fun O=>(if(wrap64 ((c.length:Int) / 2))≤(c.length:Int)then((spec_TreeLines.f k g i j d (c.take ((wrap64 ((c.length:Int) / 2)):Int).toNat) (a ++ (⟨#[108]⟩ :ByteArray))).bind fun x=>(if O.length+x.length<1759218604441 then((some (O ++ x:List (S86))).bind fun U=>(if U.length<1759218604441 then((some (U ++ [(⟨a ++ (⟨#[104]⟩ :ByteArray),(⟨0,0,0,0⟩ :S71),(⟨#[]⟩ :ByteArray),(⟨#[]⟩ :ByteArray)⟩ :S86)] :List (S86))).bind fun I=>((spec_TreeLines.f k g i j d (c.drop ((wrap64 ((c.length:Int) / 2)):Int).toNat) (a ++ (⟨#[104]⟩ :ByteArray))).bind fun z=>(if I.length+z.length<1759218604441 then(some (I ++ z))else(none))))else(none)))else(none)))else(none))))else(none))else(none))else(none)))
def spec_TreeLines.T6:Bool×List (List Nat×List Nat):=(true,[([],[]),([],[]),([],[]),([2],[2]),([3],[3]),([],[]),([5],[5]),([1,4,6],[1,4,6]),([0,7,7],[0,7]),([8,8,0,1,2,3,4,5,6,7,8],[0,8])])
def spec_TreeLines.B6:List Nat:=[0,0,0,4,12,0,32,126,255,511]
theorem spec_TreeLines.tab6:rtab .any (opsOf Tryz.f22 6)=spec_TreeLines.T6:=by kernel_rfl
theorem spec_TreeLines.bits6:waitsOk spec_TreeLines.T6.2 spec_TreeLines.B6=true:=by kernel_rfl
def spec_TreeLines.T11:Bool×List (List Nat×List Nat):=(true,[([],[]),([],[]),([],[]),([],[]),([2,3],[2,3]),([],[]),([5],[5]),([1,4,6],[1,4,6]),([0,7,7],[0,7]),([8,8,0,1,2,3,4,5,6,7,8],[0,8])])
def spec_TreeLines.B11:List Nat:=[0,0,0,0,12,0,32,126,255,511]
theorem spec_TreeLines.tab11:rtab .any (opsOf Tryz.f22 11)=spec_TreeLines.T11:=by kernel_rfl
theorem spec_TreeLines.bits11:waitsOk spec_TreeLines.T11.2 spec_TreeLines.B11=true:=by kernel_rfl
def spec_TreeLines.T13:Bool×List (List Nat×List Nat):=(true,[([],[]),([],[]),([],[]),([],[]),([2,3],[2,3]),([],[]),([5],[5]),([1,4,6],[1,4,6]),([0,7,7],[0,7]),([8,8,0,1,2,3,4,5,6,7,8],[8])])
def spec_TreeLines.B13:List Nat:=[0,0,0,0,12,0,32,126,255,511]
theorem spec_TreeLines.tab13:rtab .any (opsOf Tryz.f22 13)=spec_TreeLines.T13:=by kernel_rfl
theorem spec_TreeLines.bits13:waitsOk spec_TreeLines.T13.2 spec_TreeLines.B13=true:=by kernel_rfl
theorem q16x0 {P:Prop} (h:P:=by
 rintro w' ⟨s0,s1,s2,s3,s4⟩
 go_simp
 with_reducible rfl):P:=h
theorem q16x1 {P:Prop} (h:P:=by
 rintro w' ⟨s0,s1,s2,s3⟩
 go_simp
 with_reducible rfl):P:=h
set_option maxHeartbeats 8000000 in
set_option maxRecDepth 100000 in
theorem spec_TreeLines.calls (k:Nat): ∀ (g:Int) (i:Int) (j:Int) (q:Option Addr) (s:Nat) (d:List (S78)) (aE:Option Addr) (W:Nat) (c:List Int) (a:ByteArray) (r:List (S86)) (w:World) (aG:Kd.C k78 w q d.length d) (aH:d.length≤s) (aI:Kd.C (Kd.int .i64) w aE c.length c) (aJ:c.length≤W) (h:spec_TreeLines.f k g i j d c a=some r),
 Calls Tryz.prog 22 #[.agg #[.int .i64 g,.int .i64 i,.int .i64 j,.slice q d.length s],.slice aE c.length W,.string a] w fun e w'=> ∃ v0_:Value,e= .returned (v0_)∧Kd.R k86 86 w' w.heap.size (fun _=>True) v0_ r∧Below w.heap.size w w':=by
 induction k using Nat.strongRecOn with
 | _ k ih=>
 intro g i j q s d aE W c a r w aG aH aI aJ h
 cases k with
 | zero=>exact absurd h (by simp[spec_TreeLines.f])
 | succ k=>
 simp only[spec_TreeLines.f]at h;have hu26:=Tryz.underlying26;have hu86:=Tryz.underlying86;have HR0_3:=aM aG;have HC0_3:=aM aH;clear aG aH;have HR1:=aM aI;have HC1:=aM aJ;clear aI aJ;have HB:=aM (Below.refl w.heap.size w)
 have H:(if(c.length:Int)=0 then((spec_ChainLines.f k g i j d 0 true a).bind fun aq=>(some aq))else(if(c.length:Int)=1 then(if 0<(c.length:Int)then(if a.size+1≤9223372036854775807 then((spec_l11Asks.f 3 (rd c 0) (a ++ (⟨#[121]⟩ :ByteArray)) (a ++ (⟨#[120]⟩ :ByteArray))).bind fun o=>((some (([(⟨o.1,(⟨o.2.1,o.2.2.1,o.2.2.2.1,o.2.2.2.2.1⟩ :S71),o.2.2.2.2.2.1,o.2.2.2.2.2.2⟩ :S86),(⟨a ++ (⟨#[121]⟩ :ByteArray),(⟨0,0,0,0⟩ :S71),(⟨#[]⟩ :ByteArray),(⟨#[]⟩ :ByteArray)⟩ :S86)] :List (S86)):List (S86))).bind fun J=>((spec_ChainLines.f k g i j d (rd c 0) false (a ++ (⟨#[121]⟩ :ByteArray))).bind fun v=>(if J.length+v.length<1759218604441 then((some (J ++ v:List (S86))).bind fun L=>(if L.length<1759218604441 then((some (L ++ [(⟨a ++ (⟨#[120]⟩ :ByteArray),(⟨0,0,0,0⟩ :S71),(⟨#[]⟩ :ByteArray),(⟨#[]⟩ :ByteArray)⟩ :S86)] :List (S86))).bind fun G=>((spec_ChainLines.f k g i j d 0 true (a ++ (⟨#[120]⟩ :ByteArray))).bind fun y=>(if G.length+y.length<1759218604441 then(some (G ++ y))else(none))))else(none)))else(none)))))else(none))else(none))else(if 0≤(wrap64 ((c.length:Int) / 2))then(if(wrap64 ((c.length:Int) / 2))<(c.length:Int)then(if a.size+1≤9223372036854775807 then((spec_l11Asks.f 5 (rd c (wrap64 ((c.length:Int) / 2))) (a ++ (⟨#[104]⟩ :ByteArray)) (a ++ (⟨#[108]⟩ :ByteArray))).bind fun p=>((some (([(⟨p.1,(⟨p.2.1,p.2.2.1,p.2.2.2.1,p.2.2.2.2.1⟩ :S71),p.2.2.2.2.2.1,p.2.2.2.2.2.2⟩ :S86),(⟨a ++ (⟨#[108]⟩ :ByteArray),(⟨0,0,0,0⟩ :S71),(⟨#[]⟩ :ByteArray),(⟨#[]⟩ :ByteArray)⟩ :S86)] :List (S86)):List (S86))).bind fun O=>(if(wrap64 ((c.length:Int) / 2))≤(c.length:Int)then((spec_TreeLines.f k g i j d (c.take ((wrap64 ((c.length:Int) / 2)):Int).toNat) (a ++ (⟨#[108]⟩ :ByteArray))).bind fun x=>(if O.length+x.length<1759218604441 then((some (O ++ x:List (S86))).bind fun U=>(if U.length<1759218604441 then((some (U ++ [(⟨a ++ (⟨#[104]⟩ :ByteArray),(⟨0,0,0,0⟩ :S71),(⟨#[]⟩ :ByteArray),(⟨#[]⟩ :ByteArray)⟩ :S86)] :List (S86))).bind fun I=>((spec_TreeLines.f k g i j d (c.drop ((wrap64 ((c.length:Int) / 2)):Int).toNat) (a ++ (⟨#[104]⟩ :ByteArray))).bind fun z=>(if I.length+z.length<1759218604441 then(some (I ++ z))else(none))))else(none)))else(none)))else(none))))else(none))else(none))else(none))))=some r:=h
 clear h;by_cases X:(c.length:Int)=0
 ·rw[if_pos X]at H;obtain⟨bn,bo⟩:=eT X;clear X;replace H:=bE H;obtain⟨aq,bp,H⟩:=H;obtain rfl:=Option.some.inj H;go_enter Tryz.func22,Tryz.ntmps22
  go_wp2_with (first|((with_reducible refine gN 3 ?_);refine boxZ 3 #[.int .i64 g,.int .i64 i,.int .i64 j,.slice q d.length s] 26 ?_;intro t hg b9 hbox hb;have b:=aM (hbox);have GW857:=gS hg;have GE857:=gS hg;replace HB:=sB hb;clear hb hbox hg;obtain⟨ca,cb,cc,cd,ce,cf,cg,ch⟩:=cz4 b)|((with_reducible refine gF 20 ?_);refine goZ (some 17) Tryz.func20 #[.agg #[.int .i64 g,.int .i64 i,.int .i64 j,.slice q d.length s],.int .i64 0,.bool true,.string a] ?_;(with_reducible refine(spec_ChainLines.calls k g i j _ _ d 0 true a aq _ ?side1 ?side2 bp.out).mono ?_);(case side1=>exact cC (C_below HR0_3.out HB.out));(case side2=>exact HC0_3.out);rintro e ci ⟨cj,rfl,l,hb⟩;refine⟨_,rfl,?_⟩;have bq:=aM (R_lower l (below_size cB));replace b:=kB b hb;replace HB:=sB hb;(try clear hb);(try clear l)))
  go_ret;exact⟨_,rE,mR bq,cB⟩
 ·rw[if_neg X]at H;obtain⟨bn,bo⟩:=eF X
  have ck: ¬ (c= []):=fun h_=>X (by rw[h_];rfl)
  by_cases ar:(c.length:Int)=1
  ·rw[if_pos ar]at H;obtain⟨br,bs⟩:=eT ar;clear ar;replace H:=gC H;obtain⟨a2,H⟩:=H;have cl:=decide_eq_true a2
   have cm:decide (0<c.length)=true:=decide_eq_true (by omega)
   clear a2;replace H:=gC H;obtain⟨aK,H⟩:=H;have cn:=eq_true aK;have co:decide (a.size+1≤9223372036854775807)=true:=decide_eq_true aK
   try have cp:(9223372036854775807<a.size+1)=False:=eq_false (Nat.not_lt.2 aK)
   replace H:=bE H;obtain⟨⟨Y,aa,ab,ac,ad,ae,af⟩,bu,H⟩:=H;(try dsimp only at H);replace H:=nE H;obtain⟨J,a3,H⟩:=H;replace H:=bE H;obtain⟨v,bv,H⟩:=H;replace H:=gC H;obtain⟨a4,H⟩:=H;have bw:=aM a4;clear a4;replace H:=nE H;obtain⟨L,bx,H⟩:=H;replace H:=gC H;obtain⟨a5,H⟩:=H;have bz:=aM a5;clear a5;replace H:=nE H;obtain⟨G,bA,H⟩:=H;replace H:=bE H;obtain⟨y,bB,H⟩:=H;replace H:=gC H;obtain⟨a6,H⟩:=H;have bC:=aM a6;clear a6;obtain⟨cq,a7⟩ : ∃ y_:List (S86),Aside0 (y_=(G ++ y)):=⟨_,⟨rfl⟩⟩;rw[← a7.out]at H;obtain rfl:=Option.some.inj H;go_enter Tryz.func22,Tryz.ntmps22
   try go_wp2_with (first|((with_reducible refine gN 3 ?_);refine boxZ 3 #[.int .i64 g,.int .i64 i,.int .i64 j,.slice q d.length s] 26 ?_;intro t hg cr hbox hb;have b:=aM (hbox);have GW857:=gS hg;have GE857:=gS hg;replace HB:=sB hb;clear hb hbox hg;have aN:0≤(0:Int):=(by omega);have aQ:0<(c.length:Int):=dA;obtain⟨a8,bD,ay⟩:=at_int HR1.out 0 aN aQ;cases bD;have qi861:(0<c.length)=True:=eq_true (by omega);(try rw[show((0:Int)).toNat=0 from rfl]at ay);(try rw[Addr.add_zero']at ay);replace ay:=(bc HB ay :);replace aN:=eq_true aN;replace aQ:=eq_true aQ)|((with_reducible refine gF 62 ?_);refine goZ (some 27) Tryz.func62 #[.int .i64 3,.int .i64 (rd c 0),.string (a ++ (⟨#[121]⟩ :ByteArray)),.string (a ++ (⟨#[120]⟩ :ByteArray))] ?_;(with_reducible refine(spec_l11Asks.calls 3 (rd c 0) (a ++ (⟨#[121]⟩ :ByteArray)) (a ++ (⟨#[120]⟩ :ByteArray)) Y aa ab ac ad ae af _ bu.out).mono ?_);rintro e cs ⟨rfl,hb⟩;refine⟨_,rfl,?_⟩;replace b:=kB b hb;replace HB:=sB hb;(try clear hb))|((with_reducible refine gN 31 ?_);refine R_lit k86 _ 86 ?hg (N:=31) ?hd (xs:=([(⟨Y,(⟨aa,ab,ac,ad⟩ :S71),ae,af⟩ :S86),(⟨a ++ (⟨#[121]⟩ :ByteArray),(⟨0,0,0,0⟩ :S71),(⟨#[]⟩ :ByteArray),(⟨#[]⟩ :ByteArray)⟩ :S86)] :List (S86))) (inner:=[.string Y,.int .i64 aa,.int .i64 ab,.int .i64 ac,.int .i64 ad,.string ae,.string af,.string (a ++ (⟨#[121]⟩ :ByteArray)),.int .i64 0,.int .i64 0,.int .i64 0,.int .i64 0,.string (⟨#[]⟩ :ByteArray),.string (⟨#[]⟩ :ByteArray)]) (ok:=fun _=>True) (okp:=fun _=>True) ?hr ?hp (fun _ hk=>hk) trivial (Below.refl _ _) (Nat.le_refl _) (by simp) ?_;(case hd=>rfl);(case hg=>rfl);(case hr=>exact rG);(case hp=>exact(Reps.c7 (show Kd.M k86 _ _ _ (⟨Y,(⟨aa,ab,ac,ad⟩ :S71),ae,af⟩ :S86) [.string Y,.int .i64 aa,.int .i64 ab,.int .i64 ac,.int .i64 ad,.string ae,.string af]from (k86_mkM _ _ _ (⟨Y,(⟨aa,ab,ac,ad⟩ :S71),ae,af⟩ :S86))) (Reps.c7 (show Kd.M k86 _ _ _ (⟨a ++ (⟨#[121]⟩ :ByteArray),(⟨0,0,0,0⟩ :S71),(⟨#[]⟩ :ByteArray),(⟨#[]⟩ :ByteArray)⟩ :S86) [.string (a ++ (⟨#[121]⟩ :ByteArray)),.int .i64 0,.int .i64 0,.int .i64 0,.int .i64 0,.string (⟨#[]⟩ :ByteArray),.string (⟨#[]⟩ :ByteArray)]from (k86_mkM _ _ _ (⟨a ++ (⟨#[121]⟩ :ByteArray),(⟨0,0,0,0⟩ :S71),(⟨#[]⟩ :ByteArray),(⟨#[]⟩ :ByteArray)⟩ :S86))) (Reps.none _ _))));intro bF bG au hb hg_ hnew_;clear hg_ hnew_;(first|rw[← a3.out]at au|(simp only[Int.reduceToNat]at au;rw[← a3.out]at au));have A:=aM (R_lower au (below_size cB));replace b:=kB b hb;replace HB:=sB hb;clear hb au))
   replace A:=aM (R_drew A.out);replace b:=aM (blk_drew b.out);replace HB:=aM (below_drew1 HB.out)
   have aT:0≤(0:Int):=(by omega)
   have aU:0<(c.length:Int):=dA;obtain⟨bH,bI,ag⟩:=at_int HR1.out 0 aT aU;have ap:=ag;(try rw[show((0:Int)).toNat=0 from rfl]at ap);(try rw[show 0*1=0 from rfl]at ap);(try rw[Addr.add_zero']at ap)
   obtain rfl:a8=bH:=(by injection bI)
   have qi872:(0<c.length)=True:=eq_true (by omega)
   (try rw[show((0:Int)).toNat=0 from rfl]at ag);(try rw[Addr.add_zero']at ag);replace ag:=(bc HB ag :);replace aT:=eq_true aT;replace aU:=eq_true aU
   refine start_ (n:=10) (S:=fun w'=>w'.cell? ⟨t,0,none⟩=some (.int .i64 g)∧w'.cell? ⟨t,1,none⟩=some (.int .i64 i)∧w'.cell? ⟨t,2,none⟩=some (.int .i64 j)∧w'.cell? ⟨t,3,none⟩=some (.slice q d.length s)∧w'.cell? a8=some (.int .i64 (rd c 0))) (ds:=[]) #[false,false,false,false,false,false,false,false,false,false] (by kernel_rfl) rfl rfl ⟨(blk_cell b.out 0).trans rfl,(blk_cell b.out 1).trans rfl,(blk_cell b.out 2).trans rfl,(blk_cell b.out 3).trans rfl,((bc HB ap :))⟩ (fun hHeld=>?_);refine with_tabW spec_TreeLines.tab6 spec_TreeLines.bits6 (fun HT_ HW_=>?_)
   generalize bG.drew=ct at A b HB ag hHeld ⊢;refine pureZ 0 (some 32) (msk 10 1) HT_.out ?_;refine pureZ 2 (some 34) (msk 10 5) HT_.out ?_;refine pureZ 3 (some 35) (msk 10 13) HT_.out ?_;refine pureZ 5 (some 37) (msk 10 45) HT_.out ?_;refine pureZ 6 (some 38) (msk 10 109) HT_.out ?_;refine takeZ 1 (some 33) (msk 10 111) HT_.out HW_.out hHeld (hy:=q16x0) (h:=?_);refine takeZ 4 (some 36) (msk 10 127) HT_.out HW_.out hHeld (hy:=q16x0) (h:=?_)
   refine one_Z 7 (some 39) (msk 10 255) HT_.out fun K hK=>?_
   refine goE Tryz.func20 #[.agg #[.int .i64 g,.int .i64 i,.int .i64 j,.slice q d.length s],.int .i64 (rd c 0),.bool false,.string (a ++ (⟨#[121]⟩ :ByteArray))] ?_
   with_reducible refine(spec_ChainLines.calls k g i j _ _ d (rd c 0) false (a ++ (⟨#[121]⟩ :ByteArray)) v _ ?side1 ?side2 bv.out).mono ?_
   (case side1=>exact cC (C_below HR0_3.out HB.out))
   (case side2=>exact HC0_3.out)
   rintro e cu ⟨cv,rfl,l,hb⟩;refine⟨_,rfl,?_⟩;have u:=aM (R_lower (R_new' l (R_lt (mR A))) (below_size cB));replace A:=eB A (R_base l) hb;replace b:=kB b hb;replace HB:=sB hb;(try clear hb);(try clear l);obtain⟨az,aA,a9⟩:=R_slice u.out
   (first|subst a9|(injection a9 with f1_ f2_ f3_;have f4_:=f1_.symm;have f5_:=f3_.symm;clear f1_ f2_ f3_;subst f4_;subst f5_))
   refine hK.out _ _ qh16x0 (fun hHeld=>?_)
   clear hK K;refine normZ (some 39) ?_
   refine one_Z 8 (some 40) (msk 10 511) HT_.out fun K hK=>?_
   refine R_append_rows_step k86 (w0:=w) w.heap.size (by rfl) (.tmp 32) (.tmp 39) 47 86 (.agg #[(.string ⟨#[]⟩),(.int .i64 0),(.int .i64 0),(.int .i64 0),(.int .i64 0),(.string ⟨#[]⟩),(.string ⟨#[]⟩)]) 80 rfl Tryz.underlying47 info86 rfl (by decide) (by omega) bF J v _ _ _ (fun k_=>some k_≠(.slice az v.length aA:Value).ownBlock) (fun _=>False) rfl rfl ?aO ?aR (fun _ _ h=>h) (fun _ h=>h.elim) ?aF ?aB ?aS ?aL ?_
   (case aR=>exact cC ((R_reads' u.out).2.2))
   (case aB=>exact cB)
   (case aF=>exact(fun k_ hk=>Kd.fresh' (R_lt (mR u)) k_ hk))
   (case aO=>exact(by(with_reducible repeat(first|apply R_alloc|apply R_drewN|apply R_drew));exact R_mono A.out (fun _ hk=>hk.2)))
   (case aS=>exact(below_size cB))
   (case aL=>have:=bw.out;omega)
   intro bJ cw ho hb hg hat;rw[← bx.out]at ho
   replace b:=aM (blk_grown (mK b) hg (R_ne A.out b.out (by decide)))
   replace u:=aM (R_after (ok:=(fun _=>True)) (mR u) hg hat)
   replace HB:=aM (hb);have aV:=aM (ho);clear A ho hb hg hat
   refine hK.out _ _ qh16x0 (fun hHeld=>?_)
   clear hK K;refine normZ (some 40) ?_
   refine pureZ 9 (some 8) (msk 10 1023) HT_.out ?_
   refine done_ (done_of HT_.out (by kernel_rfl)) ?_
   try go_wp2_with (first|((with_reducible refine gA 41 45 ?_);at_builtin;refine R_append k86 (w0:=w) w.heap.size rfl (.tmp 41) (.tmp 45) 47 86 (.agg #[(.string ⟨#[]⟩),(.int .i64 0),(.int .i64 0),(.int .i64 0),(.int .i64 0),(.string ⟨#[]⟩),(.string ⟨#[]⟩)]) 80 rfl Tryz.underlying47 info86 rfl (by decide) (by omega) bJ L (⟨a ++ (⟨#[120]⟩ :ByteArray),(⟨0,0,0,0⟩ :S71),(⟨#[]⟩ :ByteArray),(⟨#[]⟩ :ByteArray)⟩ :S86) [.string (a ++ (⟨#[120]⟩ :ByteArray)),.int .i64 0,.int .i64 0,.int .i64 0,.int .i64 0,.string (⟨#[]⟩ :ByteArray),.string (⟨#[]⟩ :ByteArray)] (fun k_=>some k_≠(.slice az v.length aA:Value).ownBlock) (fun _=>False) rfl rfl ?aP (fun _ hk=>hk.elim) ?aF ?aO ?aB ?aS ?aL ?_;(case aP=>exact k86_mkM _ _ _ (⟨a ++ (⟨#[120]⟩ :ByteArray),(⟨0,0,0,0⟩ :S71),(⟨#[]⟩ :ByteArray),(⟨#[]⟩ :ByteArray)⟩ :S86));(case aB=>exact cB);(case aF=>exact(fun k_ hk=>Kd.fresh' (R_lt (mR u)) k_ hk));(case aO=>exact(mR aV));(case aS=>exact(below_size cB));(case aL=>have:=bz.out;omega);intro bL cx ho hb hg hat;rw[← bA.out]at ho;replace b:=aM (blk_grown (mK b) hg (R_ne aV.out b.out (by decide)));replace u:=aM (R_after (ok:=(fun _=>True)) (mR u) hg hat);replace HB:=aM (hb);have ah:=aM (ho);clear aV ho hb hg hat;obtain⟨cy,cz,cA,cD,cE,cF,cG,cH⟩:=cz4 b)|((with_reducible refine gF 20 ?_);refine goZ (some 51) Tryz.func20 #[.agg #[.int .i64 g,.int .i64 i,.int .i64 j,.slice q d.length s],.int .i64 0,.bool true,.string (a ++ (⟨#[120]⟩ :ByteArray))] ?_;(with_reducible refine(spec_ChainLines.calls k g i j _ _ d 0 true (a ++ (⟨#[120]⟩ :ByteArray)) y _ ?side1 ?side2 bB.out).mono ?_);(case side1=>exact cC (C_below HR0_3.out HB.out));(case side2=>exact HC0_3.out);rintro e cI ⟨cJ,rfl,l,hb⟩;refine⟨_,rfl,?_⟩;have av:=aM (R_lower (R_new' (R_new' l (R_lt (mR u))) (R_lt (mR ah))) (below_size cB));replace u:=eB u (R_base l) hb;replace ah:=eB ah (R_base l) hb;replace b:=kB b hb;replace HB:=sB hb;(try clear hb);(try clear l);obtain⟨ba,bb,bM⟩:=R_slice av.out;subst bM)|((with_reducible refine gA 47 51 ?_);at_builtin;refine R_append_rows k86 (w0:=w) w.heap.size rfl (.tmp 47) (.tmp 51) 47 86 (.agg #[(.string ⟨#[]⟩),(.int .i64 0),(.int .i64 0),(.int .i64 0),(.int .i64 0),(.string ⟨#[]⟩),(.string ⟨#[]⟩)]) 80 rfl Tryz.underlying47 info86 rfl (by decide) (by omega) bL G y _ _ _ (fun k_=>some k_≠(.slice az v.length aA:Value).ownBlock∧some k_≠(.slice ba y.length bb:Value).ownBlock) (fun _=>False) rfl rfl ?aO ?aR (fun _ _ h=>h) (fun _ h=>h.elim) ?aF ?aB ?aS ?aL ?_;(case aR=>exact cC ((R_reads' av.out).2.2));(case aB=>exact cB);(case aF=>exact(fun k_ hk=>⟨Kd.fresh' (R_lt (mR u)) k_ hk,Kd.fresh' (R_lt (mR av)) k_ hk⟩));(case aO=>exact(mR ah));(case aS=>exact(below_size cB));(case aL=>have:=bC.out;omega);intro cL cM ho hb hg hat;rw[← a7.out]at ho;replace b:=aM (blk_grown (mK b) hg (R_ne ah.out b.out (by decide)));replace u:=aM (R_after (ok:=(fun k_=>some k_≠(.slice ba y.length bb:Value).ownBlock)) (by(with_reducible repeat(first|apply R_alloc|apply R_drewN|apply R_drew));exact R_mono u.out (fun _ hk=>⟨hk.2,hk.1.2⟩)) hg hat);replace av:=aM (R_after (ok:=(fun k_=>some k_≠(.slice az v.length aA:Value).ownBlock)) (by(with_reducible repeat(first|apply R_alloc|apply R_drewN|apply R_drew));exact R_mono av.out (fun _ hk=>⟨hk.1.2,hk.2⟩)) hg hat);replace HB:=aM (hb);have bN:=aM (ho);clear ah ho hb hg hat))
   go_ret
   exact⟨_,rE,by(with_reducible repeat(first|apply R_alloc|apply R_drewN|apply R_drew));exact R_mono bN.out (fun _ hk=>trivial),cB⟩
  ·rw[if_neg ar]at H;obtain⟨br,bs⟩:=eF ar;obtain⟨ji31,hji31⟩ : ∃ j_:Int,(wrap64 ((c.length:Int) / 2))=j_:=⟨_,rfl⟩
   (first|rw[hji31]at H|simp only[hji31]at H)
   have hji31w:(IntKind.i64.wrap ((c.length:Int) / 2))=ji31:=(i64_w _).trans hji31;replace H:=gD H;obtain⟨cN,H⟩:=H;replace H:=gD H;obtain⟨cO,H⟩:=H;replace H:=gC H;obtain⟨aW,H⟩:=H;have cP:=eq_true aW;have cQ:decide (a.size+1≤9223372036854775807)=true:=decide_eq_true aW
   try have cR:(9223372036854775807<a.size+1)=False:=eq_false (Nat.not_lt.2 aW)
   replace H:=bE H;obtain⟨⟨ai,aj,ak,al,am,an,ao⟩,bO,H⟩:=H;(try dsimp only at H);replace H:=nE H;obtain⟨O,bd,H⟩:=H;have cS:=eq_true (dA:0≤(ji31));replace H:=gC H;obtain⟨aX,H⟩:=H;have cT:=eq_true aX;have cU:decide ((ji31)≤(c.length:Int))=true:=decide_eq_true aX;clear aX;replace H:=bE H;obtain⟨x,bP,H⟩:=H;replace H:=gC H;obtain⟨be,H⟩:=H;have bQ:=aM be;clear be;replace H:=nE H;obtain⟨U,bR,H⟩:=H;replace H:=gC H;obtain⟨bf,H⟩:=H;have bS:=aM bf;clear bf;replace H:=nE H;obtain⟨I,bT,H⟩:=H;have cV:=eq_true (dA:0≤(ji31));have cW:=eq_true (dA:(ji31)≤(c.length:Int));replace H:=bE H;obtain⟨z,bU,H⟩:=H;replace H:=gC H;obtain⟨bg,H⟩:=H;have bV:=aM bg;clear bg;obtain⟨cX,bh⟩ : ∃ y_:List (S86),Aside0 (y_=(I ++ z)):=⟨_,⟨rfl⟩⟩;rw[← bh.out]at H;obtain rfl:=Option.some.inj H;go_enter Tryz.func22,Tryz.ntmps22
   try go_wp2_with (first|((with_reducible refine gN 3 ?_);refine boxZ 3 #[.int .i64 g,.int .i64 i,.int .i64 j,.slice q d.length s] 26 ?_;intro t hg cY hbox hb;have b:=aM (hbox);have GW857:=gS hg;have GE857:=gS hg;replace HB:=sB hb;clear hb hbox hg;have aY:0≤((ji31):Int):=dA;have aZ:(ji31)<(c.length:Int):=dA;obtain⟨a0,bW,bi⟩:=at_int HR1.out (ji31) aY aZ;cases bW;replace bi:=(bc HB bi :);replace aY:=eq_true aY;replace aZ:=eq_true aZ)|((with_reducible refine gF 62 ?_);refine goesL_ (some 63) rfl rfl Tryz.func62 (by kernel_rfl) rfl #[.int .i64 5,.int .i64 (rd c (ji31)),.string (a ++ (⟨#[104]⟩ :ByteArray)),.string (a ++ (⟨#[108]⟩ :ByteArray))] rfl (by(try simp only[List.map_toArray,List.map_cons,List.map_nil]);first|done|(simp only[hji31];rfl)|rfl|(simp only[List.length_drop,List.length_take];rfl)) ?_;(with_reducible refine(spec_l11Asks.calls 5 (rd c (ji31)) (a ++ (⟨#[104]⟩ :ByteArray)) (a ++ (⟨#[108]⟩ :ByteArray)) ai aj ak al am an ao _ bO.out).mono ?_);rintro e cZ ⟨rfl,hb⟩;refine⟨_,rfl,?_⟩;replace b:=kB b hb;replace HB:=sB hb;(try clear hb))|((with_reducible refine gN 67 ?_);refine R_lit k86 _ 86 ?hg (N:=67) ?hd (xs:=([(⟨ai,(⟨aj,ak,al,am⟩ :S71),an,ao⟩ :S86),(⟨a ++ (⟨#[108]⟩ :ByteArray),(⟨0,0,0,0⟩ :S71),(⟨#[]⟩ :ByteArray),(⟨#[]⟩ :ByteArray)⟩ :S86)] :List (S86))) (inner:=[.string ai,.int .i64 aj,.int .i64 ak,.int .i64 al,.int .i64 am,.string an,.string ao,.string (a ++ (⟨#[108]⟩ :ByteArray)),.int .i64 0,.int .i64 0,.int .i64 0,.int .i64 0,.string (⟨#[]⟩ :ByteArray),.string (⟨#[]⟩ :ByteArray)]) (ok:=fun _=>True) (okp:=fun _=>True) ?hr ?hp (fun _ hk=>hk) trivial (Below.refl _ _) (Nat.le_refl _) (by simp) ?_;(case hd=>rfl);(case hg=>rfl);(case hr=>exact rG);(case hp=>exact(Reps.c7 (show Kd.M k86 _ _ _ (⟨ai,(⟨aj,ak,al,am⟩ :S71),an,ao⟩ :S86) [.string ai,.int .i64 aj,.int .i64 ak,.int .i64 al,.int .i64 am,.string an,.string ao]from (k86_mkM _ _ _ (⟨ai,(⟨aj,ak,al,am⟩ :S71),an,ao⟩ :S86))) (Reps.c7 (show Kd.M k86 _ _ _ (⟨a ++ (⟨#[108]⟩ :ByteArray),(⟨0,0,0,0⟩ :S71),(⟨#[]⟩ :ByteArray),(⟨#[]⟩ :ByteArray)⟩ :S86) [.string (a ++ (⟨#[108]⟩ :ByteArray)),.int .i64 0,.int .i64 0,.int .i64 0,.int .i64 0,.string (⟨#[]⟩ :ByteArray),.string (⟨#[]⟩ :ByteArray)]from (k86_mkM _ _ _ (⟨a ++ (⟨#[108]⟩ :ByteArray),(⟨0,0,0,0⟩ :S71),(⟨#[]⟩ :ByteArray),(⟨#[]⟩ :ByteArray)⟩ :S86))) (Reps.none _ _))));intro bX bY aw hb hg_ hnew_;clear hg_ hnew_;(first|rw[← bd.out]at aw|(simp only[Int.reduceToNat]at aw;rw[← bd.out]at aw));have D:=aM (R_lower aw (below_size cB));replace b:=kB b hb;replace HB:=sB hb;clear hb aw))
   replace D:=aM (R_drew D.out);replace b:=aM (blk_drew b.out);replace HB:=aM (below_drew1 HB.out);obtain⟨i050,hi050,_,hsz50,_⟩:=info_parts info3;obtain⟨hcut50,hA50,hC50⟩:=print_take_of (P:=Tryz.prog) (Value.int .i64) 0 42 3 .i64 Tryz.underlying42 hi050 hsz50 (some a0) W c (ji31) (dA) (dA) HC1.out
   have HR899:=aM (C_of_reads (h1:=fun _=>rfl) (hA50 _ (reads_of_C HR1.out)))
   have HC899:=aM hC50;clear hA50 hC50 hi050 hsz50
   refine start_ (n:=10) (S:=fun w'=>w'.cell? ⟨t,0,none⟩=some (.int .i64 g)∧w'.cell? ⟨t,1,none⟩=some (.int .i64 i)∧w'.cell? ⟨t,2,none⟩=some (.int .i64 j)∧w'.cell? ⟨t,3,none⟩=some (.slice q d.length s)) (ds:=[]) #[false,false,false,false,false,false,false,false,false,false] (by kernel_rfl) rfl rfl ⟨(blk_cell b.out 0).trans rfl,(blk_cell b.out 1).trans rfl,(blk_cell b.out 2).trans rfl,(blk_cell b.out 3).trans rfl⟩ (fun hHeld=>?_);refine with_tabW spec_TreeLines.tab11 spec_TreeLines.bits11 (fun HT_ HW_=>?_)
   generalize bY.drew=c0 at D b HB HR899 hHeld ⊢;refine pureZ 0 (some 68) (msk 10 1) HT_.out ?_;refine pureZ 2 (some 70) (msk 10 5) HT_.out ?_;refine pureZ 3 (some 71) (msk 10 13) HT_.out ?_;refine pureZ 4 (some 72) (msk 10 29) HT_.out ?_;refine pureZ 5 (some 73) (msk 10 61) HT_.out ?_;refine pureZ 6 (some 74) (msk 10 125) HT_.out ?_;refine takeZ 1 (some 69) (msk 10 127) HT_.out HW_.out hHeld (hy:=q16x1) (h:=?_)
   refine one_Z 7 (some 75) (msk 10 255) HT_.out fun K hK=>?_
   refine goes_ Tryz.func22 (by kernel_rfl) rfl #[.agg #[.int .i64 g,.int .i64 i,.int .i64 j,.slice q d.length s],.slice (some a0) (c.take ((ji31):Int).toNat).length W,.string (a ++ (⟨#[108]⟩ :ByteArray))] (by rfl) rfl rfl (by(try simp only[List.map_toArray,List.map_cons,List.map_nil]);first|done|(rw[show(c.take ((ji31):Int).toNat).length=(ji31).toNat from (by rw[List.length_take];have h_:((ji31):Int)≤(c.length:Int):=dA;omega)] <;> rfl)|(simp only[hji31];rfl)|rfl|(simp only[List.length_drop,List.length_take];rfl)) ?_
   with_reducible refine(ih k (by omega) g i j _ _ d _ _ (c.take ((ji31):Int).toNat) (a ++ (⟨#[108]⟩ :ByteArray)) x _ ?side1 ?side2 ?side3 ?side4 bP.out).mono ?_
   (case side1=>exact cC (C_below HR0_3.out HB.out))
   (case side2=>exact HC0_3.out)
   (case side3=>exact cC (C_below HR899.out HB.out))
   (case side4=>exact HC899.out)
   rintro e c1 ⟨c4,rfl,l,hb⟩;refine⟨_,rfl,?_⟩;have m:=aM (R_lower (R_new' l (R_lt (mR D))) (below_size cB));replace D:=eB D (R_base l) hb;replace b:=kB b hb;replace HB:=sB hb;(try clear hb);(try clear l);obtain⟨aC,aD,bj⟩:=R_slice m.out
   (first|subst bj|(injection bj with f1_ f2_ f3_;have f4_:=f1_.symm;have f5_:=f3_.symm;clear f1_ f2_ f3_;subst f4_;subst f5_))
   refine hK.out _ _ qh16x1 (fun hHeld=>?_)
   clear hK K;refine normZ (some 75) ?_
   refine one_Z 8 (some 76) (msk 10 511) HT_.out fun K hK=>?_
   refine R_append_rows_step k86 (w0:=w) w.heap.size (by rfl) (.tmp 68) (.tmp 75) 47 86 (.agg #[(.string ⟨#[]⟩),(.int .i64 0),(.int .i64 0),(.int .i64 0),(.int .i64 0),(.string ⟨#[]⟩),(.string ⟨#[]⟩)]) 80 rfl Tryz.underlying47 info86 rfl (by decide) (by omega) bX O x _ _ _ (fun k_=>some k_≠(.slice aC x.length aD:Value).ownBlock) (fun _=>False) rfl rfl ?aO ?aR (fun _ _ h=>h) (fun _ h=>h.elim) ?aF ?aB ?aS ?aL ?_
   (case aR=>exact cC ((R_reads' m.out).2.2))
   (case aB=>exact cB)
   (case aF=>exact(fun k_ hk=>Kd.fresh' (R_lt (mR m)) k_ hk))
   (case aO=>exact(by(with_reducible repeat(first|apply R_alloc|apply R_drewN|apply R_drew));exact R_mono D.out (fun _ hk=>hk.2)))
   (case aS=>exact(below_size cB))
   (case aL=>have:=bQ.out;omega)
   intro bZ c9 ho hb hg hat;rw[← bR.out]at ho
   replace b:=aM (blk_grown (mK b) hg (R_ne D.out b.out (by decide)))
   replace m:=aM (R_after (ok:=(fun _=>True)) (mR m) hg hat)
   replace HB:=aM (hb);have a1:=aM (ho);clear D ho hb hg hat
   refine hK.out _ _ qh16x1 (fun hHeld=>?_)
   clear hK K;refine normZ (some 76) ?_
   refine pureZ 9 (some 10) (msk 10 1023) HT_.out ?_
   refine done_ (done_of HT_.out (by kernel_rfl)) ?_
   try go_wp2_with (first|((with_reducible refine gA 77 81 ?_);at_builtin;refine R_append k86 (w0:=w) w.heap.size rfl (.tmp 77) (.tmp 81) 47 86 (.agg #[(.string ⟨#[]⟩),(.int .i64 0),(.int .i64 0),(.int .i64 0),(.int .i64 0),(.string ⟨#[]⟩),(.string ⟨#[]⟩)]) 80 rfl Tryz.underlying47 info86 rfl (by decide) (by omega) bZ U (⟨a ++ (⟨#[104]⟩ :ByteArray),(⟨0,0,0,0⟩ :S71),(⟨#[]⟩ :ByteArray),(⟨#[]⟩ :ByteArray)⟩ :S86) [.string (a ++ (⟨#[104]⟩ :ByteArray)),.int .i64 0,.int .i64 0,.int .i64 0,.int .i64 0,.string (⟨#[]⟩ :ByteArray),.string (⟨#[]⟩ :ByteArray)] (fun k_=>some k_≠(.slice aC x.length aD:Value).ownBlock) (fun _=>False) rfl rfl ?aP (fun _ hk=>hk.elim) ?aF ?aO ?aB ?aS ?aL ?_;(case aP=>exact k86_mkM _ _ _ (⟨a ++ (⟨#[104]⟩ :ByteArray),(⟨0,0,0,0⟩ :S71),(⟨#[]⟩ :ByteArray),(⟨#[]⟩ :ByteArray)⟩ :S86));(case aB=>exact cB);(case aF=>exact(fun k_ hk=>Kd.fresh' (R_lt (mR m)) k_ hk));(case aO=>exact(mR a1));(case aS=>exact(below_size cB));(case aL=>have:=bS.out;omega);intro b0 b1 ho hb hg hat;rw[← bT.out]at ho;replace b:=aM (blk_grown (mK b) hg (R_ne a1.out b.out (by decide)));replace m:=aM (R_after (ok:=(fun _=>True)) (mR m) hg hat);replace HB:=aM (hb);have E:=aM (ho);clear a1 ho hb hg hat))
   replace m:=aM (R_drew m.out);replace E:=aM (R_drew E.out);replace b:=aM (blk_drew b.out);replace HB:=aM (below_drew1 HB.out);obtain⟨i056,hi056,_,hsz56,_⟩:=info_parts info3;obtain⟨b5,hcut56,hA56,hC56⟩:=print_drop_of (P:=Tryz.prog) (Value.int .i64) 0 42 3 .i64 Tryz.underlying42 hi056 hsz56 (some a0) W c (ji31) (dA) (dA) HC1.out
   have HR909:=aM (C_of_reads (h1:=fun _=>rfl) (hA56 _ (reads_of_C HR1.out)))
   have HC909:=aM hC56;clear hA56 hC56 hi056 hsz56
   refine start_ (n:=10) (S:=fun w'=>w'.cell? ⟨t,0,none⟩=some (.int .i64 g)∧w'.cell? ⟨t,1,none⟩=some (.int .i64 i)∧w'.cell? ⟨t,2,none⟩=some (.int .i64 j)∧w'.cell? ⟨t,3,none⟩=some (.slice q d.length s)) (ds:=[]) #[false,false,false,false,false,false,false,false,false,false] (by kernel_rfl) rfl rfl ⟨(blk_cell b.out 0).trans rfl,(blk_cell b.out 1).trans rfl,(blk_cell b.out 2).trans rfl,(blk_cell b.out 3).trans rfl⟩ (fun hHeld=>?_);refine with_tabW spec_TreeLines.tab13 spec_TreeLines.bits13 (fun HT_ HW_=>?_)
   generalize b1.drew=da at m E b HB HR909 hHeld ⊢;refine pureZ 0 (some 83) (msk 10 1) HT_.out ?_;refine pureZ 2 (some 85) (msk 10 5) HT_.out ?_;refine pureZ 3 (some 86) (msk 10 13) HT_.out ?_;refine pureZ 4 (some 87) (msk 10 29) HT_.out ?_;refine pureZ 5 (some 88) (msk 10 61) HT_.out ?_;refine pureZ 6 (some 89) (msk 10 125) HT_.out ?_;refine takeZ 1 (some 84) (msk 10 127) HT_.out HW_.out hHeld (hy:=q16x1) (h:=?_)
   refine one_Z 7 (some 90) (msk 10 255) HT_.out fun K hK=>?_
   refine goes_ Tryz.func22 (by kernel_rfl) rfl #[.agg #[.int .i64 g,.int .i64 i,.int .i64 j,.slice q d.length s],.slice b5 (c.drop ((ji31):Int).toNat).length (W - (ji31).toNat),.string (a ++ (⟨#[104]⟩ :ByteArray))] (by rfl) rfl rfl (by(try simp only[List.map_toArray,List.map_cons,List.map_nil]);first|done|(rw[show(c.drop ((ji31):Int).toNat).length=(c.length - (ji31).toNat)from List.length_drop] <;> rfl)|(simp only[hji31];rfl)|rfl|(simp only[List.length_drop,List.length_take];rfl)) ?_
   with_reducible refine(ih k (by omega) g i j _ _ d _ _ (c.drop ((ji31):Int).toNat) (a ++ (⟨#[104]⟩ :ByteArray)) z _ ?side1 ?side2 ?side3 ?side4 bU.out).mono ?_
   (case side1=>exact cC (C_below HR0_3.out HB.out))
   (case side2=>exact HC0_3.out)
   (case side3=>exact cC (C_below HR909.out HB.out))
   (case side4=>exact HC909.out)
   rintro e db ⟨dc,rfl,l,hb⟩;refine⟨_,rfl,?_⟩;have ax:=aM (R_lower (R_new' (R_new' l (R_lt (mR m))) (R_lt (mR E))) (below_size cB));replace m:=eB m (R_base l) hb;replace E:=eB E (R_base l) hb;replace b:=kB b hb;replace HB:=sB hb;(try clear hb);(try clear l);obtain⟨bk,bl,bm⟩:=R_slice ax.out
   (first|subst bm|(injection bm with f1_ f2_ f3_;have f4_:=f1_.symm;have f5_:=f3_.symm;clear f1_ f2_ f3_;subst f4_;subst f5_))
   refine hK.out _ _ qh16x1 (fun hHeld=>?_)
   clear hK K;refine normZ (some 90) ?_
   refine one_Z 8 (some 91) (msk 10 511) HT_.out fun K hK=>?_
   refine R_append_rows_step k86 (w0:=w) w.heap.size (by rfl) (.tmp 83) (.tmp 90) 47 86 (.agg #[(.string ⟨#[]⟩),(.int .i64 0),(.int .i64 0),(.int .i64 0),(.int .i64 0),(.string ⟨#[]⟩),(.string ⟨#[]⟩)]) 80 rfl Tryz.underlying47 info86 rfl (by decide) (by omega) b0 I z _ _ _ (fun k_=>some k_≠(.slice aC x.length aD:Value).ownBlock∧some k_≠(.slice bk z.length bl:Value).ownBlock) (fun _=>False) rfl rfl ?aO ?aR (fun _ _ h=>h) (fun _ h=>h.elim) ?aF ?aB ?aS ?aL ?_
   (case aR=>exact cC ((R_reads' ax.out).2.2))
   (case aB=>exact cB)
   (case aF=>exact(fun k_ hk=>⟨Kd.fresh' (R_lt (mR m)) k_ hk,Kd.fresh' (R_lt (mR ax)) k_ hk⟩))
   (case aO=>exact(mR E))
   (case aS=>exact(below_size cB))
   (case aL=>have:=bV.out;omega)
   intro dd de ho hb hg hat;rw[← bh.out]at ho
   replace b:=aM (blk_grown (mK b) hg (R_ne E.out b.out (by decide)))
   replace m:=aM (R_after (ok:=(fun k_=>some k_≠(.slice bk z.length bl:Value).ownBlock)) (by(with_reducible repeat(first|apply R_alloc|apply R_drewN|apply R_drew));exact R_mono m.out (fun _ hk=>⟨hk.2,hk.1.2⟩)) hg hat)
   replace ax:=aM (R_after (ok:=(fun k_=>some k_≠(.slice aC x.length aD:Value).ownBlock)) (by(with_reducible repeat(first|apply R_alloc|apply R_drewN|apply R_drew));exact R_mono ax.out (fun _ hk=>⟨hk.1.2,hk.2⟩)) hg hat)
   replace HB:=aM (hb);have b8:=aM (ho);clear E ho hb hg hat
   refine hK.out _ _ qh16x1 (fun hHeld=>?_)
   clear hK K;refine normZ (some 91) ?_
   refine pureZ 9 (some 6) (msk 10 1023) HT_.out ?_
   refine done_ (done_of HT_.out (by kernel_rfl)) ?_
   try go_wp2
   go_ret
   exact⟨_,by first|rfl|(simp[errW_none,errW_some] <;> rfl)|(simp only[← hji31];first|rfl|(simp[errW_none,errW_some] <;> rfl))|(simp[*,errW_none,errW_some] <;> rfl),by(with_reducible repeat(first|apply R_alloc|apply R_drewN|apply R_drew));exact R_mono b8.out (fun _ hk=>trivial),cB⟩
end Go.Proofs.YtpbalojiaghfhaaGreat.PFnExactCompile
