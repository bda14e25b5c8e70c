/-
  Part 3 of the walks: the judgement, its rules, the functions one by one.
-/
import Derived.Test.YtlpdccnjhpclbaaGreatDoorZB
namespace Go.Proofs.YtlpdccnjhpclbaaGreatDoor
section
open Go.Conc
theorem tL {l:List Row} {key:Str} : -999 ≤ (rowsGet l key).1∧(rowsGet l key).1 ≤ 999:=by
  unfold rowsGet
  split
  · rename_i h1 h2
    rw [Bool.and_eq_true] at h1
    exact wE h1.1 h2
  · exact ⟨by decide,by decide⟩
def askTold (rows:List Row) (a:Ask):List Row × Int :=
  if a.kind = 2 then (mT rows a.key a.hi,0) else if a.kind = 3 then ([⟨a.key,kR (mT rows a.key a.hi)⟩],0)
  else if (rowsGet rows a.key).2 then ([⟨a.key,(rowsGet rows a.key).1⟩],0) else ([],4)
def bQ (rows:List Row) (a:Ask):Write × Int :=
  if !decide (a.kind = 4) && !(rowsGet rows a.key).2 then (⟨[],0,false⟩,4)
  else if a.kind = 6 then (⟨a.key,0,true⟩,0)
  else if decide (a.kind = 5) && !gC ((rowsGet rows a.key).1 + a.num) then (⟨[],0,false⟩,6)
  else if a.kind = 5 then (⟨a.key,(rowsGet rows a.key).1 + a.num,false⟩,0)
  else (⟨a.key,a.num,false⟩,0)
theorem askWrite_sb {rows:List Row} {a:Ask} (h:SB a.key):SB (bQ rows a).1.key:=by
  unfold bQ
  repeat' split
  all_goals first | exact h | exact (by decide:SB [])
def fL (s:iX):iX:=⟨s.on,s.on,s.work⟩
def seatNone:iX:=⟨false,false,⟨0,[]⟩⟩
def dL (v:cD) (s:iX):kU:=if s.on then s.work else workNew v
def dR (v:cD) (s:iX) (a:Ask):cD × iX × Int :=
  if (bQ (cE v (dL v s)) a).2 = 0 then
    if (workPut v (dL v s) (bQ (cE v (dL v s)) a).1).2 = 0 then
      if s.on then (v,⟨s.on,s.bad,(workPut v (dL v s) (bQ (cE v (dL v s)) a).1).1⟩,0)
      else ((workEnd v (workPut v (dL v s) (bQ (cE v (dL v s)) a).1).1).1,s,(workEnd v (workPut v (dL v s) (bQ (cE v (dL v s)) a).1).1).2)
    else (v,fL s,(workPut v (dL v s) (bQ (cE v (dL v s)) a).1).2)
  else (v,fL s,(bQ (cE v (dL v s)) a).2)
theorem tJ {v:cD} {s:iX} {a:Ask} {w:kU} (hw:dL v s = w) (h:¬ (bQ (cE v w) a).2 = 0):dR v s a = (v,fL s,(bQ (cE v w) a).2):=by
  subst hw; unfold dR; rw [if_neg h]
theorem tI {v:cD} {s:iX} {a:Ask} {w:kU} (hw:dL v s = w) (h:(bQ (cE v w) a).2 = 0) (h2:¬ (workPut v w (bQ (cE v w) a).1).2 = 0):dR v s a = (v,fL s,(workPut v w (bQ (cE v w) a).1).2):=by
  subst hw; unfold dR; rw [if_pos h,if_neg h2]
theorem tH {v:cD} {s:iX} {a:Ask} {w:kU} (hw:dL v s = w) (h:(bQ (cE v w) a).2 = 0) (h2:(workPut v w (bQ (cE v w) a).1).2 = 0) (h3:s.on = true):dR v s a = (v,⟨s.on,s.bad,(workPut v w (bQ (cE v w) a).1).1⟩,0):=by
  subst hw; unfold dR; rw [if_pos h,if_pos h2,if_pos h3]
theorem tG {v:cD} {s:iX} {a:Ask} {w:kU} (hw:dL v s = w) (h:(bQ (cE v w) a).2 = 0) (h2:(workPut v w (bQ (cE v w) a).1).2 = 0) (h3:s.on = false):dR v s a = ((workEnd v (workPut v w (bQ (cE v w) a).1).1).1,s,(workEnd v (workPut v w (bQ (cE v w) a).1).1).2):=by
  subst hw; unfold dR; rw [if_pos h,if_pos h2,if_neg (neF h3)]
def seatEnds (v:cD) (s:iX) (kind:Int):cD × iX × Int :=
  if !s.on then (v,s,4) else if kind = 9 then (v,seatNone,0) else if s.bad then (v,seatNone,5) else ((workEnd v s.work).1,seatNone,(workEnd v s.work).2)
set_option maxHeartbeats 1000000 in
theorem zV {w0:World} {h:Heap} {O:Nat → Prop} {s:iX} {k0v:Value} (k0:Rs h O k0v s.work.writes) (OB0:OB h O)  : HC (XM PP) w0 74 [.agg #[vb s.on,vb s.bad,vi s.work.at',k0v]].toArray h (fun rv h'=>∃ (s1:Value),rv = .agg #[vb s.on,vb s.bad,vi s.work.at',s1]∧Le h h' ∧ Rs h' O s1 s.work.writes):=by
 obtain ⟨Ak0,nk0,ck0,rfl⟩:=k0.frm
 have le:=Le.refl h
 have OBe:=OB0
 refine aV 11 [(0,.agg #[vb s.on,vb s.bad,vi s.work.at',(.slice Ak0 nk0 ck0)])] Tryz.func74 (fun r=>?_)
 refine hw_sr (bE cW (fun v1 h1 q1=>?_))
 obtain ⟨b1,O1,rfl,eb1,sb1,lb1,B1,hO1⟩:=q1.ox O
 refine bE aY (fun v2 h2 q2=>?_)
 obtain ⟨b2,O2,rfl,eb2,sb2,lb2,B2,hO2⟩:=q2.ox O1
 refine aD ?_
 refine aI ?_
 replace k0:=(k0.nb lb1 hO1 eb1).nb lb2 hO2 eb2
 have Rk0:=k0
 obtain ⟨S3,hS3⟩:=mkO (fun b=>h2.size ≤ b)
 have mR3:Mod S3 h2 h2:=Mod.refl _
 have hd3:∀ b,b < h2.size∧¬ O2 b → ¬ S3 b:=fun b hb hs=>(fun hs=>absurd hb.1 (Nat.not_lt.2 hs)) ((hS3 b).1 hs)
 replace B1:=B1.le lb2
 refine bH 9 S3 bC (ha2_p 0 rfl (fun _=>y_fieldAddr)<|ha2_y 1 rfl (fun _ mm=>(y_load (Blk.at (Blk.mod B1 mm (fun hs=>by rcases (hS3 _).1 hs with hs <;> first | omega)) rfl rfl)))<|ha2_p 2 rfl (fun _=>y_fieldAddr)<|ha2_y 3 rfl (fun _ mm=>(y_load (Blk.at (Blk.mod B1 mm (fun hs=>by rcases (hS3 _).1 hs with hs <;> first | omega)) rfl rfl)))<|ha2_p 4 rfl (fun _=>y_fieldAddr)<|ha2_y 5 rfl (fun _ mm=>(y_loadB (Blk.mod B1 mm (fun hs=>by rcases (hS3 _).1 hs with hs <;> first | omega)) 2 _))<|?_)
 replace OB0:=(OB0.newB sb1 hO1 eb1).newB sb2 hO2 eb2
 refine aW 6 (cC rfl aG (nY (w:=s.work) k0 OB0) (fun v4 h4 q4=>?_))
 obtain ⟨s4_1,rfl,lc4,k4_1⟩:=q4
 have z4:=lc4.1
 refine ⟨Le.mod lc4,?_⟩
 replace k4_1:=k4_1.end OB0
 obtain ⟨A5,n5,c5,rfl⟩:=k4_1.frm
 refine ha2_p 7 rfl (fun _=>(y_build rfl rfl))<|?_
 replace B2:=B2.le lc4
 refine aW 8 (lN rfl (aK aP B2) (fun v6 h6 q6=>?_))
 obtain ⟨rfl,q6⟩:=q6
 have z6:=q6.1
 have B2:=q6.2.2
 refine aF (ah1 2) fun r=>?_
 refine hw_rr ?_
 refine aQ rfl (.cons (bT B2) .nil) ?_
 replace le:=(((le.t lb1).t lb2).t lc4).s q6
 replace k4_1:=k4_1.st q6 (ir hO2)
 exact ⟨_,by first | rfl | (simp_all [oneOf] <;> omega),le,(k4_1.wk (fun x hx=>(il hO2 (il hO1 hx)))).cast (by first | rfl | (simp_all [oneOf] <;> omega))⟩
set_option maxHeartbeats 1000000 in
theorem zU {w0:World} {h:Heap} {O:Nat → Prop} {rows:List Row} {k0v:Value} {a:Ask} (k0:Rs h O k0v rows) (OB0:OB h O) (s0:SB a.key:=by first | assumption | omega | (simp; done) | (simp; omega)) (s1:SB a.hi:=by first | assumption | omega | (simp; done) | (simp; omega)):HC (XM PP) w0 111 [k0v,.agg #[vi a.kind,vs a.key,vs a.hi,vi a.num]].toArray h (fun rv h'=>∃ (s1:Value),rv = .tuple #[s1,vi ((askTold rows a).2)]∧Le h h' ∧ Rs h' O s1 ((askTold rows a).1)):=by
 obtain ⟨Ak0,nk0,ck0,rfl⟩:=k0.frm
 have le:=Le.refl h
 have OBe:=OB0
 refine aV 46 [(0,(.slice Ak0 nk0 ck0)),(1,.agg #[vi a.kind,vs a.key,vs a.hi,vi a.num])] Tryz.func111 (fun r=>?_)
 refine hw_sr (bE cW (fun v1 h1 q1=>?_))
 obtain ⟨b1,O1,rfl,eb1,sb1,lb1,B1,hO1⟩:=q1.ox O
 refine aB aC<|aB aC<|aD ?_
 refine aF (ah2 0 3) fun r=>?_
 refine aI ?_
 refine hw_sr (aB y_fieldAddr<|aB (y_load (Blk.at B1 rfl rfl))<|aD ?_)
 refine aX ?_
 refine hw_sr (aB bM<|aB aC<|aD ?_)
 refine aZ (fun g10=>?_) (fun g10=>?_)
 refine hw_sr (aB y_move<|aB y_fieldAddr<|aB (y_load (Blk.at B1 rfl rfl))<|aB y_fieldAddr<|aB (y_load (Blk.at B1 rfl rfl))<|?_)
 replace k0:=k0.nb lb1 hO1 eb1
 replace OB0:=OB0.newB sb1 hO1 eb1
 refine bL aG (aAB k0 OB0) (fun v2 h2 q2=>?_)
 obtain ⟨lc2,k2_1⟩:=q2
 have z2:=lc2.1
 replace k2_1:=k2_1.end OB0
 obtain ⟨A3,n3,c3,rfl⟩:=k2_1.frm
 refine aB aC<|aB aC<|aD ?_
 refine aF (ah2 4 5) fun r=>?_
 refine hw_rr ?_
 refine aQ rfl (.cons aU (.cons aU .nil)) ?_
 replace le:=(le.t lb1).t lc2
 exact ⟨_,by first | rfl | (simp_all [oneOf,askTold] <;> intros <;> (repeat' split) <;> (try and_intros) <;> first | rfl | omega | (simp_all; done)),le,(k2_1.wk (fun x hx=>(il hO1 hx))).cast (by first | rfl | (simp_all [oneOf,askTold] <;> intros <;> (repeat' split) <;> (try and_intros) <;> first | rfl | omega | (simp_all; done)))⟩
 refine hw_sr (aB bM<|aB aC<|aD ?_)
 refine aZ (fun g18=>?_) (fun g18=>?_)
 refine aI ?_
 replace k0:=k0.nb lb1 hO1 eb1
 have Rk0:=k0
 obtain ⟨S4,hS4⟩:=mkO (fun b=>h1.size ≤ b)
 have mR4:Mod S4 h1 h1:=Mod.refl _
 have hd4:∀ b,b < h1.size∧¬ O1 b → ¬ S4 b:=fun b hb hs=>(fun hs=>absurd hb.1 (Nat.not_lt.2 hs)) ((hS4 b).1 hs)
 refine bH 13 S4 bC (ha2_p 0 rfl (fun _=>y_fieldAddr)<|ha2_y 1 rfl (fun _ mm=>(y_load (Blk.at (Blk.mod B1 mm (fun hs=>by rcases (hS4 _).1 hs with hs <;> first | omega)) rfl rfl)))<|ha2_p 2 rfl (fun _=>y_move)<|ha2_p 3 rfl (fun _=>y_fieldAddr)<|ha2_y 4 rfl (fun _ mm=>(y_load (Blk.at (Blk.mod B1 mm (fun hs=>by rcases (hS4 _).1 hs with hs <;> first | omega)) rfl rfl)))<|ha2_p 5 rfl (fun _=>y_fieldAddr)<|ha2_y 6 rfl (fun _ mm=>(y_load (Blk.at (Blk.mod B1 mm (fun hs=>by rcases (hS4 _).1 hs with hs <;> first | omega)) rfl rfl)))<|?_)
 replace OB0:=OB0.newB sb1 hO1 eb1
 refine aW 7 (cC rfl aG (aAB k0 OB0) (fun v5 h5 q5=>?_))
 obtain ⟨lc5,k5_1⟩:=q5
 have z5:=lc5.1
 refine ⟨Le.mod lc5,?_⟩
 replace k5_1:=k5_1.end OB0
 obtain ⟨A6,n6,c6,rfl⟩:=k5_1.frm
 refine aW 8 (ho_cp rfl aG (aCv k5_1) ?_)
 refine ha2_p 9 rfl (fun _=>(y_build rfl rfl))<|?_
 refine aW 10 (?_)
 refine cB rfl (bA (l:=([(⟨a.key,kR (mT rows a.key a.hi)⟩:Row)]:List Row))) (fun v7 h7 q7=>?_)
 obtain ⟨lb7,ow7,sb7⟩:=q7
 have z7:=lb7.1
 refine ⟨Le.mod lb7,?_⟩
 replace OB0:=OB0.leO lc5.1
 have k7:Rs _ O1 _ _:=Ow.end ⟨ow7,ok1⟩ OB0
 obtain ⟨A8,n8,c8,rfl⟩:=k7.frm
 refine ha2_p 11 rfl (fun _=>aC)<|ha2_p 12 rfl (fun _=>aC)<|cN ?_
 refine aF (ah2 4 5) fun r=>?_
 refine hw_rr ?_
 refine aQ rfl (.cons aU (.cons aU .nil)) ?_
 replace le:=((le.t lb1).t lc5).t lb7
 exact ⟨_,by first | rfl | (simp_all [oneOf,askTold] <;> intros <;> (repeat' split) <;> (try and_intros) <;> first | rfl | omega | (simp_all; done)),le,(k7.wk (fun x hx=>(il hO1 hx))).cast (by first | rfl | (simp_all [oneOf,askTold] <;> intros <;> (repeat' split) <;> (try and_intros) <;> first | rfl | omega | (simp_all; done)))⟩
 refine aM ?_
 refine hw_sr (aB y_move<|aB y_fieldAddr<|aB (y_load (Blk.at B1 rfl rfl))<|?_)
 replace k0:=k0.nb lb1 hO1 eb1
 refine dY aG (xD k0)<|aB y_move<|aB aL<|aB aL<|aB aC<|aB aC<|aD ?_
 refine aF (ah3 3 6 7) fun r=>?_
 refine aI ?_
 refine hw_sr (aB y_move<|aB dG<|aD ?_)
 refine dS (fun g39=>?_) (fun g39=>?_)
 refine hw_sr (?_)
 refine bE (bA (l:=([]:List Row))) (fun v9 h9 q9=>?_)
 obtain ⟨lb9,ow9,sb9⟩:=q9
 have z9:=lb9.1
 replace OB0:=OB0.newB sb1 hO1 eb1
 have k9:Rs _ O1 _ _:=Ow.end ⟨ow9,OkL.nil⟩ OB0
 obtain ⟨A10,n10,c10,rfl⟩:=k9.frm
 refine aB aC<|aB aC<|aD ?_
 refine hw_rr ?_
 refine aQ rfl (.cons aU (.cons aU .nil)) ?_
 replace le:=(le.t lb1).t lb9
 exact ⟨_,by first | rfl | (simp_all [oneOf,askTold] <;> intros <;> (repeat' split) <;> (try and_intros) <;> first | rfl | omega | (simp_all; done)),le,(k9.wk (fun x hx=>(il hO1 hx))).cast (by first | rfl | (simp_all [oneOf,askTold] <;> intros <;> (repeat' split) <;> (try and_intros) <;> first | rfl | omega | (simp_all; done)))⟩
 refine aM ?_
 refine hw_sr (aB y_fieldAddr<|aB (y_load (Blk.at B1 rfl rfl))<|aB y_move<|aB (y_build rfl rfl)<|?_)
 refine bE (bA (l:=([(⟨a.key,(rowsGet rows a.key).1⟩:Row)]:List Row))) (fun v11 h11 q11=>?_)
 obtain ⟨lb11,ow11,sb11⟩:=q11
 have z11:=lb11.1
 replace OB0:=OB0.newB sb1 hO1 eb1
 have k11:Rs _ O1 _ _:=Ow.end ⟨ow11,ok1⟩ OB0
 obtain ⟨A12,n12,c12,rfl⟩:=k11.frm
 refine aB aC<|aB aC<|aD ?_
 refine aF (ah2 4 5) fun r=>?_
 refine hw_rr ?_
 refine aQ rfl (.cons aU (.cons aU .nil)) ?_
 replace le:=(le.t lb1).t lb11
 exact ⟨_,by first | rfl | (simp_all [oneOf,askTold] <;> intros <;> (repeat' split) <;> (try and_intros) <;> first | rfl | omega | (simp_all; done)),le,(k11.wk (fun x hx=>(il hO1 hx))).cast (by first | rfl | (simp_all [oneOf,askTold] <;> intros <;> (repeat' split) <;> (try and_intros) <;> first | rfl | omega | (simp_all; done)))⟩
set_option maxHeartbeats 1000000 in
theorem kW {w0:World} {h:Heap} {O:Nat → Prop} {rows:List Row} {k0v:Value} {a:Ask} (k0:Rs h O k0v rows) (OB0:OB h O) (s0:SB a.key:=by first | assumption | omega | (simp; done) | (simp; omega)) (s1:SB a.hi:=by first | assumption | omega | (simp; done) | (simp; omega)) (hn : -1000000 ≤ a.num∧a.num ≤ 1000000:=by first | assumption | omega):HC (XM PP) w0 117 [k0v,.agg #[vi a.kind,vs a.key,vs a.hi,vi a.num]].toArray h (fun rv h'=>rv = .tuple #[.agg #[vs (((bQ rows a).1).key),vi (((bQ rows a).1).num),vb (((bQ rows a).1).gone)],vi ((bQ rows a).2)]∧Le h h' ∧ SB (bQ rows a).1.key):=by
 obtain ⟨Ak0,nk0,ck0,rfl⟩:=k0.frm
 have le:=Le.refl h
 have OBe:=OB0
 have hg:=tL (l:=rows) (key:=a.key)
 refine aV 60 [(0,(.slice Ak0 nk0 ck0)),(1,.agg #[vi a.kind,vs a.key,vs a.hi,vi a.num])] Tryz.func117 (fun r=>?_)
 refine hw_sr (bE cW (fun v1 h1 q1=>?_))
 obtain ⟨b1,O1,rfl,eb1,sb1,lb1,B1,hO1⟩:=q1.ox O
 refine bE aY (fun v2 h2 q2=>?_)
 obtain ⟨b2,O2,rfl,eb2,sb2,lb2,B2,hO2⟩:=q2.ox O1
 refine aB aC<|aD ?_
 refine aI ?_
 replace B1:=B1.le lb2
 refine aE (aB y_move<|aB y_fieldAddr<|aB (y_load (Blk.at B1 rfl rfl))<|?_)
 replace k0:=(k0.nb lb1 hO1 eb1).nb lb2 hO2 eb2
 refine dY aG (xD k0)<|aB y_move<|aB aL<|aB aL<|aB aC<|aB aC<|aD ?_
 refine aF (ah4 3 4 6 7) fun r=>?_
 refine aI ?_
 refine aX ?_
 refine hw_sr (aB y_fieldAddr<|aB (y_load (Blk.at B1 rfl rfl))<|aB fS<|aB y_move<|?_)
 refine bB 3 [(3,.pointer (some ⟨b1,0,none⟩)),(4,.pointer (some ⟨b2,0,none⟩)),(6,vi ((rowsGet rows a.key).1)),(22,vb ((!decide (a.kind = 4)) && (!(rowsGet rows a.key).2)))] (fun r=>?_) (fun jn=>?_)
 refine aB aC<|aD ?_
 refine bF (fun g15=>?_) (fun g15=>?_)
 have g15':=g15
 simp at g15'
 refine hw_sr (aB (y_build rfl rfl)<|?_)
 refine bO (aK aP B2) (fun v3 h3 q3=>?_)
 obtain ⟨rfl,q3⟩:=q3
 have z3:=q3.1
 have B2:=q3.2.2
 refine aB aC<|aD ?_
 refine hw_rr ?_
 refine aQ rfl (.cons (bT B2) (.cons aU .nil)) ?_
 replace le:=((le.t lb1).t lb2).s q3
 exact ⟨by first | rfl | (simp_all [oneOf,bQ] <;> intros <;> (repeat' split) <;> (try and_intros) <;> first | rfl | omega | (simp_all; done)),le,askWrite_sb (by assumption)⟩
 have g15':=g15
 simp at g15'
 refine hw_sr (aB y_fieldAddr<|aB (y_load (Blk.at B1 rfl rfl))<|aB bM<|aB aC<|aD ?_)
 refine aF (ah4 3 4 6 24) fun r=>?_
 refine aZ (fun g24=>?_) (fun g24=>?_)
 refine hw_sr (aB y_fieldAddr<|aB (y_load (Blk.at B1 rfl rfl))<|aB (y_build rfl rfl)<|?_)
 refine bO (aK aP B2) (fun v4 h4 q4=>?_)
 obtain ⟨rfl,q4⟩:=q4
 have z4:=q4.1
 have B2:=q4.2.2
 refine aB aC<|aD ?_
 refine aF (ah2 4 5) fun r=>?_
 refine hw_rr ?_
 refine aQ rfl (.cons (bT B2) (.cons aU .nil)) ?_
 replace le:=((le.t lb1).t lb2).s q4
 exact ⟨by first | rfl | (simp_all [oneOf,bQ] <;> intros <;> (repeat' split) <;> (try and_intros) <;> first | rfl | omega | (simp_all; done)),le,askWrite_sb (by assumption)⟩
 refine hw_sr (aB y_fieldAddr<|aB (y_load (Blk.at B1 rfl rfl))<|aB bM<|aB y_move<|?_)
 refine bB 7 [(3,.pointer (some ⟨b1,0,none⟩)),(4,.pointer (some ⟨b2,0,none⟩)),(6,vi ((rowsGet rows a.key).1)),(42,vb ((decide (a.kind = 5)) && (!gC ((rowsGet rows a.key).1 + a.num))))] (fun r=>?_) (fun jn=>?_)
 refine aB aC<|aD ?_
 refine bF (fun g31=>?_) (fun g31=>?_)
 have g31':=g31
 simp at g31'
 refine hw_sr (aB (y_build rfl rfl)<|?_)
 refine bO (aK aP B2) (fun v5 h5 q5=>?_)
 obtain ⟨rfl,q5⟩:=q5
 have z5:=q5.1
 have B2:=q5.2.2
 refine aB aC<|aD ?_
 refine hw_rr ?_
 refine aQ rfl (.cons (bT B2) (.cons aU .nil)) ?_
 replace le:=((le.t lb1).t lb2).s q5
 exact ⟨by first | rfl | (simp_all [oneOf,bQ] <;> intros <;> (repeat' split) <;> (try and_intros) <;> first | rfl | omega | (simp_all; done)),le,askWrite_sb (by assumption)⟩
 have g31':=g31
 simp at g31'
 refine hw_sr (aB y_fieldAddr<|aB (y_load (Blk.at B1 rfl rfl))<|aB bM<|aB aC<|aD ?_)
 refine aF (ah4 3 4 6 44) fun r=>?_
 refine aZ (fun g44=>?_) (fun g44=>?_)
 refine hw_sr (aB y_fieldAddr<|aB (y_load (Blk.at B1 rfl rfl))<|aB y_move<|aB y_fieldAddr<|aB (y_load (Blk.at B1 rfl rfl))<|?_)
 refine aB bI<|aB (y_build rfl rfl)<|?_
 refine bO (aK aP B2) (fun v6 h6 q6=>?_)
 obtain ⟨rfl,q6⟩:=q6
 have z6:=q6.1
 have B2:=q6.2.2
 refine aB aC<|aD ?_
 refine aF (ah2 4 5) fun r=>?_
 refine hw_rr ?_
 refine aQ rfl (.cons (bT B2) (.cons aU .nil)) ?_
 replace le:=((le.t lb1).t lb2).s q6
 exact ⟨by first | rfl | (simp_all [oneOf,bQ] <;> intros <;> (repeat' split) <;> (try and_intros) <;> first | rfl | omega | (simp_all; done)),le,askWrite_sb (by assumption)⟩
 refine aM ?_
 refine hw_sr (aB y_fieldAddr<|aB (y_load (Blk.at B1 rfl rfl))<|aB y_fieldAddr<|aB (y_load (Blk.at B1 rfl rfl))<|aB (y_build rfl rfl)<|?_)
 refine bO (aK aP B2) (fun v7 h7 q7=>?_)
 obtain ⟨rfl,q7⟩:=q7
 have z7:=q7.1
 have B2:=q7.2.2
 refine aB aC<|aD ?_
 refine aF (ah2 4 5) fun r=>?_
 refine hw_rr ?_
 refine aQ rfl (.cons (bT B2) (.cons aU .nil)) ?_
 replace le:=((le.t lb1).t lb2).s q7
 exact ⟨by first | rfl | (simp_all [oneOf,bQ] <;> intros <;> (repeat' split) <;> (try and_intros) <;> first | rfl | omega | (simp_all; done)),le,askWrite_sb (by assumption)⟩
 refine dA (a.kind = 5) (fun g35=>?_) (fun g35=>?_)
 refine aO (dT g35) y_move<|aO (dT g35) y_fieldAddr<|aO (dT g35) (y_load (Blk.at B1 rfl rfl))<|?_
 refine aO (dT g35) bI<|gH (dT g35) aG qL<|aO (dT g35) dG<|aB (y_pickT (dT g35))<|?_
 exact jn _ (aA (aA (aA (aA aJ (by simp only [aH,reduceIte,Nat.reduceEqDiff,reduceCtorEq,(dT g35),bb])))))
 refine aN (neF (dF g35))<|aN (neF (dF g35))<|aN (neF (dF g35))<|aN (neF (dF g35))<|aN (neF (dF g35))<|aN (neF (dF g35))<|aB (aR (dF g35))<|?_
 exact jn _ (aA (aA (aA (aA aJ (by simp only [aH,reduceIte,Nat.reduceEqDiff,reduceCtorEq,(dF g35),bb])))))
 refine dA (a.kind = 4) (fun g19=>?_) (fun g19=>?_)
 refine aN (neF (nT (dT g19)))<|aN (neF (nT (dT g19)))<|aB (aR (nT (dT g19)))<|?_
 exact jn _ (aA (aA (aA (aA aJ (by simp only [aH,reduceIte,Nat.reduceEqDiff,reduceCtorEq,(nT (dT g19)),bb])))))
 refine aO (nF (dF g19)) y_move<|aO (nF (dF g19)) dG<|aB (y_pickT (nF (dF g19)))<|?_
 exact jn _ (aA (aA (aA (aA aJ (by simp only [aH,reduceIte,Nat.reduceEqDiff,reduceCtorEq,(nF (dF g19)),bb])))))
set_option maxHeartbeats 1000000 in
theorem gY {w0:World} {h:Heap} {O:Nat → Prop} {s:iX} {k0v:Value} (k0:Rs h O k0v s.work.writes) (OB0:OB h O)  : HC (XM PP) w0 97 [.agg #[vb s.on,vb s.bad,vi s.work.at',k0v]].toArray h (fun rv h'=>∃ (s1:Value),rv = .agg #[vb ((fL s).on),vb ((fL s).bad),vi ((fL s).work.at'),s1]∧Le h h' ∧ Rs h' O s1 ((fL s).work.writes)):=by
 obtain ⟨Ak0,nk0,ck0,rfl⟩:=k0.frm
 have le:=Le.refl h
 have OBe:=OB0
 refine aV 7 [(0,.agg #[vb s.on,vb s.bad,vi s.work.at',(.slice Ak0 nk0 ck0)])] Tryz.func97 (fun r=>?_)
 refine hw_sr (bE cW (fun v1 h1 q1=>?_))
 obtain ⟨b1,O1,rfl,eb1,sb1,lb1,B1,hO1⟩:=q1.ox O
 refine bE aY (fun v2 h2 q2=>?_)
 obtain ⟨b2,O2,rfl,eb2,sb2,lb2,B2,hO2⟩:=q2.ox O1
 refine aD ?_
 refine aI ?_
 replace B1:=B1.le lb2
 refine aE (aB y_fieldAddr<|aB (y_load (Blk.at B1 rfl rfl))<|aB y_fieldAddr<|?_)
 refine bO (aK aP B1) (fun v3 h3 q3=>?_)
 obtain ⟨rfl,q3⟩:=q3
 have z3:=q3.1
 have B1:=q3.2.2
 refine aD ?_
 refine aF (ah2 1 2) fun r=>?_
 refine hw_sr (aB (y_loadB B1 0 _)<|?_)
 replace B2:=B2.s q3
 refine bO (aK aP B2) (fun v4 h4 q4=>?_)
 obtain ⟨rfl,q4⟩:=q4
 have z4:=q4.1
 have B2:=q4.2.2
 refine aD ?_
 refine hw_rr ?_
 refine aQ rfl (.cons (bT B2) .nil) ?_
 replace le:=(((le.t lb1).t lb2).s q3).s q4
 replace k0:=(((k0.nb lb1 hO1 eb1).nb lb2 hO2 eb2).st q3 (il hO2 (ir hO1))).st q4 (ir hO2)
 exact ⟨_,by first | rfl | (simp_all [oneOf] <;> omega),le,(k0.wk (fun x hx=>(il hO2 (il hO1 hx)))).cast (by first | rfl | (simp_all [oneOf] <;> omega))⟩
set_option maxHeartbeats 1000000 in
theorem aC2 {w0:World} {h:Heap} {O:Nat → Prop} {v:cD} {k0v:Value} {s:iX} {k1v:Value} {a:Ask} (k0:Rs h O k0v v.list) (k1:Rs h O k1v s.work.writes) (OB0:OB h O) (s0:SB a.key:=by first | assumption | omega | (simp; done) | (simp; omega)) (s1:SB a.hi:=by first | assumption | omega | (simp; done) | (simp; omega)) (hn : -1000000 ≤ a.num∧a.num ≤ 1000000:=by first | assumption | omega):HC (XM PP) w0 109 [.agg #[vi v.now,k0v],.agg #[vb s.on,vb s.bad,vi s.work.at',k1v],.agg #[vi a.kind,vs a.key,vs a.hi,vi a.num]].toArray h (fun rv h'=>∃ (s1 s2:Value),rv = .tuple #[.agg #[vi (((dR v s a).1).now),s1],.agg #[vb (((dR v s a).2.1).on),vb (((dR v s a).2.1).bad),vi (((dR v s a).2.1).work.at'),s2],vi ((dR v s a).2.2)]∧Le h h' ∧ Rs h' O s1 (((dR v s a).1).list)∧Rs h' O s2 (((dR v s a).2.1).work.writes)):=by
 obtain ⟨Ak0,nk0,ck0,rfl⟩:=k0.frm
 obtain ⟨Ak1,nk1,ck1,rfl⟩:=k1.frm
 replace le:=Le.refl h
 have OBe:=OB0
 refine aV 65 [(0,.agg #[vi v.now,(.slice Ak0 nk0 ck0)]),(1,.agg #[vb s.on,vb s.bad,vi s.work.at',(.slice Ak1 nk1 ck1)]),(2,.agg #[vi a.kind,vs a.key,vs a.hi,vi a.num])] Tryz.func109 (fun r=>?_)
 refine hw_sr (bE cW (fun v1 h1 q1=>?_))
 obtain ⟨b1,O1,rfl,eb1,sb1,lb1,B1,hO1⟩:=q1.ox O
 refine bE cW (fun v2 h2 q2=>?_)
 obtain ⟨b2,O2,rfl,eb2,sb2,lb2,B2,hO2⟩:=q2.ox O1
 refine bE cW (fun v3 h3 q3=>?_)
 obtain ⟨b3,O3,rfl,eb3,sb3,lb3,B3,hO3⟩:=q3.ox O2
 refine bE aY (fun v4 h4 q4=>?_)
 obtain ⟨b4,O4,rfl,eb4,sb4,lb4,B4,hO4⟩:=q4.ox O3
 refine bE aY (fun v5 h5 q5=>?_)
 obtain ⟨b5,O5,rfl,eb5,sb5,lb5,B5,hO5⟩:=q5.ox O4
 refine aB aC<|aD ?_
 refine aF (ah5 3 4 5 6 7) fun r=>?_
 refine aI ?_
 replace B2:=((B2.le lb3).le lb4).le lb5
 refine aE (aB y_fieldAddr<|aB (y_loadB B2 2 _)<|bE aY (fun v6 h6 q6=>?_))
 obtain ⟨b6,O6,rfl,eb6,sb6,lb6,B6,hO6⟩:=q6.ox O5
 refine bO (aK aP B6) (fun v7 h7 q7=>?_)
 obtain ⟨rfl,q7⟩:=q7
 have z7:=q7.1
 replace B6:=q7.2.2
 refine aD ?_
 refine aI ?_
 refine aI ?_
 replace B2:=(B2.le lb6).s q7
 refine aE (aB y_fieldAddr<|aB (y_load (Blk.at B2 rfl rfl))<|aB dG<|aD ?_)
 refine dS (fun g20=>?_) (fun g20=>?_)
 have hw:dL v s = workNew v:=by rw [dL,g20]; rfl
 replace B1:=(((((B1.le lb2).le lb3).le lb4).le lb5).le lb6).s q7
 refine aE (aB (y_loadB B1 0 _)<|?_)
 replace k0:=((((((k0.nb lb1 hO1 eb1).nb lb2 hO2 eb2).nb lb3 hO3 eb3).nb lb4 hO4 eb4).nb lb5 hO5 eb5).nb lb6 hO6 eb6).st q7 (ir hO6)
 replace OB0:=((((((OB0.newB sb1 hO1 eb1).newB sb2 hO2 eb2).newB sb3 hO3 eb3).newB sb4 hO4 eb4).newB sb5 hO5 eb5).newB sb6 hO6 eb6).leO (Nat.le_of_eq q7.1.symm)
 refine bL aG (xB (v:=v) k0 OB0) (fun v8 h8 q8=>?_)
 obtain ⟨s8_1,rfl,lc8,k8_1⟩:=q8
 have z8:=lc8.1
 obtain ⟨A9,n9,c9,rfl⟩:=k8_1.frm
 replace B6:=B6.le lc8
 refine bO (aK aP B6) (fun v10 h10 q10=>?_)
 obtain ⟨rfl,q10⟩:=q10
 have z10:=q10.1
 replace B6:=q10.2.2
 refine aD ?_
 replace OB0:=OB0.leO (h':=h10) (by omega)
 refine dH (fun (gx:(Nat → Prop) × Nat)=>match gx with | (OL13,b11)=>[(3,.pointer (some ⟨b1,0,none⟩)),(4,.pointer (some ⟨b2,0,none⟩)),(6,.pointer (some ⟨b4,0,none⟩)),(7,.pointer (some ⟨b5,0,none⟩)),(9,.pointer (some ⟨b6,0,none⟩)),(10,.pointer (some ⟨b11,0,none⟩)),(11,vi ((bQ (cE v (workNew v)) a).2))]) (fun (gx:(Nat → Prop) × Nat) (h' : Heap)=>match gx with | (OL13,b11)=>Le h h' ∧ Mod O6 h10 h' ∧ (∀ x,OL13 x → O6 x ∨ h10.size ≤ x)∧(∀ x,O6 x → OL13 x)∧OB h' OL13∧Blk h' b1 [vi v.now,(.slice Ak0 nk0 ck0)] 52∧OL13 b1∧Blk h' b2 [vb s.on,vb s.bad,vi s.work.at',(.slice Ak1 nk1 ck1)] 57∧OL13 b2∧Blk h' b3 [vi a.kind,vs a.key,vs a.hi,vi a.num] 118∧OL13 b3∧Blk h' b4 [vi 0,.slice none 0 0] 52∧OL13 b4∧Blk h' b5 [vb false,vb false,vi 0,.slice none 0 0] 57∧OL13 b5∧Blk h' b6 [vi ((workNew v).at'),(.slice A9 n9 c9)] 55∧OL13 b6∧Blk h' b11 [vs (((bQ (cE v (workNew v)) a).1).key),vi (((bQ (cE v (workNew v)) a).1).num),vb (((bQ (cE v (workNew v)) a).1).gone)] 107∧OL13 b11∧h10.size ≤ b11∧(SB (bQ (cE v (workNew v)) a).1.key)) ?_ ?_
 replace lr13:=Mod.refl (S:=O6) h10
 replace lx13:∀ x,O6 x → O6 x ∨ h10.size ≤ x:=fun x hx=>.inl hx
 replace k0:=(k0.le lc8).st q10 (ir hO6)
 have Rk0:=k0
 replace k8_1:=k8_1.st q10 (ir hO6)
 have Rk8_1:=k8_1
 obtain ⟨S14,hS14⟩:=mkO (fun b=>h10.size ≤ b)
 replace mR14:Mod S14 h10 h10:=Mod.refl _
 have hd14:∀ b,b < h10.size∧¬ O6 b → ¬ S14 b:=fun b hb hs=>(fun hs=>absurd hb.1 (Nat.not_lt.2 hs)) ((hS14 b).1 hs)
 replace B3:=(((((B3.le lb4).le lb5).le lb6).s q7).le lc8).s q10
 replace B1:=(B1.le lc8).s q10
 refine bH 11 S14 bC (ha2_y 0 rfl (fun _ mm=>(y_loadB (Blk.mod B1 mm (fun hs=>by rcases (hS14 _).1 hs with hs <;> first | omega)) 0 _))<|ha2_y 1 rfl (fun _ mm=>(y_loadB (Blk.mod B6 mm (fun hs=>by rcases (hS14 _).1 hs with hs <;> first | omega)) 0 _))<|ha2_y 3 rfl (fun _ mm=>(y_loadB (Blk.mod B3 mm (fun hs=>by rcases (hS14 _).1 hs with hs <;> first | omega)) 0 _))<|?_)
 refine dU 2 8 ?_ ?_
 refine cC rfl aG (lI (v:=v) (w:=(workNew v)) k0 k8_1 OB0) (fun v15 h15 q15=>?_)
 obtain ⟨lc15,k15_1⟩:=q15
 have z15:=lc15.1
 refine ⟨Le.mod lc15,?_⟩
 obtain ⟨A16,n16,c16,rfl⟩:=k15_1.frm
 refine dU 4 8 ?_ ?_
 replace OB0:=OB0.leO lc15.1
 refine cC rfl aG (kW (a:=a) k15_1 OB0) (fun v17 h17 q17=>?_)
 obtain ⟨rfl,lc17,pr17⟩:=q17
 have z17:=lc17.1
 refine ⟨Le.mod lc17,?_⟩
 refine ha2_p 5 rfl (fun _=>y_move)<|ha2_p 6 rfl (fun _=>aL)<|ha2_p 7 rfl (fun _=>aL)<|?_
 refine aW 8 (cB rfl aY (fun v18 h18 q18=>?_))
 obtain ⟨b18,O18,rfl,eb18,sb18,lb18,B18,hO18⟩:=q18.ox O6
 refine ⟨Le.mod lb18,?_⟩
 replace lx13:=laB lx13 hO18 (by omega)
 refine cV 9 rfl (aK aP B18) (fun v19 h19 q19=>?_)
 obtain ⟨rfl,q19⟩:=q19
 have z19:=q19.1
 replace B18:=q19.2.2
 refine bG 10 rfl (fun _=>aC)<|bD ?_
 replace le:=((((((((((((le.t lb1).t lb2).t lb3).t lb4).t lb5).t lb6).s q7).t lc8).s q10).t lc15).t lc17).t lb18).s q19
 replace B4:=((((((((B4.le lb5).le lb6).s q7).le lc8).s q10).le lc15).le lc17).le lb18).s q19
 replace B5:=(((((((B5.le lb6).s q7).le lc8).s q10).le lc15).le lc17).le lb18).s q19
 replace B2:=(((((B2.le lc8).s q10).le lc15).le lc17).le lb18).s q19
 replace B1:=(((B1.le lc15).le lc17).le lb18).s q19
 replace B3:=(((B3.le lc15).le lc17).le lb18).s q19
 replace B6:=(((B6.le lc15).le lc17).le lb18).s q19
 replace lr13:=(((lr13.tl lc15).tl lc17).tl lb18).s q19
 replace OB0:=((OB0.leO lc17.1).newB sb18 hO18 eb18).leO (Nat.le_of_eq q19.1.symm)
 exact ⟨(O18,b18),ag7,⟨le,lr13,lx13,fun x hx=>(il hO18 hx),OB0,B1,(il hO18 (il hO6 (il hO5 (il hO4 (il hO3 (il hO2 (ir hO1))))))),B2,(il hO18 (il hO6 (il hO5 (il hO4 (il hO3 (ir hO2)))))),B3,(il hO18 (il hO6 (il hO5 (il hO4 (ir hO3))))),B4,(il hO18 (il hO6 (il hO5 (ir hO4)))),B5,(il hO18 (il hO6 (ir hO5))),B6,(il hO18 (ir hO6)),B18,(ir hO18),by omega,pr17⟩⟩
 refine cB rfl aY (fun v20 h20 q20=>?_)
 obtain ⟨b20,O20,rfl,eb20,sb20,lb20,B20,hO20⟩:=q20.ox O6
 refine ⟨Le.mod lb20,?_⟩
 replace lx13:=laB lx13 hO20 (by omega)
 refine aW 4 (?_)
 replace k15_1:=k15_1.nb lb20 hO20 eb20
 replace OB0:=(OB0.leO lc15.1).newB sb20 hO20 eb20
 refine cC rfl aG (kW (a:=a) k15_1 OB0) (fun v21 h21 q21=>?_)
 obtain ⟨rfl,lc21,pr21⟩:=q21
 have z21:=lc21.1
 refine ⟨Le.mod lc21,?_⟩
 replace B20:=B20.le lc21
 refine bG 5 rfl (fun _=>y_move)<|bG 6 rfl (fun _=>aL)<|bG 7 rfl (fun _=>aL)<|cV 9 rfl (aK aP B20) (fun v22 h22 q22=>?_)
 obtain ⟨rfl,q22⟩:=q22
 have z22:=q22.1
 replace B20:=q22.2.2
 refine bG 10 rfl (fun _=>aC)<|bD ?_
 replace le:=((((((((((((le.t lb1).t lb2).t lb3).t lb4).t lb5).t lb6).s q7).t lc8).s q10).t lc15).t lb20).t lc21).s q22
 replace B4:=((((((((B4.le lb5).le lb6).s q7).le lc8).s q10).le lc15).le lb20).le lc21).s q22
 replace B5:=(((((((B5.le lb6).s q7).le lc8).s q10).le lc15).le lb20).le lc21).s q22
 replace B2:=(((((B2.le lc8).s q10).le lc15).le lb20).le lc21).s q22
 replace B1:=(((B1.le lc15).le lb20).le lc21).s q22
 replace B3:=(((B3.le lc15).le lb20).le lc21).s q22
 replace B6:=(((B6.le lc15).le lb20).le lc21).s q22
 replace lr13:=(((lr13.tl lc15).tl lb20).tl lc21).s q22
 replace OB0:=OB0.leO (h':=h22) (by omega)
 exact ⟨(O20,b20),ag7,⟨le,lr13,lx13,fun x hx=>(il hO20 hx),OB0,B1,(il hO20 (il hO6 (il hO5 (il hO4 (il hO3 (il hO2 (ir hO1))))))),B2,(il hO20 (il hO6 (il hO5 (il hO4 (il hO3 (ir hO2)))))),B3,(il hO20 (il hO6 (il hO5 (il hO4 (ir hO3))))),B4,(il hO20 (il hO6 (il hO5 (ir hO4)))),B5,(il hO20 (il hO6 (ir hO5))),B6,(il hO20 (ir hO6)),B20,(ir hO20),by omega,pr21⟩⟩
 refine cB rfl aY (fun v23 h23 q23=>?_)
 obtain ⟨b23,O23,rfl,eb23,sb23,lb23,B23,hO23⟩:=q23.ox O6
 refine ⟨Le.mod lb23,?_⟩
 replace lx13:=laB lx13 hO23 (by omega)
 refine aW 2 (?_)
 replace k0:=k0.nb lb23 hO23 eb23
 replace k8_1:=k8_1.nb lb23 hO23 eb23
 replace OB0:=OB0.newB sb23 hO23 eb23
 refine cC rfl aG (lI (v:=v) (w:=(workNew v)) k0 k8_1 OB0) (fun v24 h24 q24=>?_)
 obtain ⟨lc24,k24_1⟩:=q24
 have z24:=lc24.1
 refine ⟨Le.mod lc24,?_⟩
 obtain ⟨A25,n25,c25,rfl⟩:=k24_1.frm
 refine aW 4 (?_)
 replace OB0:=OB0.leO lc24.1
 refine cC rfl aG (kW (a:=a) k24_1 OB0) (fun v26 h26 q26=>?_)
 obtain ⟨rfl,lc26,pr26⟩:=q26
 have z26:=lc26.1
 refine ⟨Le.mod lc26,?_⟩
 replace B23:=(B23.le lc24).le lc26
 refine bG 5 rfl (fun _=>y_move)<|bG 6 rfl (fun _=>aL)<|bG 7 rfl (fun _=>aL)<|cV 9 rfl (aK aP B23) (fun v27 h27 q27=>?_)
 obtain ⟨rfl,q27⟩:=q27
 have z27:=q27.1
 replace B23:=q27.2.2
 refine bG 10 rfl (fun _=>aC)<|bD ?_
 replace le:=((((((((((((le.t lb1).t lb2).t lb3).t lb4).t lb5).t lb6).s q7).t lc8).s q10).t lb23).t lc24).t lc26).s q27
 replace B4:=((((((((B4.le lb5).le lb6).s q7).le lc8).s q10).le lb23).le lc24).le lc26).s q27
 replace B5:=(((((((B5.le lb6).s q7).le lc8).s q10).le lb23).le lc24).le lc26).s q27
 replace B2:=(((((B2.le lc8).s q10).le lb23).le lc24).le lc26).s q27
 replace B1:=(((B1.le lb23).le lc24).le lc26).s q27
 replace B3:=(((B3.le lb23).le lc24).le lc26).s q27
 replace B6:=(((B6.le lb23).le lc24).le lc26).s q27
 replace lr13:=(((lr13.tl lb23).tl lc24).tl lc26).s q27
 replace OB0:=OB0.leO (h':=h27) (by omega)
 exact ⟨(O23,b23),ag7,⟨le,lr13,lx13,fun x hx=>(il hO23 hx),OB0,B1,(il hO23 (il hO6 (il hO5 (il hO4 (il hO3 (il hO2 (ir hO1))))))),B2,(il hO23 (il hO6 (il hO5 (il hO4 (il hO3 (ir hO2)))))),B3,(il hO23 (il hO6 (il hO5 (il hO4 (ir hO3))))),B4,(il hO23 (il hO6 (il hO5 (ir hO4)))),B5,(il hO23 (il hO6 (ir hO5))),B6,(il hO23 (ir hO6)),B23,(ir hO23),by omega,pr26⟩⟩
 replace le:=((((((((le.t lb1).t lb2).t lb3).t lb4).t lb5).t lb6).s q7).t lc8).s q10
 replace B3:=(((((B3.le lb4).le lb5).le lb6).s q7).le lc8).s q10
 replace B4:=((((B4.le lb5).le lb6).s q7).le lc8).s q10
 replace B5:=(((B5.le lb6).s q7).le lc8).s q10
 replace B1:=(B1.le lc8).s q10
 replace B2:=(B2.le lc8).s q10
 rintro ⟨OL13,b11⟩ r hl13 ⟨le,lp13,la13,lb13,lo13,B1,mB1,B2,mB2,B3,mB3,B4,mB4,B5,mB5,B6,mB6,B11,mB11,nbl11,jp12⟩
 have nbu11:=B11.lt
 have zl13:=lp13.1
 refine aI ?_
 refine hw_sr (aB y_move<|aB fS<|aD ?_)
 refine fH (fun g32=>?_) (fun g32=>?_)
 refine aI ?_
 replace OB0:=lo13
 replace k0:=((k0.le lc8).st q10 (ir hO6)).lp lp13 la13
 have Rk0:=k0
 replace k1:=(((((((((k1.nb lb1 hO1 eb1).nb lb2 hO2 eb2).nb lb3 hO3 eb3).nb lb4 hO4 eb4).nb lb5 hO5 eb5).nb lb6 hO6 eb6).st q7 (ir hO6)).le lc8).st q10 (ir hO6)).lp lp13 la13
 have Rk1:=k1
 obtain ⟨S28,hS28⟩:=mkO (fun b=>hl13.size ≤ b ∨ b = b4)
 replace mR28:Mod S28 hl13 hl13:=Mod.refl _
 have hd28:∀ b,b < hl13.size∧¬ OL13 b → ¬ S28 b:=fun b hb hs=>(fun hs=>hs.elim (fun hs=>absurd hb.1 (Nat.not_lt.2 hs)) (fun hs=>hb.2 (hs ▸ mB4))) ((hS28 b).1 hs)
 refine bH 7 S28 bC (ha2_y 0 rfl (fun _ mm=>(y_loadB (Blk.mod B1 mm (fun hs=>by rcases (hS28 _).1 hs with hs | hs <;> first | omega)) 0 _))<|ha2_y 1 rfl (fun _ mm=>(y_loadB (Blk.mod B2 mm (fun hs=>by rcases (hS28 _).1 hs with hs | hs <;> first | omega)) 0 _))<|ha2_p 3 rfl (fun _=>y_move)<|?_)
 refine aW 2 (cC rfl aG (gY (s:=s) k1 OB0) (fun v29 h29 q29=>?_))
 obtain ⟨s29_1,rfl,lc29,k29_1⟩:=q29
 have z29:=lc29.1
 refine ⟨Le.mod lc29,?_⟩
 obtain ⟨A30,n30,c30,rfl⟩:=k29_1.frm
 replace B4:=B4.le lc29
 refine aW 4 (cY rfl (aK aP B4) (fun v31 h31 q31=>?_))
 obtain ⟨rfl,q31⟩:=q31
 have z31:=q31.1
 have ms:=mm hS28 q31.2.1
 refine ⟨ms,?_⟩
 replace B4:=q31.2.2
 replace B5:=(B5.le lc29).s q31
 refine cV 5 rfl (aK aP B5) (fun v32 h32 q32=>?_)
 obtain ⟨rfl,q32⟩:=q32
 have z32:=q32.1
 replace B5:=q32.2.2
 refine bG 6 rfl (fun _=>aC)<|bD ?_
 refine aF (ah3 6 7 8) fun r=>?_
 refine hw_rr ?_
 replace B4:=B4.s q32
 refine aQ rfl (.cons (bT B4) (.cons (bT B5) (.cons aU .nil))) ?_
 have hr:=tJ hw g32
 replace le:=((le.t lc29).s q31).s q32
 replace k0:=((k0.le lc29).st q31 mB4).st q32 mB5
 replace k29_1:=(k29_1.st q31 mB4).st q32 mB5
 exact ⟨_,_,by first | rfl | (rw [hr] <;> rfl),le,(k0.wk (fun x hx=>(lb13 _ (il hO6 (il hO5 (il hO4 (il hO3 (il hO2 (il hO1 hx))))))))).cast (by first | rfl | (rw [hr] <;> rfl)),(k29_1.wk (fun x hx=>(lb13 _ (il hO6 (il hO5 (il hO4 (il hO3 (il hO2 (il hO1 hx))))))))).cast (by first | rfl | (rw [hr] <;> rfl))⟩
 refine aM ?_
 refine hw_sr (aB (y_loadB B1 0 _)<|aB (y_loadB B6 0 _)<|aB (y_loadB B11 0 _)<|?_)
 replace OB0:=lo13
 replace k0:=((k0.le lc8).st q10 (ir hO6)).lp lp13 la13
 replace k8_1:=(k8_1.st q10 (ir hO6)).lp lp13 la13
 refine bL aG (xA (v:=v) (w:=(workNew v)) (x:=((bQ (cE v (workNew v)) a).1)) k0 k8_1 OB0) (fun v33 h33 q33=>?_)
 obtain ⟨s33_1,rfl,lc33,k33_1⟩:=q33
 have z33:=lc33.1
 obtain ⟨A34,n34,c34,rfl⟩:=k33_1.frm
 refine aB y_move<|aB aL<|aB aL<|bE aY (fun v35 h35 q35=>?_)
 obtain ⟨b35,O35,rfl,eb35,sb35,lb35,B35,hO35⟩:=q35.ox OL13
 refine bO (aK aP B35) (fun v36 h36 q36=>?_)
 obtain ⟨rfl,q36⟩:=q36
 have z36:=q36.1
 replace B35:=q36.2.2
 refine aB aC<|aD ?_
 refine aF (ah6 3 4 6 7 12 13) fun r=>?_
 refine aI ?_
 refine hw_sr (aB y_move<|aB fS<|aD ?_)
 refine fH (fun g45=>?_) (fun g45=>?_)
 refine aI ?_
 replace k0:=((k0.le lc33).nb lb35 hO35 eb35).st q36 (ir hO35)
 have Rk0:=k0
 replace k1:=((((((((((((k1.nb lb1 hO1 eb1).nb lb2 hO2 eb2).nb lb3 hO3 eb3).nb lb4 hO4 eb4).nb lb5 hO5 eb5).nb lb6 hO6 eb6).st q7 (ir hO6)).le lc8).st q10 (ir hO6)).lp lp13 la13).le lc33).nb lb35 hO35 eb35).st q36 (ir hO35)
 have Rk1:=k1
 obtain ⟨S37,hS37⟩:=mkO (fun b=>h36.size ≤ b ∨ b = b4)
 replace mR37:Mod S37 h36 h36:=Mod.refl _
 have hd37:∀ b,b < h36.size∧¬ O35 b → ¬ S37 b:=fun b hb hs=>(fun hs=>hs.elim (fun hs=>absurd hb.1 (Nat.not_lt.2 hs)) (fun hs=>hb.2 (hs ▸ (il hO35 mB4)))) ((hS37 b).1 hs)
 replace B1:=((B1.le lc33).le lb35).s q36
 replace B2:=((B2.le lc33).le lb35).s q36
 refine bH 7 S37 bC (ha2_y 0 rfl (fun _ mm=>(y_loadB (Blk.mod B1 mm (fun hs=>by rcases (hS37 _).1 hs with hs | hs <;> first | omega)) 0 _))<|ha2_y 1 rfl (fun _ mm=>(y_loadB (Blk.mod B2 mm (fun hs=>by rcases (hS37 _).1 hs with hs | hs <;> first | omega)) 0 _))<|ha2_p 3 rfl (fun _=>y_move)<|?_)
 replace OB0:=((OB0.leO lc33.1).newB sb35 hO35 eb35).leO (Nat.le_of_eq q36.1.symm)
 refine aW 2 (cC rfl aG (gY (s:=s) k1 OB0) (fun v38 h38 q38=>?_))
 obtain ⟨s38_1,rfl,lc38,k38_1⟩:=q38
 have z38:=lc38.1
 refine ⟨Le.mod lc38,?_⟩
 obtain ⟨A39,n39,c39,rfl⟩:=k38_1.frm
 replace B4:=(((B4.le lc33).le lb35).s q36).le lc38
 refine aW 4 (cY rfl (aK aP B4) (fun v40 h40 q40=>?_))
 obtain ⟨rfl,q40⟩:=q40
 have z40:=q40.1
 have ms:=mm hS37 q40.2.1
 refine ⟨ms,?_⟩
 replace B4:=q40.2.2
 replace B5:=((((B5.le lc33).le lb35).s q36).le lc38).s q40
 refine cV 5 rfl (aK aP B5) (fun v41 h41 q41=>?_)
 obtain ⟨rfl,q41⟩:=q41
 have z41:=q41.1
 replace B5:=q41.2.2
 refine bG 6 rfl (fun _=>aC)<|bD ?_
 refine aF (ah3 6 7 8) fun r=>?_
 refine hw_rr ?_
 replace B4:=B4.s q41
 refine aQ rfl (.cons (bT B4) (.cons (bT B5) (.cons aU .nil))) ?_
 have hr:=tI hw g32 g45
 replace le:=(((((le.t lc33).t lb35).s q36).t lc38).s q40).s q41
 replace k0:=((k0.le lc38).st q40 (il hO35 mB4)).st q41 (il hO35 mB5)
 replace k38_1:=(k38_1.st q40 (il hO35 mB4)).st q41 (il hO35 mB5)
 exact ⟨_,_,by first | rfl | (rw [hr] <;> rfl),le,(k0.wk (fun x hx=>(il hO35 (lb13 _ (il hO6 (il hO5 (il hO4 (il hO3 (il hO2 (il hO1 hx)))))))))).cast (by first | rfl | (rw [hr] <;> rfl)),(k38_1.wk (fun x hx=>(il hO35 (lb13 _ (il hO6 (il hO5 (il hO4 (il hO3 (il hO2 (il hO1 hx)))))))))).cast (by first | rfl | (rw [hr] <;> rfl))⟩
 refine aM ?_
 refine aI ?_
 refine aI ?_
 replace B2:=((B2.le lc33).le lb35).s q36
 refine aE (aB y_fieldAddr<|aB (y_load (Blk.at B2 rfl rfl))<|aD ?_)
 refine bF (fun g51=>?_) (fun g51=>?_)
 refine hw_sr (aB (y_loadB B35 0 _)<|aB y_fieldAddr<|?_)
 refine bO (aK aP B2) (fun v42 h42 q42=>?_)
 obtain ⟨rfl,q42⟩:=q42
 have z42:=q42.1
 replace B2:=q42.2.2
 refine aD ?_
 refine aF (ah4 3 4 6 7) fun r=>?_
 refine aI ?_
 replace k0:=(((k0.le lc33).nb lb35 hO35 eb35).st q36 (ir hO35)).st q42 (il hO35 mB2)
 have Rk0:=k0
 replace k33_1:=((k33_1.nb lb35 hO35 eb35).st q36 (ir hO35)).st q42 (il hO35 mB2)
 have Rk33_1:=k33_1
 obtain ⟨S43,hS43⟩:=mkO (fun b=>h42.size ≤ b ∨ b = b4)
 replace mR43:Mod S43 h42 h42:=Mod.refl _
 have hd43:∀ b,b < h42.size∧¬ O35 b → ¬ S43 b:=fun b hb hs=>(fun hs=>hs.elim (fun hs=>absurd hb.1 (Nat.not_lt.2 hs)) (fun hs=>hb.2 (hs ▸ (il hO35 mB4)))) ((hS43 b).1 hs)
 replace B1:=(((B1.le lc33).le lb35).s q36).s q42
 refine bH 5 S43 bC (ha2_y 0 rfl (fun _ mm=>(y_loadB (Blk.mod B1 mm (fun hs=>by rcases (hS43 _).1 hs with hs | hs <;> first | omega)) 0 _))<|ha2_y 1 rfl (fun _ mm=>(y_loadB (Blk.mod B2 mm (fun hs=>by rcases (hS43 _).1 hs with hs | hs <;> first | omega)) 0 _))<|?_)
 replace B4:=(((B4.le lc33).le lb35).s q36).s q42
 refine aW 2 (cY rfl (aK aP B4) (fun v44 h44 q44=>?_))
 obtain ⟨rfl,q44⟩:=q44
 have z44:=q44.1
 have ms:=mm hS43 q44.2.1
 refine ⟨ms,?_⟩
 replace B4:=q44.2.2
 replace B5:=((((B5.le lc33).le lb35).s q36).s q42).s q44
 refine cV 3 rfl (aK aP B5) (fun v45 h45 q45=>?_)
 obtain ⟨rfl,q45⟩:=q45
 have z45:=q45.1
 replace B5:=q45.2.2
 refine bG 4 rfl (fun _=>aC)<|bD ?_
 refine aF (ah3 6 7 8) fun r=>?_
 refine hw_rr ?_
 replace B4:=B4.s q45
 refine aQ rfl (.cons (bT B4) (.cons (bT B5) (.cons aU .nil))) ?_
 have hr:=tH hw g32 g45 g51
 replace le:=(((((le.t lc33).t lb35).s q36).s q42).s q44).s q45
 replace k0:=(k0.st q44 (il hO35 mB4)).st q45 (il hO35 mB5)
 replace k33_1:=(k33_1.st q44 (il hO35 mB4)).st q45 (il hO35 mB5)
 exact ⟨_,_,by first | rfl | (rw [hr] <;> rfl),le,(k0.wk (fun x hx=>(il hO35 (lb13 _ (il hO6 (il hO5 (il hO4 (il hO3 (il hO2 (il hO1 hx)))))))))).cast (by first | rfl | (rw [hr] <;> rfl)),(k33_1.wk (fun x hx=>(il hO35 (lb13 _ (il hO6 (il hO5 (il hO4 (il hO3 (il hO2 (il hO1 hx)))))))))).cast (by first | rfl | (rw [hr] <;> rfl))⟩
 refine aM ?_
 refine aI ?_
 replace B1:=((B1.le lc33).le lb35).s q36
 refine aE (aB (y_loadB B1 0 _)<|aB (y_loadB B35 0 _)<|?_)
 replace k0:=((k0.le lc33).nb lb35 hO35 eb35).st q36 (ir hO35)
 replace k33_1:=(k33_1.nb lb35 hO35 eb35).st q36 (ir hO35)
 replace OB0:=((OB0.leO lc33.1).newB sb35 hO35 eb35).leO (Nat.le_of_eq q36.1.symm)
 refine bL aG (rL (v:=v) (w:=((workPut v (workNew v) ((bQ (cE v (workNew v)) a).1)).1)) k0 k33_1 OB0) (fun v46 h46 q46=>?_)
 obtain ⟨s46_1,rfl,lc46,k46_1⟩:=q46
 have z46:=lc46.1
 obtain ⟨A47,n47,c47,rfl⟩:=k46_1.frm
 refine aB y_move<|aB aL<|aB aL<|bE aY (fun v48 h48 q48=>?_)
 obtain ⟨b48,O48,rfl,eb48,sb48,lb48,B48,hO48⟩:=q48.ox O35
 refine bO (aK aP B48) (fun v49 h49 q49=>?_)
 obtain ⟨rfl,q49⟩:=q49
 have z49:=q49.1
 replace B48:=q49.2.2
 refine aB aC<|aD ?_
 refine aF (ah5 4 6 7 14 15) fun r=>?_
 refine aI ?_
 replace k1:=(((((((((((((((k1.nb lb1 hO1 eb1).nb lb2 hO2 eb2).nb lb3 hO3 eb3).nb lb4 hO4 eb4).nb lb5 hO5 eb5).nb lb6 hO6 eb6).st q7 (ir hO6)).le lc8).st q10 (ir hO6)).lp lp13 la13).le lc33).nb lb35 hO35 eb35).st q36 (ir hO35)).le lc46).nb lb48 hO48 eb48).st q49 (ir hO48)
 have Rk1:=k1
 replace k46_1:=(k46_1.nb lb48 hO48 eb48).st q49 (ir hO48)
 have Rk46_1:=k46_1
 obtain ⟨S50,hS50⟩:=mkO (fun b=>h49.size ≤ b ∨ b = b4)
 replace mR50:Mod S50 h49 h49:=Mod.refl _
 have hd50:∀ b,b < h49.size∧¬ O48 b → ¬ S50 b:=fun b hb hs=>(fun hs=>hs.elim (fun hs=>absurd hb.1 (Nat.not_lt.2 hs)) (fun hs=>hb.2 (hs ▸ (il hO48 (il hO35 mB4))))) ((hS50 b).1 hs)
 replace B2:=((B2.le lc46).le lb48).s q49
 refine bH 6 S50 bC (ha2_y 0 rfl (fun _ mm=>(y_loadB (Blk.mod B48 mm (fun hs=>by rcases (hS50 _).1 hs with hs | hs <;> first | omega)) 0 _))<|ha2_y 1 rfl (fun _ mm=>(y_loadB (Blk.mod B2 mm (fun hs=>by rcases (hS50 _).1 hs with hs | hs <;> first | omega)) 0 _))<|ha2_p 2 rfl (fun _=>y_move)<|?_)
 replace B4:=(((((B4.le lc33).le lb35).s q36).le lc46).le lb48).s q49
 refine aW 3 (cY rfl (aK aP B4) (fun v51 h51 q51=>?_))
 obtain ⟨rfl,q51⟩:=q51
 have z51:=q51.1
 have ms:=mm hS50 q51.2.1
 refine ⟨ms,?_⟩
 replace B4:=q51.2.2
 replace B5:=((((((B5.le lc33).le lb35).s q36).le lc46).le lb48).s q49).s q51
 refine cV 4 rfl (aK aP B5) (fun v52 h52 q52=>?_)
 obtain ⟨rfl,q52⟩:=q52
 have z52:=q52.1
 replace B5:=q52.2.2
 refine bG 5 rfl (fun _=>aC)<|bD ?_
 refine aF (ah3 6 7 8) fun r=>?_
 refine hw_rr ?_
 replace B4:=B4.s q52
 refine aQ rfl (.cons (bT B4) (.cons (bT B5) (.cons aU .nil))) ?_
 have hr:=tG hw g32 g45 g51
 replace le:=(((((((le.t lc33).t lb35).s q36).t lc46).t lb48).s q49).s q51).s q52
 replace k46_1:=(k46_1.st q51 (il hO48 (il hO35 mB4))).st q52 (il hO48 (il hO35 mB5))
 replace k1:=(k1.st q51 (il hO48 (il hO35 mB4))).st q52 (il hO48 (il hO35 mB5))
 exact ⟨_,_,by first | rfl | (rw [hr] <;> rfl),le,(k46_1.wk (fun x hx=>(il hO48 (il hO35 (lb13 _ (il hO6 (il hO5 (il hO4 (il hO3 (il hO2 (il hO1 hx))))))))))).cast (by first | rfl | (rw [hr] <;> rfl)),(k1.wk (fun x hx=>(il hO48 (il hO35 (lb13 _ (il hO6 (il hO5 (il hO4 (il hO3 (il hO2 (il hO1 hx))))))))))).cast (by first | rfl | (rw [hr] <;> rfl))⟩
 have hw:dL v s = s.work:=by rw [dL,g20]; rfl
 refine aM ?_
 replace OB0:=((((((OB0.newB sb1 hO1 eb1).newB sb2 hO2 eb2).newB sb3 hO3 eb3).newB sb4 hO4 eb4).newB sb5 hO5 eb5).newB sb6 hO6 eb6).leO (Nat.le_of_eq q7.1.symm)
 refine dH (fun (gx:(Nat → Prop) × Nat)=>match gx with | (OL55,b53)=>[(3,.pointer (some ⟨b1,0,none⟩)),(4,.pointer (some ⟨b2,0,none⟩)),(6,.pointer (some ⟨b4,0,none⟩)),(7,.pointer (some ⟨b5,0,none⟩)),(9,.pointer (some ⟨b6,0,none⟩)),(10,.pointer (some ⟨b53,0,none⟩)),(11,vi ((bQ (cE v s.work) a).2))]) (fun (gx:(Nat → Prop) × Nat) (h' : Heap)=>match gx with | (OL55,b53)=>Le h h' ∧ Mod O6 h7 h' ∧ (∀ x,OL55 x → O6 x ∨ h7.size ≤ x)∧(∀ x,O6 x → OL55 x)∧OB h' OL55∧Blk h' b1 [vi v.now,(.slice Ak0 nk0 ck0)] 52∧OL55 b1∧Blk h' b2 [vb s.on,vb s.bad,vi s.work.at',(.slice Ak1 nk1 ck1)] 57∧OL55 b2∧Blk h' b3 [vi a.kind,vs a.key,vs a.hi,vi a.num] 118∧OL55 b3∧Blk h' b4 [vi 0,.slice none 0 0] 52∧OL55 b4∧Blk h' b5 [vb false,vb false,vi 0,.slice none 0 0] 57∧OL55 b5∧Blk h' b6 [vi s.work.at',(.slice Ak1 nk1 ck1)] 55∧OL55 b6∧Blk h' b53 [vs (((bQ (cE v s.work) a).1).key),vi (((bQ (cE v s.work) a).1).num),vb (((bQ (cE v s.work) a).1).gone)] 107∧OL55 b53∧h7.size ≤ b53∧(SB (bQ (cE v s.work) a).1.key)) ?_ ?_
 replace lr55:=Mod.refl (S:=O6) h7
 replace lx55:∀ x,O6 x → O6 x ∨ h7.size ≤ x:=fun x hx=>.inl hx
 replace k0:=((((((k0.nb lb1 hO1 eb1).nb lb2 hO2 eb2).nb lb3 hO3 eb3).nb lb4 hO4 eb4).nb lb5 hO5 eb5).nb lb6 hO6 eb6).st q7 (ir hO6)
 have Rk0:=k0
 replace k1:=((((((k1.nb lb1 hO1 eb1).nb lb2 hO2 eb2).nb lb3 hO3 eb3).nb lb4 hO4 eb4).nb lb5 hO5 eb5).nb lb6 hO6 eb6).st q7 (ir hO6)
 have Rk1:=k1
 obtain ⟨S56,hS56⟩:=mkO (fun b=>h7.size ≤ b)
 replace mR56:Mod S56 h7 h7:=Mod.refl _
 have hd56:∀ b,b < h7.size∧¬ O6 b → ¬ S56 b:=fun b hb hs=>(fun hs=>absurd hb.1 (Nat.not_lt.2 hs)) ((hS56 b).1 hs)
 replace B1:=(((((B1.le lb2).le lb3).le lb4).le lb5).le lb6).s q7
 replace B3:=(((B3.le lb4).le lb5).le lb6).s q7
 refine bH 11 S56 bC (ha2_y 0 rfl (fun _ mm=>(y_loadB (Blk.mod B1 mm (fun hs=>by rcases (hS56 _).1 hs with hs <;> first | omega)) 0 _))<|ha2_y 1 rfl (fun _ mm=>(y_loadB (Blk.mod B6 mm (fun hs=>by rcases (hS56 _).1 hs with hs <;> first | omega)) 0 _))<|ha2_y 3 rfl (fun _ mm=>(y_loadB (Blk.mod B3 mm (fun hs=>by rcases (hS56 _).1 hs with hs <;> first | omega)) 0 _))<|?_)
 refine dU 2 8 ?_ ?_
 refine cC rfl aG (lI (v:=v) (w:=s.work) k0 k1 OB0) (fun v57 h57 q57=>?_)
 obtain ⟨lc57,k57_1⟩:=q57
 have z57:=lc57.1
 refine ⟨Le.mod lc57,?_⟩
 obtain ⟨A58,n58,c58,rfl⟩:=k57_1.frm
 refine dU 4 8 ?_ ?_
 replace OB0:=OB0.leO lc57.1
 refine cC rfl aG (kW (a:=a) k57_1 OB0) (fun v59 h59 q59=>?_)
 obtain ⟨rfl,lc59,pr59⟩:=q59
 have z59:=lc59.1
 refine ⟨Le.mod lc59,?_⟩
 refine ha2_p 5 rfl (fun _=>y_move)<|ha2_p 6 rfl (fun _=>aL)<|ha2_p 7 rfl (fun _=>aL)<|?_
 refine aW 8 (cB rfl aY (fun v60 h60 q60=>?_))
 obtain ⟨b60,O60,rfl,eb60,sb60,lb60,B60,hO60⟩:=q60.ox O6
 refine ⟨Le.mod lb60,?_⟩
 replace lx55:=laB lx55 hO60 (by omega)
 refine cV 9 rfl (aK aP B60) (fun v61 h61 q61=>?_)
 obtain ⟨rfl,q61⟩:=q61
 have z61:=q61.1
 replace B60:=q61.2.2
 refine bG 10 rfl (fun _=>aC)<|bD ?_
 replace le:=((((((((((le.t lb1).t lb2).t lb3).t lb4).t lb5).t lb6).s q7).t lc57).t lc59).t lb60).s q61
 replace B4:=((((((B4.le lb5).le lb6).s q7).le lc57).le lc59).le lb60).s q61
 replace B5:=(((((B5.le lb6).s q7).le lc57).le lc59).le lb60).s q61
 replace B1:=(((B1.le lc57).le lc59).le lb60).s q61
 replace B2:=(((B2.le lc57).le lc59).le lb60).s q61
 replace B3:=(((B3.le lc57).le lc59).le lb60).s q61
 replace B6:=(((B6.le lc57).le lc59).le lb60).s q61
 replace lr55:=(((lr55.tl lc57).tl lc59).tl lb60).s q61
 replace OB0:=((OB0.leO lc59.1).newB sb60 hO60 eb60).leO (Nat.le_of_eq q61.1.symm)
 exact ⟨(O60,b60),ag7,⟨le,lr55,lx55,fun x hx=>(il hO60 hx),OB0,B1,(il hO60 (il hO6 (il hO5 (il hO4 (il hO3 (il hO2 (ir hO1))))))),B2,(il hO60 (il hO6 (il hO5 (il hO4 (il hO3 (ir hO2)))))),B3,(il hO60 (il hO6 (il hO5 (il hO4 (ir hO3))))),B4,(il hO60 (il hO6 (il hO5 (ir hO4)))),B5,(il hO60 (il hO6 (ir hO5))),B6,(il hO60 (ir hO6)),B60,(ir hO60),by omega,pr59⟩⟩
 refine cB rfl aY (fun v62 h62 q62=>?_)
 obtain ⟨b62,O62,rfl,eb62,sb62,lb62,B62,hO62⟩:=q62.ox O6
 refine ⟨Le.mod lb62,?_⟩
 replace lx55:=laB lx55 hO62 (by omega)
 refine aW 4 (?_)
 replace k57_1:=k57_1.nb lb62 hO62 eb62
 replace OB0:=(OB0.leO lc57.1).newB sb62 hO62 eb62
 refine cC rfl aG (kW (a:=a) k57_1 OB0) (fun v63 h63 q63=>?_)
 obtain ⟨rfl,lc63,pr63⟩:=q63
 have z63:=lc63.1
 refine ⟨Le.mod lc63,?_⟩
 replace B62:=B62.le lc63
 refine bG 5 rfl (fun _=>y_move)<|bG 6 rfl (fun _=>aL)<|bG 7 rfl (fun _=>aL)<|cV 9 rfl (aK aP B62) (fun v64 h64 q64=>?_)
 obtain ⟨rfl,q64⟩:=q64
 have z64:=q64.1
 replace B62:=q64.2.2
 refine bG 10 rfl (fun _=>aC)<|bD ?_
 replace le:=((((((((((le.t lb1).t lb2).t lb3).t lb4).t lb5).t lb6).s q7).t lc57).t lb62).t lc63).s q64
 replace B4:=((((((B4.le lb5).le lb6).s q7).le lc57).le lb62).le lc63).s q64
 replace B5:=(((((B5.le lb6).s q7).le lc57).le lb62).le lc63).s q64
 replace B1:=(((B1.le lc57).le lb62).le lc63).s q64
 replace B2:=(((B2.le lc57).le lb62).le lc63).s q64
 replace B3:=(((B3.le lc57).le lb62).le lc63).s q64
 replace B6:=(((B6.le lc57).le lb62).le lc63).s q64
 replace lr55:=(((lr55.tl lc57).tl lb62).tl lc63).s q64
 replace OB0:=OB0.leO (h':=h64) (by omega)
 exact ⟨(O62,b62),ag7,⟨le,lr55,lx55,fun x hx=>(il hO62 hx),OB0,B1,(il hO62 (il hO6 (il hO5 (il hO4 (il hO3 (il hO2 (ir hO1))))))),B2,(il hO62 (il hO6 (il hO5 (il hO4 (il hO3 (ir hO2)))))),B3,(il hO62 (il hO6 (il hO5 (il hO4 (ir hO3))))),B4,(il hO62 (il hO6 (il hO5 (ir hO4)))),B5,(il hO62 (il hO6 (ir hO5))),B6,(il hO62 (ir hO6)),B62,(ir hO62),by omega,pr63⟩⟩
 refine cB rfl aY (fun v65 h65 q65=>?_)
 obtain ⟨b65,O65,rfl,eb65,sb65,lb65,B65,hO65⟩:=q65.ox O6
 refine ⟨Le.mod lb65,?_⟩
 replace lx55:=laB lx55 hO65 (by omega)
 refine aW 2 (?_)
 replace k0:=k0.nb lb65 hO65 eb65
 replace k1:=k1.nb lb65 hO65 eb65
 replace OB0:=OB0.newB sb65 hO65 eb65
 refine cC rfl aG (lI (v:=v) (w:=s.work) k0 k1 OB0) (fun v66 h66 q66=>?_)
 obtain ⟨lc66,k66_1⟩:=q66
 have z66:=lc66.1
 refine ⟨Le.mod lc66,?_⟩
 obtain ⟨A67,n67,c67,rfl⟩:=k66_1.frm
 refine aW 4 (?_)
 replace OB0:=OB0.leO lc66.1
 refine cC rfl aG (kW (a:=a) k66_1 OB0) (fun v68 h68 q68=>?_)
 obtain ⟨rfl,lc68,pr68⟩:=q68
 have z68:=lc68.1
 refine ⟨Le.mod lc68,?_⟩
 replace B65:=(B65.le lc66).le lc68
 refine bG 5 rfl (fun _=>y_move)<|bG 6 rfl (fun _=>aL)<|bG 7 rfl (fun _=>aL)<|cV 9 rfl (aK aP B65) (fun v69 h69 q69=>?_)
 obtain ⟨rfl,q69⟩:=q69
 have z69:=q69.1
 replace B65:=q69.2.2
 refine bG 10 rfl (fun _=>aC)<|bD ?_
 replace le:=((((((((((le.t lb1).t lb2).t lb3).t lb4).t lb5).t lb6).s q7).t lb65).t lc66).t lc68).s q69
 replace B4:=((((((B4.le lb5).le lb6).s q7).le lb65).le lc66).le lc68).s q69
 replace B5:=(((((B5.le lb6).s q7).le lb65).le lc66).le lc68).s q69
 replace B1:=(((B1.le lb65).le lc66).le lc68).s q69
 replace B2:=(((B2.le lb65).le lc66).le lc68).s q69
 replace B3:=(((B3.le lb65).le lc66).le lc68).s q69
 replace B6:=(((B6.le lb65).le lc66).le lc68).s q69
 replace lr55:=(((lr55.tl lb65).tl lc66).tl lc68).s q69
 replace OB0:=OB0.leO (h':=h69) (by omega)
 exact ⟨(O65,b65),ag7,⟨le,lr55,lx55,fun x hx=>(il hO65 hx),OB0,B1,(il hO65 (il hO6 (il hO5 (il hO4 (il hO3 (il hO2 (ir hO1))))))),B2,(il hO65 (il hO6 (il hO5 (il hO4 (il hO3 (ir hO2)))))),B3,(il hO65 (il hO6 (il hO5 (il hO4 (ir hO3))))),B4,(il hO65 (il hO6 (il hO5 (ir hO4)))),B5,(il hO65 (il hO6 (ir hO5))),B6,(il hO65 (ir hO6)),B65,(ir hO65),by omega,pr68⟩⟩
 replace le:=((((((le.t lb1).t lb2).t lb3).t lb4).t lb5).t lb6).s q7
 replace B1:=(((((B1.le lb2).le lb3).le lb4).le lb5).le lb6).s q7
 replace B3:=(((B3.le lb4).le lb5).le lb6).s q7
 replace B4:=((B4.le lb5).le lb6).s q7
 replace B5:=(B5.le lb6).s q7
 rintro ⟨OL55,b53⟩ r hl55 ⟨le,lp55,la55,lb55,lo55,B1,mB1,B2,mB2,B3,mB3,B4,mB4,B5,mB5,B6,mB6,B53,mB53,nbl53,jp54⟩
 have nbu53:=B53.lt
 have zl55:=lp55.1
 refine aI ?_
 refine hw_sr (aB y_move<|aB fS<|aD ?_)
 refine fH (fun g32=>?_) (fun g32=>?_)
 refine aI ?_
 replace OB0:=lo55
 replace k0:=(((((((k0.nb lb1 hO1 eb1).nb lb2 hO2 eb2).nb lb3 hO3 eb3).nb lb4 hO4 eb4).nb lb5 hO5 eb5).nb lb6 hO6 eb6).st q7 (ir hO6)).lp lp55 la55
 have Rk0:=k0
 replace k1:=(((((((k1.nb lb1 hO1 eb1).nb lb2 hO2 eb2).nb lb3 hO3 eb3).nb lb4 hO4 eb4).nb lb5 hO5 eb5).nb lb6 hO6 eb6).st q7 (ir hO6)).lp lp55 la55
 have Rk1:=k1
 obtain ⟨S70,hS70⟩:=mkO (fun b=>hl55.size ≤ b ∨ b = b4)
 replace mR70:Mod S70 hl55 hl55:=Mod.refl _
 have hd70:∀ b,b < hl55.size∧¬ OL55 b → ¬ S70 b:=fun b hb hs=>(fun hs=>hs.elim (fun hs=>absurd hb.1 (Nat.not_lt.2 hs)) (fun hs=>hb.2 (hs ▸ mB4))) ((hS70 b).1 hs)
 refine bH 7 S70 bC (ha2_y 0 rfl (fun _ mm=>(y_loadB (Blk.mod B1 mm (fun hs=>by rcases (hS70 _).1 hs with hs | hs <;> first | omega)) 0 _))<|ha2_y 1 rfl (fun _ mm=>(y_loadB (Blk.mod B2 mm (fun hs=>by rcases (hS70 _).1 hs with hs | hs <;> first | omega)) 0 _))<|ha2_p 3 rfl (fun _=>y_move)<|?_)
 refine aW 2 (cC rfl aG (gY (s:=s) k1 OB0) (fun v71 h71 q71=>?_))
 obtain ⟨s71_1,rfl,lc71,k71_1⟩:=q71
 have z71:=lc71.1
 refine ⟨Le.mod lc71,?_⟩
 obtain ⟨A72,n72,c72,rfl⟩:=k71_1.frm
 replace B4:=B4.le lc71
 refine aW 4 (cY rfl (aK aP B4) (fun v73 h73 q73=>?_))
 obtain ⟨rfl,q73⟩:=q73
 have z73:=q73.1
 have ms:=mm hS70 q73.2.1
 refine ⟨ms,?_⟩
 replace B4:=q73.2.2
 replace B5:=(B5.le lc71).s q73
 refine cV 5 rfl (aK aP B5) (fun v74 h74 q74=>?_)
 obtain ⟨rfl,q74⟩:=q74
 have z74:=q74.1
 replace B5:=q74.2.2
 refine bG 6 rfl (fun _=>aC)<|bD ?_
 refine aF (ah3 6 7 8) fun r=>?_
 refine hw_rr ?_
 replace B4:=B4.s q74
 refine aQ rfl (.cons (bT B4) (.cons (bT B5) (.cons aU .nil))) ?_
 have hr:=tJ hw g32
 replace le:=((le.t lc71).s q73).s q74
 replace k0:=((k0.le lc71).st q73 mB4).st q74 mB5
 replace k71_1:=(k71_1.st q73 mB4).st q74 mB5
 exact ⟨_,_,by first | rfl | (rw [hr] <;> rfl),le,(k0.wk (fun x hx=>(lb55 _ (il hO6 (il hO5 (il hO4 (il hO3 (il hO2 (il hO1 hx))))))))).cast (by first | rfl | (rw [hr] <;> rfl)),(k71_1.wk (fun x hx=>(lb55 _ (il hO6 (il hO5 (il hO4 (il hO3 (il hO2 (il hO1 hx))))))))).cast (by first | rfl | (rw [hr] <;> rfl))⟩
 refine aM ?_
 refine hw_sr (aB (y_loadB B1 0 _)<|aB (y_loadB B6 0 _)<|aB (y_loadB B53 0 _)<|?_)
 replace OB0:=lo55
 replace k0:=(((((((k0.nb lb1 hO1 eb1).nb lb2 hO2 eb2).nb lb3 hO3 eb3).nb lb4 hO4 eb4).nb lb5 hO5 eb5).nb lb6 hO6 eb6).st q7 (ir hO6)).lp lp55 la55
 replace k1:=(((((((k1.nb lb1 hO1 eb1).nb lb2 hO2 eb2).nb lb3 hO3 eb3).nb lb4 hO4 eb4).nb lb5 hO5 eb5).nb lb6 hO6 eb6).st q7 (ir hO6)).lp lp55 la55
 refine bL aG (xA (v:=v) (w:=s.work) (x:=((bQ (cE v s.work) a).1)) k0 k1 OB0) (fun v75 h75 q75=>?_)
 obtain ⟨s75_1,rfl,lc75,k75_1⟩:=q75
 have z75:=lc75.1
 obtain ⟨A76,n76,c76,rfl⟩:=k75_1.frm
 refine aB y_move<|aB aL<|aB aL<|bE aY (fun v77 h77 q77=>?_)
 obtain ⟨b77,O77,rfl,eb77,sb77,lb77,B77,hO77⟩:=q77.ox OL55
 refine bO (aK aP B77) (fun v78 h78 q78=>?_)
 obtain ⟨rfl,q78⟩:=q78
 have z78:=q78.1
 replace B77:=q78.2.2
 refine aB aC<|aD ?_
 refine aF (ah6 3 4 6 7 12 13) fun r=>?_
 refine aI ?_
 refine hw_sr (aB y_move<|aB fS<|aD ?_)
 refine fH (fun g45=>?_) (fun g45=>?_)
 refine aI ?_
 replace k0:=((k0.le lc75).nb lb77 hO77 eb77).st q78 (ir hO77)
 have Rk0:=k0
 replace k1:=((k1.le lc75).nb lb77 hO77 eb77).st q78 (ir hO77)
 have Rk1:=k1
 obtain ⟨S79,hS79⟩:=mkO (fun b=>h78.size ≤ b ∨ b = b4)
 replace mR79:Mod S79 h78 h78:=Mod.refl _
 have hd79:∀ b,b < h78.size∧¬ O77 b → ¬ S79 b:=fun b hb hs=>(fun hs=>hs.elim (fun hs=>absurd hb.1 (Nat.not_lt.2 hs)) (fun hs=>hb.2 (hs ▸ (il hO77 mB4)))) ((hS79 b).1 hs)
 replace B1:=((B1.le lc75).le lb77).s q78
 replace B2:=((B2.le lc75).le lb77).s q78
 refine bH 7 S79 bC (ha2_y 0 rfl (fun _ mm=>(y_loadB (Blk.mod B1 mm (fun hs=>by rcases (hS79 _).1 hs with hs | hs <;> first | omega)) 0 _))<|ha2_y 1 rfl (fun _ mm=>(y_loadB (Blk.mod B2 mm (fun hs=>by rcases (hS79 _).1 hs with hs | hs <;> first | omega)) 0 _))<|ha2_p 3 rfl (fun _=>y_move)<|?_)
 replace OB0:=((OB0.leO lc75.1).newB sb77 hO77 eb77).leO (Nat.le_of_eq q78.1.symm)
 refine aW 2 (cC rfl aG (gY (s:=s) k1 OB0) (fun v80 h80 q80=>?_))
 obtain ⟨s80_1,rfl,lc80,k80_1⟩:=q80
 have z80:=lc80.1
 refine ⟨Le.mod lc80,?_⟩
 obtain ⟨A81,n81,c81,rfl⟩:=k80_1.frm
 replace B4:=(((B4.le lc75).le lb77).s q78).le lc80
 refine aW 4 (cY rfl (aK aP B4) (fun v82 h82 q82=>?_))
 obtain ⟨rfl,q82⟩:=q82
 have z82:=q82.1
 have ms:=mm hS79 q82.2.1
 refine ⟨ms,?_⟩
 replace B4:=q82.2.2
 replace B5:=((((B5.le lc75).le lb77).s q78).le lc80).s q82
 refine cV 5 rfl (aK aP B5) (fun v83 h83 q83=>?_)
 obtain ⟨rfl,q83⟩:=q83
 have z83:=q83.1
 replace B5:=q83.2.2
 refine bG 6 rfl (fun _=>aC)<|bD ?_
 refine aF (ah3 6 7 8) fun r=>?_
 refine hw_rr ?_
 replace B4:=B4.s q83
 refine aQ rfl (.cons (bT B4) (.cons (bT B5) (.cons aU .nil))) ?_
 have hr:=tI hw g32 g45
 replace le:=(((((le.t lc75).t lb77).s q78).t lc80).s q82).s q83
 replace k0:=((k0.le lc80).st q82 (il hO77 mB4)).st q83 (il hO77 mB5)
 replace k80_1:=(k80_1.st q82 (il hO77 mB4)).st q83 (il hO77 mB5)
 exact ⟨_,_,by first | rfl | (rw [hr] <;> rfl),le,(k0.wk (fun x hx=>(il hO77 (lb55 _ (il hO6 (il hO5 (il hO4 (il hO3 (il hO2 (il hO1 hx)))))))))).cast (by first | rfl | (rw [hr] <;> rfl)),(k80_1.wk (fun x hx=>(il hO77 (lb55 _ (il hO6 (il hO5 (il hO4 (il hO3 (il hO2 (il hO1 hx)))))))))).cast (by first | rfl | (rw [hr] <;> rfl))⟩
 refine aM ?_
 refine aI ?_
 refine aI ?_
 replace B2:=((B2.le lc75).le lb77).s q78
 refine aE (aB y_fieldAddr<|aB (y_load (Blk.at B2 rfl rfl))<|aD ?_)
 refine bF (fun g51=>?_) (fun g51=>?_)
 refine hw_sr (aB (y_loadB B77 0 _)<|aB y_fieldAddr<|?_)
 refine bO (aK aP B2) (fun v84 h84 q84=>?_)
 obtain ⟨rfl,q84⟩:=q84
 have z84:=q84.1
 replace B2:=q84.2.2
 refine aD ?_
 refine aF (ah4 3 4 6 7) fun r=>?_
 refine aI ?_
 replace k0:=(((k0.le lc75).nb lb77 hO77 eb77).st q78 (ir hO77)).st q84 (il hO77 mB2)
 have Rk0:=k0
 replace k75_1:=((k75_1.nb lb77 hO77 eb77).st q78 (ir hO77)).st q84 (il hO77 mB2)
 have Rk75_1:=k75_1
 obtain ⟨S85,hS85⟩:=mkO (fun b=>h84.size ≤ b ∨ b = b4)
 replace mR85:Mod S85 h84 h84:=Mod.refl _
 have hd85:∀ b,b < h84.size∧¬ O77 b → ¬ S85 b:=fun b hb hs=>(fun hs=>hs.elim (fun hs=>absurd hb.1 (Nat.not_lt.2 hs)) (fun hs=>hb.2 (hs ▸ (il hO77 mB4)))) ((hS85 b).1 hs)
 replace B1:=(((B1.le lc75).le lb77).s q78).s q84
 refine bH 5 S85 bC (ha2_y 0 rfl (fun _ mm=>(y_loadB (Blk.mod B1 mm (fun hs=>by rcases (hS85 _).1 hs with hs | hs <;> first | omega)) 0 _))<|ha2_y 1 rfl (fun _ mm=>(y_loadB (Blk.mod B2 mm (fun hs=>by rcases (hS85 _).1 hs with hs | hs <;> first | omega)) 0 _))<|?_)
 replace B4:=(((B4.le lc75).le lb77).s q78).s q84
 refine aW 2 (cY rfl (aK aP B4) (fun v86 h86 q86=>?_))
 obtain ⟨rfl,q86⟩:=q86
 have z86:=q86.1
 have ms:=mm hS85 q86.2.1
 refine ⟨ms,?_⟩
 replace B4:=q86.2.2
 replace B5:=((((B5.le lc75).le lb77).s q78).s q84).s q86
 refine cV 3 rfl (aK aP B5) (fun v87 h87 q87=>?_)
 obtain ⟨rfl,q87⟩:=q87
 have z87:=q87.1
 replace B5:=q87.2.2
 refine bG 4 rfl (fun _=>aC)<|bD ?_
 refine aF (ah3 6 7 8) fun r=>?_
 refine hw_rr ?_
 replace B4:=B4.s q87
 refine aQ rfl (.cons (bT B4) (.cons (bT B5) (.cons aU .nil))) ?_
 have hr:=tH hw g32 g45 g51
 replace le:=(((((le.t lc75).t lb77).s q78).s q84).s q86).s q87
 replace k0:=(k0.st q86 (il hO77 mB4)).st q87 (il hO77 mB5)
 replace k75_1:=(k75_1.st q86 (il hO77 mB4)).st q87 (il hO77 mB5)
 exact ⟨_,_,by first | rfl | (rw [hr] <;> rfl),le,(k0.wk (fun x hx=>(il hO77 (lb55 _ (il hO6 (il hO5 (il hO4 (il hO3 (il hO2 (il hO1 hx)))))))))).cast (by first | rfl | (rw [hr] <;> rfl)),(k75_1.wk (fun x hx=>(il hO77 (lb55 _ (il hO6 (il hO5 (il hO4 (il hO3 (il hO2 (il hO1 hx)))))))))).cast (by first | rfl | (rw [hr] <;> rfl))⟩
 refine aM ?_
 refine aI ?_
 replace B1:=((B1.le lc75).le lb77).s q78
 refine aE (aB (y_loadB B1 0 _)<|aB (y_loadB B77 0 _)<|?_)
 replace k0:=((k0.le lc75).nb lb77 hO77 eb77).st q78 (ir hO77)
 replace k75_1:=(k75_1.nb lb77 hO77 eb77).st q78 (ir hO77)
 replace OB0:=((OB0.leO lc75.1).newB sb77 hO77 eb77).leO (Nat.le_of_eq q78.1.symm)
 refine bL aG (rL (v:=v) (w:=((workPut v s.work ((bQ (cE v s.work) a).1)).1)) k0 k75_1 OB0) (fun v88 h88 q88=>?_)
 obtain ⟨s88_1,rfl,lc88,k88_1⟩:=q88
 have z88:=lc88.1
 obtain ⟨A89,n89,c89,rfl⟩:=k88_1.frm
 refine aB y_move<|aB aL<|aB aL<|bE aY (fun v90 h90 q90=>?_)
 obtain ⟨b90,O90,rfl,eb90,sb90,lb90,B90,hO90⟩:=q90.ox O77
 refine bO (aK aP B90) (fun v91 h91 q91=>?_)
 obtain ⟨rfl,q91⟩:=q91
 have z91:=q91.1
 replace B90:=q91.2.2
 refine aB aC<|aD ?_
 refine aF (ah5 4 6 7 14 15) fun r=>?_
 refine aI ?_
 replace k1:=(((((k1.le lc75).nb lb77 hO77 eb77).st q78 (ir hO77)).le lc88).nb lb90 hO90 eb90).st q91 (ir hO90)
 have Rk1:=k1
 replace k88_1:=(k88_1.nb lb90 hO90 eb90).st q91 (ir hO90)
 have Rk88_1:=k88_1
 obtain ⟨S92,hS92⟩:=mkO (fun b=>h91.size ≤ b ∨ b = b4)
 replace mR92:Mod S92 h91 h91:=Mod.refl _
 have hd92:∀ b,b < h91.size∧¬ O90 b → ¬ S92 b:=fun b hb hs=>(fun hs=>hs.elim (fun hs=>absurd hb.1 (Nat.not_lt.2 hs)) (fun hs=>hb.2 (hs ▸ (il hO90 (il hO77 mB4))))) ((hS92 b).1 hs)
 replace B2:=((B2.le lc88).le lb90).s q91
 refine bH 6 S92 bC (ha2_y 0 rfl (fun _ mm=>(y_loadB (Blk.mod B90 mm (fun hs=>by rcases (hS92 _).1 hs with hs | hs <;> first | omega)) 0 _))<|ha2_y 1 rfl (fun _ mm=>(y_loadB (Blk.mod B2 mm (fun hs=>by rcases (hS92 _).1 hs with hs | hs <;> first | omega)) 0 _))<|ha2_p 2 rfl (fun _=>y_move)<|?_)
 replace B4:=(((((B4.le lc75).le lb77).s q78).le lc88).le lb90).s q91
 refine aW 3 (cY rfl (aK aP B4) (fun v93 h93 q93=>?_))
 obtain ⟨rfl,q93⟩:=q93
 have z93:=q93.1
 have ms:=mm hS92 q93.2.1
 refine ⟨ms,?_⟩
 replace B4:=q93.2.2
 replace B5:=((((((B5.le lc75).le lb77).s q78).le lc88).le lb90).s q91).s q93
 refine cV 4 rfl (aK aP B5) (fun v94 h94 q94=>?_)
 obtain ⟨rfl,q94⟩:=q94
 have z94:=q94.1
 replace B5:=q94.2.2
 refine bG 5 rfl (fun _=>aC)<|bD ?_
 refine aF (ah3 6 7 8) fun r=>?_
 refine hw_rr ?_
 replace B4:=B4.s q94
 refine aQ rfl (.cons (bT B4) (.cons (bT B5) (.cons aU .nil))) ?_
 have hr:=tG hw g32 g45 g51
 replace le:=(((((((le.t lc75).t lb77).s q78).t lc88).t lb90).s q91).s q93).s q94
 replace k88_1:=(k88_1.st q93 (il hO90 (il hO77 mB4))).st q94 (il hO90 (il hO77 mB5))
 replace k1:=(k1.st q93 (il hO90 (il hO77 mB4))).st q94 (il hO90 (il hO77 mB5))
 exact ⟨_,_,by first | rfl | (rw [hr] <;> rfl),le,(k88_1.wk (fun x hx=>(il hO90 (il hO77 (lb55 _ (il hO6 (il hO5 (il hO4 (il hO3 (il hO2 (il hO1 hx))))))))))).cast (by first | rfl | (rw [hr] <;> rfl)),(k1.wk (fun x hx=>(il hO90 (il hO77 (lb55 _ (il hO6 (il hO5 (il hO4 (il hO3 (il hO2 (il hO1 hx))))))))))).cast (by first | rfl | (rw [hr] <;> rfl))⟩
set_option maxHeartbeats 1000000 in
theorem aC3 {w0:World} {h:Heap} {O:Nat → Prop} {v:cD} {k0v:Value} {s:iX} {k1v:Value} {kind:Int} (k0:Rs h O k0v v.list) (k1:Rs h O k1v s.work.writes) (OB0:OB h O)  : HC (XM PP) w0 107 [.agg #[vi v.now,k0v],.agg #[vb s.on,vb s.bad,vi s.work.at',k1v],vi kind].toArray h (fun rv h'=>∃ (s1 s2:Value),rv = .tuple #[.agg #[vi (((seatEnds v s kind).1).now),s1],.agg #[vb (((seatEnds v s kind).2.1).on),vb (((seatEnds v s kind).2.1).bad),vi (((seatEnds v s kind).2.1).work.at'),s2],vi ((seatEnds v s kind).2.2)]∧Le h h' ∧ Rs h' O s1 (((seatEnds v s kind).1).list)∧Rs h' O s2 (((seatEnds v s kind).2.1).work.writes)):=by
 obtain ⟨Ak0,nk0,ck0,rfl⟩:=k0.frm
 obtain ⟨Ak1,nk1,ck1,rfl⟩:=k1.frm
 have le:=Le.refl h
 have OBe:=OB0
 refine aV 39 [(0,.agg #[vi v.now,(.slice Ak0 nk0 ck0)]),(1,.agg #[vb s.on,vb s.bad,vi s.work.at',(.slice Ak1 nk1 ck1)]),(2,vi kind)] Tryz.func107 (fun r=>?_)
 refine hw_sr (bE cW (fun v1 h1 q1=>?_))
 obtain ⟨b1,O1,rfl,eb1,sb1,lb1,B1,hO1⟩:=q1.ox O
 refine bE cW (fun v2 h2 q2=>?_)
 obtain ⟨b2,O2,rfl,eb2,sb2,lb2,B2,hO2⟩:=q2.ox O1
 refine bE aY (fun v3 h3 q3=>?_)
 obtain ⟨b3,O3,rfl,eb3,sb3,lb3,B3,hO3⟩:=q3.ox O2
 refine bE aY (fun v4 h4 q4=>?_)
 obtain ⟨b4,O4,rfl,eb4,sb4,lb4,B4,hO4⟩:=q4.ox O3
 refine aB aC<|aD ?_
 refine aF (ah5 2 3 4 6 7) fun r=>?_
 refine hw_sr (aB (y_build rfl rfl)<|bE aY (fun v5 h5 q5=>?_))
 obtain ⟨b5,O5,rfl,eb5,sb5,lb5,B5,hO5⟩:=q5.ox O4
 refine bO (aK aP B5) (fun v6 h6 q6=>?_)
 obtain ⟨rfl,q6⟩:=q6
 have z6:=q6.1
 have B5:=q6.2.2
 refine aD ?_
 refine aI ?_
 refine aX ?_
 refine aI ?_
 replace B2:=(((B2.le lb3).le lb4).le lb5).s q6
 refine aE (aB y_fieldAddr<|aB (y_load (Blk.at B2 rfl rfl))<|aB dG<|aB aC<|aD ?_)
 refine aF (ah7 2 3 4 6 7 9 13) fun r=>?_
 refine dS (fun g13=>?_) (fun g13=>?_)
 refine aI ?_
 replace k0:=(((((k0.nb lb1 hO1 eb1).nb lb2 hO2 eb2).nb lb3 hO3 eb3).nb lb4 hO4 eb4).nb lb5 hO5 eb5).st q6 (ir hO5)
 have Rk0:=k0
 replace k1:=(((((k1.nb lb1 hO1 eb1).nb lb2 hO2 eb2).nb lb3 hO3 eb3).nb lb4 hO4 eb4).nb lb5 hO5 eb5).st q6 (ir hO5)
 have Rk1:=k1
 obtain ⟨S7,hS7⟩:=mkO (fun b=>h6.size ≤ b ∨ b = b3 ∨ b = b4)
 have mR7:Mod S7 h6 h6:=Mod.refl _
 have hd7:∀ b,b < h6.size∧¬ O5 b → ¬ S7 b:=fun b hb hs=>(fun hs=>hs.elim (fun hs=>absurd hb.1 (Nat.not_lt.2 hs)) (fun hs=>hs.elim (fun hs=>hb.2 (hs ▸ (il hO5 (il hO4 (ir hO3))))) (fun hs=>hb.2 (hs ▸ (il hO5 (ir hO4)))))) ((hS7 b).1 hs)
 replace B1:=((((B1.le lb2).le lb3).le lb4).le lb5).s q6
 refine bH 5 S7 bC (ha2_y 0 rfl (fun _ mm=>(y_loadB (Blk.mod B1 mm (fun hs=>by rcases (hS7 _).1 hs with hs | hs | hs <;> first | omega)) 0 _))<|ha2_y 1 rfl (fun _ mm=>(y_loadB (Blk.mod B2 mm (fun hs=>by rcases (hS7 _).1 hs with hs | hs | hs <;> first | omega)) 0 _))<|?_)
 replace B3:=((B3.le lb4).le lb5).s q6
 refine aW 2 (cY rfl (aK aP B3) (fun v8 h8 q8=>?_))
 obtain ⟨rfl,q8⟩:=q8
 have z8:=q8.1
 have ms:=mm hS7 q8.2.1
 refine ⟨ms,?_⟩
 have B3:=q8.2.2
 replace B4:=((B4.le lb5).s q6).s q8
 refine aW 3 (cY rfl (aK aP B4) (fun v9 h9 q9=>?_))
 obtain ⟨rfl,q9⟩:=q9
 have z9:=q9.1
 replace mR7:=mR7.t ms
 have ms:=mm hS7 q9.2.1
 refine ⟨ms,?_⟩
 have B4:=q9.2.2
 refine ha2_p 4 rfl (fun _=>aC)<|cN ?_
 refine aF (ah3 6 7 8) fun r=>?_
 refine hw_rr ?_
 replace B3:=B3.s q9
 refine aQ rfl (.cons (bT B3) (.cons (bT B4) (.cons aU .nil))) ?_
 replace le:=(((((((le.t lb1).t lb2).t lb3).t lb4).t lb5).s q6).s q8).s q9
 replace k0:=(k0.st q8 (il hO5 (il hO4 (ir hO3)))).st q9 (il hO5 (ir hO4))
 replace k1:=(k1.st q8 (il hO5 (il hO4 (ir hO3)))).st q9 (il hO5 (ir hO4))
 exact ⟨_,_,by first | rfl | (simp_all [oneOf,seatEnds,seatNone] <;> intros <;> (repeat' split) <;> (try and_intros) <;> first | rfl | omega | (simp_all; done)),le,(k0.wk (fun x hx=>(il hO5 (il hO4 (il hO3 (il hO2 (il hO1 hx))))))).cast (by first | rfl | (simp_all [oneOf,seatEnds,seatNone] <;> intros <;> (repeat' split) <;> (try and_intros) <;> first | rfl | omega | (simp_all; done))),(k1.wk (fun x hx=>(il hO5 (il hO4 (il hO3 (il hO2 (il hO1 hx))))))).cast (by first | rfl | (simp_all [oneOf,seatEnds,seatNone] <;> intros <;> (repeat' split) <;> (try and_intros) <;> first | rfl | omega | (simp_all; done)))⟩
 refine hw_sr (aB y_move<|aB bM<|aB aC<|aD ?_)
 refine aF (ah6 3 4 6 7 9 19) fun r=>?_
 refine aZ (fun g19=>?_) (fun g19=>?_)
 refine aI ?_
 replace k0:=(((((k0.nb lb1 hO1 eb1).nb lb2 hO2 eb2).nb lb3 hO3 eb3).nb lb4 hO4 eb4).nb lb5 hO5 eb5).st q6 (ir hO5)
 have Rk0:=k0
 obtain ⟨S10,hS10⟩:=mkO (fun b=>h6.size ≤ b ∨ b = b3 ∨ b = b4)
 have mR10:Mod S10 h6 h6:=Mod.refl _
 have hd10:∀ b,b < h6.size∧¬ O5 b → ¬ S10 b:=fun b hb hs=>(fun hs=>hs.elim (fun hs=>absurd hb.1 (Nat.not_lt.2 hs)) (fun hs=>hs.elim (fun hs=>hb.2 (hs ▸ (il hO5 (il hO4 (ir hO3))))) (fun hs=>hb.2 (hs ▸ (il hO5 (ir hO4)))))) ((hS10 b).1 hs)
 replace B1:=((((B1.le lb2).le lb3).le lb4).le lb5).s q6
 refine bH 5 S10 bC (ha2_y 0 rfl (fun _ mm=>(y_loadB (Blk.mod B1 mm (fun hs=>by rcases (hS10 _).1 hs with hs | hs | hs <;> first | omega)) 0 _))<|ha2_y 1 rfl (fun _ mm=>(y_loadB (Blk.mod B5 mm (fun hs=>by rcases (hS10 _).1 hs with hs | hs | hs <;> first | omega)) 0 _))<|?_)
 replace B3:=((B3.le lb4).le lb5).s q6
 refine aW 2 (cY rfl (aK aP B3) (fun v11 h11 q11=>?_))
 obtain ⟨rfl,q11⟩:=q11
 have z11:=q11.1
 have ms:=mm hS10 q11.2.1
 refine ⟨ms,?_⟩
 have B3:=q11.2.2
 replace B4:=((B4.le lb5).s q6).s q11
 refine aW 3 (cY rfl (aK aP B4) (fun v12 h12 q12=>?_))
 obtain ⟨rfl,q12⟩:=q12
 have z12:=q12.1
 replace mR10:=mR10.t ms
 have ms:=mm hS10 q12.2.1
 refine ⟨ms,?_⟩
 have B4:=q12.2.2
 refine ha2_p 4 rfl (fun _=>aC)<|cN ?_
 refine aF (ah3 6 7 8) fun r=>?_
 refine hw_rr ?_
 replace B3:=B3.s q12
 refine aQ rfl (.cons (bT B3) (.cons (bT B4) (.cons aU .nil))) ?_
 replace le:=(((((((le.t lb1).t lb2).t lb3).t lb4).t lb5).s q6).s q11).s q12
 replace k0:=(k0.st q11 (il hO5 (il hO4 (ir hO3)))).st q12 (il hO5 (ir hO4))
 exact ⟨_,_,by first | rfl | (simp_all [oneOf,seatEnds,seatNone] <;> intros <;> (repeat' split) <;> (try and_intros) <;> first | rfl | omega | (simp_all; done)),le,(k0.wk (fun x hx=>(il hO5 (il hO4 (il hO3 (il hO2 (il hO1 hx))))))).cast (by first | rfl | (simp_all [oneOf,seatEnds,seatNone] <;> intros <;> (repeat' split) <;> (try and_intros) <;> first | rfl | omega | (simp_all; done))),Rs.nil.cast (by first | rfl | (simp_all [oneOf,seatEnds,seatNone] <;> intros <;> (repeat' split) <;> (try and_intros) <;> first | rfl | omega | (simp_all; done)))⟩
 refine hw_sr (aB y_fieldAddr<|aB (y_load (Blk.at B2 rfl rfl))<|aB aC<|aD ?_)
 refine bF (fun g24=>?_) (fun g24=>?_)
 refine aI ?_
 replace k0:=(((((k0.nb lb1 hO1 eb1).nb lb2 hO2 eb2).nb lb3 hO3 eb3).nb lb4 hO4 eb4).nb lb5 hO5 eb5).st q6 (ir hO5)
 have Rk0:=k0
 obtain ⟨S13,hS13⟩:=mkO (fun b=>h6.size ≤ b ∨ b = b3 ∨ b = b4)
 have mR13:Mod S13 h6 h6:=Mod.refl _
 have hd13:∀ b,b < h6.size∧¬ O5 b → ¬ S13 b:=fun b hb hs=>(fun hs=>hs.elim (fun hs=>absurd hb.1 (Nat.not_lt.2 hs)) (fun hs=>hs.elim (fun hs=>hb.2 (hs ▸ (il hO5 (il hO4 (ir hO3))))) (fun hs=>hb.2 (hs ▸ (il hO5 (ir hO4)))))) ((hS13 b).1 hs)
 replace B1:=((((B1.le lb2).le lb3).le lb4).le lb5).s q6
 refine bH 5 S13 bC (ha2_y 0 rfl (fun _ mm=>(y_loadB (Blk.mod B1 mm (fun hs=>by rcases (hS13 _).1 hs with hs | hs | hs <;> first | omega)) 0 _))<|ha2_y 1 rfl (fun _ mm=>(y_loadB (Blk.mod B5 mm (fun hs=>by rcases (hS13 _).1 hs with hs | hs | hs <;> first | omega)) 0 _))<|?_)
 replace B3:=((B3.le lb4).le lb5).s q6
 refine aW 2 (cY rfl (aK aP B3) (fun v14 h14 q14=>?_))
 obtain ⟨rfl,q14⟩:=q14
 have z14:=q14.1
 have ms:=mm hS13 q14.2.1
 refine ⟨ms,?_⟩
 have B3:=q14.2.2
 replace B4:=((B4.le lb5).s q6).s q14
 refine aW 3 (cY rfl (aK aP B4) (fun v15 h15 q15=>?_))
 obtain ⟨rfl,q15⟩:=q15
 have z15:=q15.1
 replace mR13:=mR13.t ms
 have ms:=mm hS13 q15.2.1
 refine ⟨ms,?_⟩
 have B4:=q15.2.2
 refine ha2_p 4 rfl (fun _=>aC)<|cN ?_
 refine aF (ah3 6 7 8) fun r=>?_
 refine hw_rr ?_
 replace B3:=B3.s q15
 refine aQ rfl (.cons (bT B3) (.cons (bT B4) (.cons aU .nil))) ?_
 replace le:=(((((((le.t lb1).t lb2).t lb3).t lb4).t lb5).s q6).s q14).s q15
 replace k0:=(k0.st q14 (il hO5 (il hO4 (ir hO3)))).st q15 (il hO5 (ir hO4))
 exact ⟨_,_,by first | rfl | (simp_all [oneOf,seatEnds,seatNone] <;> intros <;> (repeat' split) <;> (try and_intros) <;> first | rfl | omega | (simp_all; done)),le,(k0.wk (fun x hx=>(il hO5 (il hO4 (il hO3 (il hO2 (il hO1 hx))))))).cast (by first | rfl | (simp_all [oneOf,seatEnds,seatNone] <;> intros <;> (repeat' split) <;> (try and_intros) <;> first | rfl | omega | (simp_all; done))),Rs.nil.cast (by first | rfl | (simp_all [oneOf,seatEnds,seatNone] <;> intros <;> (repeat' split) <;> (try and_intros) <;> first | rfl | omega | (simp_all; done)))⟩
 refine aM ?_
 refine aI ?_
 replace B1:=((((B1.le lb2).le lb3).le lb4).le lb5).s q6
 refine aE (aB (y_loadB B1 0 _)<|aB y_fieldAddr<|aB (y_loadB B2 2 _)<|?_)
 replace k0:=(((((k0.nb lb1 hO1 eb1).nb lb2 hO2 eb2).nb lb3 hO3 eb3).nb lb4 hO4 eb4).nb lb5 hO5 eb5).st q6 (ir hO5)
 replace k1:=(((((k1.nb lb1 hO1 eb1).nb lb2 hO2 eb2).nb lb3 hO3 eb3).nb lb4 hO4 eb4).nb lb5 hO5 eb5).st q6 (ir hO5)
 replace OB0:=(((((OB0.newB sb1 hO1 eb1).newB sb2 hO2 eb2).newB sb3 hO3 eb3).newB sb4 hO4 eb4).newB sb5 hO5 eb5).leO (Nat.le_of_eq q6.1.symm)
 refine bL aG (rL (v:=v) (w:=s.work) k0 k1 OB0) (fun v16 h16 q16=>?_)
 obtain ⟨s16_1,rfl,lc16,k16_1⟩:=q16
 have z16:=lc16.1
 obtain ⟨A17,n17,c17,rfl⟩:=k16_1.frm
 refine aB y_move<|aB aL<|aB aL<|bE aY (fun v18 h18 q18=>?_)
 obtain ⟨b18,O18,rfl,eb18,sb18,lb18,B18,hO18⟩:=q18.ox O5
 refine bO (aK aP B18) (fun v19 h19 q19=>?_)
 obtain ⟨rfl,q19⟩:=q19
 have z19:=q19.1
 have B18:=q19.2.2
 refine aB aC<|aD ?_
 refine aF (ah5 6 7 9 10 11) fun r=>?_
 refine aI ?_
 replace k16_1:=(k16_1.nb lb18 hO18 eb18).st q19 (ir hO18)
 have Rk16_1:=k16_1
 obtain ⟨S20,hS20⟩:=mkO (fun b=>h19.size ≤ b ∨ b = b3 ∨ b = b4)
 have mR20:Mod S20 h19 h19:=Mod.refl _
 have hd20:∀ b,b < h19.size∧¬ O18 b → ¬ S20 b:=fun b hb hs=>(fun hs=>hs.elim (fun hs=>absurd hb.1 (Nat.not_lt.2 hs)) (fun hs=>hs.elim (fun hs=>hb.2 (hs ▸ (il hO18 (il hO5 (il hO4 (ir hO3)))))) (fun hs=>hb.2 (hs ▸ (il hO18 (il hO5 (ir hO4))))))) ((hS20 b).1 hs)
 replace B5:=((B5.le lc16).le lb18).s q19
 refine bH 6 S20 bC (ha2_y 0 rfl (fun _ mm=>(y_loadB (Blk.mod B18 mm (fun hs=>by rcases (hS20 _).1 hs with hs | hs | hs <;> first | omega)) 0 _))<|ha2_y 1 rfl (fun _ mm=>(y_loadB (Blk.mod B5 mm (fun hs=>by rcases (hS20 _).1 hs with hs | hs | hs <;> first | omega)) 0 _))<|ha2_p 2 rfl (fun _=>y_move)<|?_)
 replace B3:=(((((B3.le lb4).le lb5).s q6).le lc16).le lb18).s q19
 refine aW 3 (cY rfl (aK aP B3) (fun v21 h21 q21=>?_))
 obtain ⟨rfl,q21⟩:=q21
 have z21:=q21.1
 have ms:=mm hS20 q21.2.1
 refine ⟨ms,?_⟩
 have B3:=q21.2.2
 replace B4:=(((((B4.le lb5).s q6).le lc16).le lb18).s q19).s q21
 refine aW 4 (cY rfl (aK aP B4) (fun v22 h22 q22=>?_))
 obtain ⟨rfl,q22⟩:=q22
 have z22:=q22.1
 replace mR20:=mR20.t ms
 have ms:=mm hS20 q22.2.1
 refine ⟨ms,?_⟩
 have B4:=q22.2.2
 refine ha2_p 5 rfl (fun _=>aC)<|cN ?_
 refine aF (ah3 6 7 8) fun r=>?_
 refine hw_rr ?_
 replace B3:=B3.s q22
 refine aQ rfl (.cons (bT B3) (.cons (bT B4) (.cons aU .nil))) ?_
 replace le:=((((((((((le.t lb1).t lb2).t lb3).t lb4).t lb5).s q6).t lc16).t lb18).s q19).s q21).s q22
 replace k16_1:=(k16_1.st q21 (il hO18 (il hO5 (il hO4 (ir hO3))))).st q22 (il hO18 (il hO5 (ir hO4)))
 exact ⟨_,_,by first | rfl | (simp_all [oneOf,seatEnds,seatNone] <;> intros <;> (repeat' split) <;> (try and_intros) <;> first | rfl | omega | (simp_all; done)),le,(k16_1.wk (fun x hx=>(il hO18 (il hO5 (il hO4 (il hO3 (il hO2 (il hO1 hx)))))))).cast (by first | rfl | (simp_all [oneOf,seatEnds,seatNone] <;> intros <;> (repeat' split) <;> (try and_intros) <;> first | rfl | omega | (simp_all; done))),Rs.nil.cast (by first | rfl | (simp_all [oneOf,seatEnds,seatNone] <;> intros <;> (repeat' split) <;> (try and_intros) <;> first | rfl | omega | (simp_all; done)))⟩
end
section
open Go.Conc
def oZ (v:cD) (s:iX):List Row:=if s.on then cE v s.work else iJ v.list v.now
def oJ (v:cD) (s:iX) (a:Ask) (rows:List Row):cD × iX × List Row × Int :=
  if pL a then
    if (decide (a.kind = 8) || decide (a.kind = 9)) then ((seatEnds v s a.kind).1,(seatEnds v s a.kind).2.1,[],(seatEnds v s a.kind).2.2)
    else if s.bad then (v,s,[],5)
    else if (decide (a.kind = 7) && s.on) then (v,fL s,[],4)
    else if a.kind = 7 then (v,⟨true,false,workNew v⟩,[],0)
    else if 4 ≤ a.kind then ((dR v s a).1,(dR v s a).2.1,[],(dR v s a).2.2)
    else if (askTold rows a).2 = 0 then (v,s,(askTold rows a).1,(askTold rows a).2)
    else (v,fL s,(askTold rows a).1,(askTold rows a).2)
  else (v,fL s,[],1)
def eF (v:cD) (s:iX) (a:Ask):cD × iX × List Row × Int:=oJ v s a (oZ v s)
set_option maxHeartbeats 1000000 in
theorem aC4 {w0:World} {h:Heap} {O:Nat → Prop} {v:cD} {k0v:Value} {s:iX} {k1v:Value} {a:Ask} (k0:Rs h O k0v v.list) (k1:Rs h O k1v s.work.writes) (OB0:OB h O) (s0:SB a.key:=by first | assumption | omega | (simp; done) | (simp; omega)) (s1:SB a.hi:=by first | assumption | omega | (simp; done) | (simp; omega)):HC (XM PP) w0 94 [.agg #[vi v.now,k0v],.agg #[vb s.on,vb s.bad,vi s.work.at',k1v],.agg #[vi a.kind,vs a.key,vs a.hi,vi a.num]].toArray h (fun rv h'=>∃ (s1 s2 s3:Value),rv = .tuple #[.agg #[vi (((eF v s a).1).now),s1],.agg #[vb (((eF v s a).2.1).on),vb (((eF v s a).2.1).bad),vi (((eF v s a).2.1).work.at'),s2],s3,vi ((eF v s a).2.2.2)]∧Le h h' ∧ Rs h' O s1 (((eF v s a).1).list)∧Rs h' O s2 (((eF v s a).2.1).work.writes)∧Rs h' O s3 ((eF v s a).2.2.1)):=by
 obtain ⟨Ak0,nk0,ck0,rfl⟩:=k0.frm
 obtain ⟨Ak1,nk1,ck1,rfl⟩:=k1.frm
 have le:=Le.refl h
 have OBe:=OB0
 refine aV 121 [(0,.agg #[vi v.now,(.slice Ak0 nk0 ck0)]),(1,.agg #[vb s.on,vb s.bad,vi s.work.at',(.slice Ak1 nk1 ck1)]),(2,.agg #[vi a.kind,vs a.key,vs a.hi,vi a.num])] Tryz.func94 (fun r=>?_)
 refine hw_sr (bE cW (fun v1 h1 q1=>?_))
 obtain ⟨b1,O1,rfl,eb1,sb1,lb1,B1,hO1⟩:=q1.ox O
 refine bE cW (fun v2 h2 q2=>?_)
 obtain ⟨b2,O2,rfl,eb2,sb2,lb2,B2,hO2⟩:=q2.ox O1
 refine bE cW (fun v3 h3 q3=>?_)
 obtain ⟨b3,O3,rfl,eb3,sb3,lb3,B3,hO3⟩:=q3.ox O2
 refine bE aY (fun v4 h4 q4=>?_)
 obtain ⟨b4,O4,rfl,eb4,sb4,lb4,B4,hO4⟩:=q4.ox O3
 refine bE aY (fun v5 h5 q5=>?_)
 obtain ⟨b5,O5,rfl,eb5,sb5,lb5,B5,hO5⟩:=q5.ox O4
 refine aB aC<|aB aC<|aD ?_
 refine aF (ah5 3 4 5 6 7) fun r=>?_
 refine hw_sr (?_)
 refine bE (bA (l:=([]:List Row))) (fun v6 h6 q6=>?_)
 obtain ⟨lb6,ow6,sb6⟩:=q6
 have z6:=lb6.1
 replace OB0:=((((OB0.newB sb1 hO1 eb1).newB sb2 hO2 eb2).newB sb3 hO3 eb3).newB sb4 hO4 eb4).newB sb5 hO5 eb5
 have k6:Rs _ O5 _ _:=Ow.end ⟨ow6,OkL.nil⟩ OB0
 obtain ⟨A7,n7,c7,rfl⟩:=k6.frm
 refine aB aC<|aD ?_
 refine aI ?_
 refine aX ?_
 refine aI ?_
 replace B3:=((B3.le lb4).le lb5).le lb6
 refine aE (aB (y_loadB B3 0 _)<|?_)
 replace OB0:=OB0.leO lb6.1
 refine bL aG (aBU (a:=a) OB0) (fun v8 h8 q8=>?_)
 obtain ⟨rfl,lc8⟩:=q8
 have z8:=lc8.1
 refine aB dG<|aB aC<|aD ?_
 refine aF (ah7 3 4 5 6 7 10 21) fun r=>?_
 refine dS (fun g21=>?_) (fun g21=>?_)
 refine aI ?_
 replace k0:=((((((k0.nb lb1 hO1 eb1).nb lb2 hO2 eb2).nb lb3 hO3 eb3).nb lb4 hO4 eb4).nb lb5 hO5 eb5).le lb6).le lc8
 have Rk0:=k0
 replace k1:=((((((k1.nb lb1 hO1 eb1).nb lb2 hO2 eb2).nb lb3 hO3 eb3).nb lb4 hO4 eb4).nb lb5 hO5 eb5).le lb6).le lc8
 have Rk1:=k1
 replace k6:=k6.le lc8
 have Rk6:=k6
 obtain ⟨S9,hS9⟩:=mkO (fun b=>h8.size ≤ b ∨ b = b4 ∨ b = b5)
 have mR9:Mod S9 h8 h8:=Mod.refl _
 have hd9:∀ b,b < h8.size∧¬ O5 b → ¬ S9 b:=fun b hb hs=>(fun hs=>hs.elim (fun hs=>absurd hb.1 (Nat.not_lt.2 hs)) (fun hs=>hs.elim (fun hs=>hb.2 (hs ▸ (il hO5 (ir hO4)))) (fun hs=>hb.2 (hs ▸ (ir hO5))))) ((hS9 b).1 hs)
 replace B1:=(((((B1.le lb2).le lb3).le lb4).le lb5).le lb6).le lc8
 replace B2:=((((B2.le lb3).le lb4).le lb5).le lb6).le lc8
 refine bH 8 S9 bC (ha2_y 0 rfl (fun _ mm=>(y_loadB (Blk.mod B1 mm (fun hs=>by rcases (hS9 _).1 hs with hs | hs | hs <;> first | omega)) 0 _))<|ha2_y 1 rfl (fun _ mm=>(y_loadB (Blk.mod B2 mm (fun hs=>by rcases (hS9 _).1 hs with hs | hs | hs <;> first | omega)) 0 _))<|ha2_p 3 rfl (fun _=>y_move)<|?_)
 replace OB0:=OB0.leO lc8.1
 refine aW 2 (cC rfl aG (gY (s:=s) k1 OB0) (fun v10 h10 q10=>?_))
 obtain ⟨s10_1,rfl,lc10,k10_1⟩:=q10
 have z10:=lc10.1
 refine ⟨Le.mod lc10,?_⟩
 obtain ⟨A11,n11,c11,rfl⟩:=k10_1.frm
 replace B4:=(((B4.le lb5).le lb6).le lc8).le lc10
 refine aW 4 (cY rfl (aK aP B4) (fun v12 h12 q12=>?_))
 obtain ⟨rfl,q12⟩:=q12
 have z12:=q12.1
 have ms:=mm hS9 q12.2.1
 refine ⟨ms,?_⟩
 have B4:=q12.2.2
 replace B5:=(((B5.le lb6).le lc8).le lc10).s q12
 refine aW 5 (cY rfl (aK aP B5) (fun v13 h13 q13=>?_))
 obtain ⟨rfl,q13⟩:=q13
 have z13:=q13.1
 replace mR9:=(mR9.tl lc10).t ms
 have ms:=mm hS9 q13.2.1
 refine ⟨ms,?_⟩
 have B5:=q13.2.2
 refine ha2_p 6 rfl (fun _=>aC)<|ha2_p 7 rfl (fun _=>aC)<|cN ?_
 refine aF (ah4 6 7 8 9) fun r=>?_
 refine hw_rr ?_
 replace B4:=B4.s q13
 refine aQ rfl (.cons (bT B4) (.cons (bT B5) (.cons aU (.cons aU .nil)))) ?_
 have hr:eF v s a = _:=((if_neg (neF g21)))
 replace le:=(((((((((le.t lb1).t lb2).t lb3).t lb4).t lb5).t lb6).t lc8).t lc10).s q12).s q13
 replace k0:=((k0.le lc10).st q12 (il hO5 (ir hO4))).st q13 (ir hO5)
 replace k10_1:=(k10_1.st q12 (il hO5 (ir hO4))).st q13 (ir hO5)
 replace k6:=((k6.le lc10).st q12 (il hO5 (ir hO4))).st q13 (ir hO5)
 exact ⟨_,_,_,by first | rfl | (rw [hr] <;> rfl),le,(k0.wk (fun x hx=>(il hO5 (il hO4 (il hO3 (il hO2 (il hO1 hx))))))).cast (by first | rfl | (rw [hr] <;> rfl)),(k10_1.wk (fun x hx=>(il hO5 (il hO4 (il hO3 (il hO2 (il hO1 hx))))))).cast (by first | rfl | (rw [hr] <;> rfl)),(k6.wk (fun x hx=>(il hO5 (il hO4 (il hO3 (il hO2 (il hO1 hx))))))).cast (by first | rfl | (rw [hr] <;> rfl))⟩
 have hb:=oI g21
 refine aI ?_
 replace B3:=B3.le lc8
 refine aE (aB y_fieldAddr<|aB (y_load (Blk.at B3 rfl rfl))<|aB bM<|aB y_move<|?_)
 refine bB 4 [(3,.pointer (some ⟨b1,0,none⟩)),(4,.pointer (some ⟨b2,0,none⟩)),(5,.pointer (some ⟨b3,0,none⟩)),(6,.pointer (some ⟨b4,0,none⟩)),(7,.pointer (some ⟨b5,0,none⟩)),(10,(.slice A7 n7 c7)),(37,vb ((decide (a.kind = 8)) || (decide (a.kind = 9))))] (fun r=>?_) (fun jn=>?_)
 refine aB aC<|aD ?_
 refine bF (fun g29=>?_) (fun g29=>?_)
 have g29':=g29
 simp at g29'
 refine aI ?_
 replace B1:=(((((B1.le lb2).le lb3).le lb4).le lb5).le lb6).le lc8
 replace B2:=((((B2.le lb3).le lb4).le lb5).le lb6).le lc8
 refine aE (aB (y_loadB B1 0 _)<|aB (y_loadB B2 0 _)<|aB y_fieldAddr<|aB (y_load (Blk.at B3 rfl rfl))<|?_)
 replace k0:=((((((k0.nb lb1 hO1 eb1).nb lb2 hO2 eb2).nb lb3 hO3 eb3).nb lb4 hO4 eb4).nb lb5 hO5 eb5).le lb6).le lc8
 replace k1:=((((((k1.nb lb1 hO1 eb1).nb lb2 hO2 eb2).nb lb3 hO3 eb3).nb lb4 hO4 eb4).nb lb5 hO5 eb5).le lb6).le lc8
 replace OB0:=OB0.leO lc8.1
 refine bL aG (aC3 (v:=v) (s:=s) k0 k1 OB0) (fun v14 h14 q14=>?_)
 obtain ⟨s14_1,s14_2,rfl,lc14,k14_1,k14_2⟩:=q14
 have z14:=lc14.1
 obtain ⟨A15,n15,c15,rfl⟩:=k14_1.frm
 obtain ⟨A16,n16,c16,rfl⟩:=k14_2.frm
 refine aB y_move<|aB aL<|aB aL<|aB aL<|bE aY (fun v17 h17 q17=>?_)
 obtain ⟨b17,O17,rfl,eb17,sb17,lb17,B17,hO17⟩:=q17.ox O5
 refine bE aY (fun v18 h18 q18=>?_)
 obtain ⟨b18,O18,rfl,eb18,sb18,lb18,B18,hO18⟩:=q18.ox O17
 replace B17:=B17.le lb18
 refine bO (aK aP B17) (fun v19 h19 q19=>?_)
 obtain ⟨rfl,q19⟩:=q19
 have z19:=q19.1
 have B17:=q19.2.2
 replace B18:=B18.s q19
 refine bO (aK aP B18) (fun v20 h20 q20=>?_)
 obtain ⟨rfl,q20⟩:=q20
 have z20:=q20.1
 have B18:=q20.2.2
 refine aB aC<|aD ?_
 refine aF (ah6 6 7 10 11 12 13) fun r=>?_
 refine aI ?_
 replace k14_1:=(((k14_1.nb lb17 hO17 eb17).nb lb18 hO18 eb18).st q19 (il hO18 (ir hO17))).st q20 (ir hO18)
 have Rk14_1:=k14_1
 replace k14_2:=(((k14_2.nb lb17 hO17 eb17).nb lb18 hO18 eb18).st q19 (il hO18 (ir hO17))).st q20 (ir hO18)
 have Rk14_2:=k14_2
 replace k6:=(((((k6.le lc8).le lc14).nb lb17 hO17 eb17).nb lb18 hO18 eb18).st q19 (il hO18 (ir hO17))).st q20 (ir hO18)
 have Rk6:=k6
 obtain ⟨S21,hS21⟩:=mkO (fun b=>h20.size ≤ b ∨ b = b4 ∨ b = b5)
 have mR21:Mod S21 h20 h20:=Mod.refl _
 have hd21:∀ b,b < h20.size∧¬ O18 b → ¬ S21 b:=fun b hb hs=>(fun hs=>hs.elim (fun hs=>absurd hb.1 (Nat.not_lt.2 hs)) (fun hs=>hs.elim (fun hs=>hb.2 (hs ▸ (il hO18 (il hO17 (il hO5 (ir hO4)))))) (fun hs=>hb.2 (hs ▸ (il hO18 (il hO17 (ir hO5))))))) ((hS21 b).1 hs)
 replace B17:=B17.s q20
 refine bH 8 S21 bC (ha2_y 0 rfl (fun _ mm=>(y_loadB (Blk.mod B17 mm (fun hs=>by rcases (hS21 _).1 hs with hs | hs | hs <;> first | omega)) 0 _))<|ha2_y 1 rfl (fun _ mm=>(y_loadB (Blk.mod B18 mm (fun hs=>by rcases (hS21 _).1 hs with hs | hs | hs <;> first | omega)) 0 _))<|ha2_p 2 rfl (fun _=>y_move)<|ha2_p 3 rfl (fun _=>y_move)<|?_)
 replace B4:=(((((((B4.le lb5).le lb6).le lc8).le lc14).le lb17).le lb18).s q19).s q20
 refine aW 4 (cY rfl (aK aP B4) (fun v22 h22 q22=>?_))
 obtain ⟨rfl,q22⟩:=q22
 have z22:=q22.1
 have ms:=mm hS21 q22.2.1
 refine ⟨ms,?_⟩
 have B4:=q22.2.2
 replace B5:=(((((((B5.le lb6).le lc8).le lc14).le lb17).le lb18).s q19).s q20).s q22
 refine aW 5 (cY rfl (aK aP B5) (fun v23 h23 q23=>?_))
 obtain ⟨rfl,q23⟩:=q23
 have z23:=q23.1
 replace mR21:=mR21.t ms
 have ms:=mm hS21 q23.2.1
 refine ⟨ms,?_⟩
 have B5:=q23.2.2
 refine ha2_p 6 rfl (fun _=>aC)<|ha2_p 7 rfl (fun _=>aC)<|cN ?_
 refine aF (ah4 6 7 8 9) fun r=>?_
 refine hw_rr ?_
 replace B4:=B4.s q23
 refine aQ rfl (.cons (bT B4) (.cons (bT B5) (.cons aU (.cons aU .nil)))) ?_
 have hr:eF v s a = _:=((if_pos g21).trans ((if_pos g29)))
 replace le:=(((((((((((((le.t lb1).t lb2).t lb3).t lb4).t lb5).t lb6).t lc8).t lc14).t lb17).t lb18).s q19).s q20).s q22).s q23
 replace k14_1:=(k14_1.st q22 (il hO18 (il hO17 (il hO5 (ir hO4))))).st q23 (il hO18 (il hO17 (ir hO5)))
 replace k14_2:=(k14_2.st q22 (il hO18 (il hO17 (il hO5 (ir hO4))))).st q23 (il hO18 (il hO17 (ir hO5)))
 replace k6:=(k6.st q22 (il hO18 (il hO17 (il hO5 (ir hO4))))).st q23 (il hO18 (il hO17 (ir hO5)))
 exact ⟨_,_,_,by first | rfl | (rw [hr] <;> rfl),le,(k14_1.wk (fun x hx=>(il hO18 (il hO17 (il hO5 (il hO4 (il hO3 (il hO2 (il hO1 hx))))))))).cast (by first | rfl | (rw [hr] <;> rfl)),(k14_2.wk (fun x hx=>(il hO18 (il hO17 (il hO5 (il hO4 (il hO3 (il hO2 (il hO1 hx))))))))).cast (by first | rfl | (rw [hr] <;> rfl)),(k6.wk (fun x hx=>(il hO18 (il hO17 (il hO5 (il hO4 (il hO3 (il hO2 (il hO1 hx))))))))).cast (by first | rfl | (rw [hr] <;> rfl))⟩
 have g29':=g29
 simp at g29'
 refine aI ?_
 replace B2:=((((B2.le lb3).le lb4).le lb5).le lb6).le lc8
 refine aE (aB y_fieldAddr<|aB (y_load (Blk.at B2 rfl rfl))<|aB aC<|aD ?_)
 refine bF (fun g51=>?_) (fun g51=>?_)
 refine aI ?_
 replace k0:=((((((k0.nb lb1 hO1 eb1).nb lb2 hO2 eb2).nb lb3 hO3 eb3).nb lb4 hO4 eb4).nb lb5 hO5 eb5).le lb6).le lc8
 have Rk0:=k0
 replace k1:=((((((k1.nb lb1 hO1 eb1).nb lb2 hO2 eb2).nb lb3 hO3 eb3).nb lb4 hO4 eb4).nb lb5 hO5 eb5).le lb6).le lc8
 have Rk1:=k1
 replace k6:=k6.le lc8
 have Rk6:=k6
 obtain ⟨S24,hS24⟩:=mkO (fun b=>h8.size ≤ b ∨ b = b4 ∨ b = b5)
 have mR24:Mod S24 h8 h8:=Mod.refl _
 have hd24:∀ b,b < h8.size∧¬ O5 b → ¬ S24 b:=fun b hb hs=>(fun hs=>hs.elim (fun hs=>absurd hb.1 (Nat.not_lt.2 hs)) (fun hs=>hs.elim (fun hs=>hb.2 (hs ▸ (il hO5 (ir hO4)))) (fun hs=>hb.2 (hs ▸ (ir hO5))))) ((hS24 b).1 hs)
 replace B1:=(((((B1.le lb2).le lb3).le lb4).le lb5).le lb6).le lc8
 refine bH 7 S24 bC (ha2_y 0 rfl (fun _ mm=>(y_loadB (Blk.mod B1 mm (fun hs=>by rcases (hS24 _).1 hs with hs | hs | hs <;> first | omega)) 0 _))<|ha2_y 1 rfl (fun _ mm=>(y_loadB (Blk.mod B2 mm (fun hs=>by rcases (hS24 _).1 hs with hs | hs | hs <;> first | omega)) 0 _))<|ha2_p 2 rfl (fun _=>y_move)<|?_)
 replace B4:=((B4.le lb5).le lb6).le lc8
 refine aW 3 (cY rfl (aK aP B4) (fun v25 h25 q25=>?_))
 obtain ⟨rfl,q25⟩:=q25
 have z25:=q25.1
 have ms:=mm hS24 q25.2.1
 refine ⟨ms,?_⟩
 have B4:=q25.2.2
 replace B5:=((B5.le lb6).le lc8).s q25
 refine aW 4 (cY rfl (aK aP B5) (fun v26 h26 q26=>?_))
 obtain ⟨rfl,q26⟩:=q26
 have z26:=q26.1
 replace mR24:=mR24.t ms
 have ms:=mm hS24 q26.2.1
 refine ⟨ms,?_⟩
 have B5:=q26.2.2
 refine ha2_p 5 rfl (fun _=>aC)<|ha2_p 6 rfl (fun _=>aC)<|cN ?_
 refine aF (ah4 6 7 8 9) fun r=>?_
 refine hw_rr ?_
 replace B4:=B4.s q26
 refine aQ rfl (.cons (bT B4) (.cons (bT B5) (.cons aU (.cons aU .nil)))) ?_
 have hr:eF v s a = _:=((if_pos g21).trans ((if_neg (neF g29)).trans ((if_pos g51))))
 replace le:=((((((((le.t lb1).t lb2).t lb3).t lb4).t lb5).t lb6).t lc8).s q25).s q26
 replace k0:=(k0.st q25 (il hO5 (ir hO4))).st q26 (ir hO5)
 replace k1:=(k1.st q25 (il hO5 (ir hO4))).st q26 (ir hO5)
 replace k6:=(k6.st q25 (il hO5 (ir hO4))).st q26 (ir hO5)
 exact ⟨_,_,_,by first | rfl | (rw [hr] <;> rfl),le,(k0.wk (fun x hx=>(il hO5 (il hO4 (il hO3 (il hO2 (il hO1 hx))))))).cast (by first | rfl | (rw [hr] <;> rfl)),(k1.wk (fun x hx=>(il hO5 (il hO4 (il hO3 (il hO2 (il hO1 hx))))))).cast (by first | rfl | (rw [hr] <;> rfl)),(k6.wk (fun x hx=>(il hO5 (il hO4 (il hO3 (il hO2 (il hO1 hx))))))).cast (by first | rfl | (rw [hr] <;> rfl))⟩
 refine hw_sr (aB y_fieldAddr<|aB (y_load (Blk.at B3 rfl rfl))<|aB bM<|aB y_move<|?_)
 refine bB 3 [(3,.pointer (some ⟨b1,0,none⟩)),(4,.pointer (some ⟨b2,0,none⟩)),(5,.pointer (some ⟨b3,0,none⟩)),(6,.pointer (some ⟨b4,0,none⟩)),(7,.pointer (some ⟨b5,0,none⟩)),(10,(.slice A7 n7 c7)),(64,vb ((decide (a.kind = 7)) && s.on))] (fun r=>?_) (fun jn=>?_)
 refine aB aC<|aD ?_
 refine bF (fun g57=>?_) (fun g57=>?_)
 have g57':=g57
 simp at g57'
 refine aI ?_
 replace k0:=((((((k0.nb lb1 hO1 eb1).nb lb2 hO2 eb2).nb lb3 hO3 eb3).nb lb4 hO4 eb4).nb lb5 hO5 eb5).le lb6).le lc8
 have Rk0:=k0
 replace k1:=((((((k1.nb lb1 hO1 eb1).nb lb2 hO2 eb2).nb lb3 hO3 eb3).nb lb4 hO4 eb4).nb lb5 hO5 eb5).le lb6).le lc8
 have Rk1:=k1
 replace k6:=k6.le lc8
 have Rk6:=k6
 obtain ⟨S27,hS27⟩:=mkO (fun b=>h8.size ≤ b ∨ b = b4 ∨ b = b5)
 have mR27:Mod S27 h8 h8:=Mod.refl _
 have hd27:∀ b,b < h8.size∧¬ O5 b → ¬ S27 b:=fun b hb hs=>(fun hs=>hs.elim (fun hs=>absurd hb.1 (Nat.not_lt.2 hs)) (fun hs=>hs.elim (fun hs=>hb.2 (hs ▸ (il hO5 (ir hO4)))) (fun hs=>hb.2 (hs ▸ (ir hO5))))) ((hS27 b).1 hs)
 replace B1:=(((((B1.le lb2).le lb3).le lb4).le lb5).le lb6).le lc8
 refine bH 8 S27 bC (ha2_y 0 rfl (fun _ mm=>(y_loadB (Blk.mod B1 mm (fun hs=>by rcases (hS27 _).1 hs with hs | hs | hs <;> first | omega)) 0 _))<|ha2_y 1 rfl (fun _ mm=>(y_loadB (Blk.mod B2 mm (fun hs=>by rcases (hS27 _).1 hs with hs | hs | hs <;> first | omega)) 0 _))<|ha2_p 3 rfl (fun _=>y_move)<|?_)
 replace OB0:=OB0.leO lc8.1
 refine aW 2 (cC rfl aG (gY (s:=s) k1 OB0) (fun v28 h28 q28=>?_))
 obtain ⟨s28_1,rfl,lc28,k28_1⟩:=q28
 have z28:=lc28.1
 refine ⟨Le.mod lc28,?_⟩
 obtain ⟨A29,n29,c29,rfl⟩:=k28_1.frm
 replace B4:=(((B4.le lb5).le lb6).le lc8).le lc28
 refine aW 4 (cY rfl (aK aP B4) (fun v30 h30 q30=>?_))
 obtain ⟨rfl,q30⟩:=q30
 have z30:=q30.1
 have ms:=mm hS27 q30.2.1
 refine ⟨ms,?_⟩
 have B4:=q30.2.2
 replace B5:=(((B5.le lb6).le lc8).le lc28).s q30
 refine aW 5 (cY rfl (aK aP B5) (fun v31 h31 q31=>?_))
 obtain ⟨rfl,q31⟩:=q31
 have z31:=q31.1
 replace mR27:=(mR27.tl lc28).t ms
 have ms:=mm hS27 q31.2.1
 refine ⟨ms,?_⟩
 have B5:=q31.2.2
 refine ha2_p 6 rfl (fun _=>aC)<|ha2_p 7 rfl (fun _=>aC)<|cN ?_
 refine aF (ah4 6 7 8 9) fun r=>?_
 refine hw_rr ?_
 replace B4:=B4.s q31
 refine aQ rfl (.cons (bT B4) (.cons (bT B5) (.cons aU (.cons aU .nil)))) ?_
 have hr:eF v s a = _:=((if_pos g21).trans ((if_neg (neF g29)).trans ((if_neg (neF g51)).trans ((if_pos g57)))))
 replace le:=(((((((((le.t lb1).t lb2).t lb3).t lb4).t lb5).t lb6).t lc8).t lc28).s q30).s q31
 replace k0:=((k0.le lc28).st q30 (il hO5 (ir hO4))).st q31 (ir hO5)
 replace k28_1:=(k28_1.st q30 (il hO5 (ir hO4))).st q31 (ir hO5)
 replace k6:=((k6.le lc28).st q30 (il hO5 (ir hO4))).st q31 (ir hO5)
 exact ⟨_,_,_,by first | rfl | (rw [hr] <;> rfl),le,(k0.wk (fun x hx=>(il hO5 (il hO4 (il hO3 (il hO2 (il hO1 hx))))))).cast (by first | rfl | (rw [hr] <;> rfl)),(k28_1.wk (fun x hx=>(il hO5 (il hO4 (il hO3 (il hO2 (il hO1 hx))))))).cast (by first | rfl | (rw [hr] <;> rfl)),(k6.wk (fun x hx=>(il hO5 (il hO4 (il hO3 (il hO2 (il hO1 hx))))))).cast (by first | rfl | (rw [hr] <;> rfl))⟩
 have g57':=g57
 simp at g57'
 refine hw_sr (aB y_fieldAddr<|aB (y_load (Blk.at B3 rfl rfl))<|aB bM<|aB aC<|aD ?_)
 refine aF (ah7 3 4 5 6 7 10 69) fun r=>?_
 refine aZ (fun g69=>?_) (fun g69=>?_)
 refine aI ?_
 replace k0:=((((((k0.nb lb1 hO1 eb1).nb lb2 hO2 eb2).nb lb3 hO3 eb3).nb lb4 hO4 eb4).nb lb5 hO5 eb5).le lb6).le lc8
 have Rk0:=k0
 replace k6:=k6.le lc8
 have Rk6:=k6
 obtain ⟨S32,hS32⟩:=mkO (fun b=>h8.size ≤ b ∨ b = b4 ∨ b = b5)
 have mR32:Mod S32 h8 h8:=Mod.refl _
 have hd32:∀ b,b < h8.size∧¬ O5 b → ¬ S32 b:=fun b hb hs=>(fun hs=>hs.elim (fun hs=>absurd hb.1 (Nat.not_lt.2 hs)) (fun hs=>hs.elim (fun hs=>hb.2 (hs ▸ (il hO5 (ir hO4)))) (fun hs=>hb.2 (hs ▸ (ir hO5))))) ((hS32 b).1 hs)
 replace B1:=(((((B1.le lb2).le lb3).le lb4).le lb5).le lb6).le lc8
 refine bH 9 S32 bC (ha2_y 0 rfl (fun _ mm=>(y_loadB (Blk.mod B1 mm (fun hs=>by rcases (hS32 _).1 hs with hs | hs | hs <;> first | omega)) 0 _))<|ha2_y 1 rfl (fun _ mm=>(y_loadB (Blk.mod B1 mm (fun hs=>by rcases (hS32 _).1 hs with hs | hs | hs <;> first | omega)) 0 _))<|ha2_p 4 rfl (fun _=>y_move)<|?_)
 replace OB0:=OB0.leO lc8.1
 refine aW 2 (cC rfl aG (xB (v:=v) k0 OB0) (fun v33 h33 q33=>?_))
 obtain ⟨s33_1,rfl,lc33,k33_1⟩:=q33
 have z33:=lc33.1
 refine ⟨Le.mod lc33,?_⟩
 obtain ⟨A34,n34,c34,rfl⟩:=k33_1.frm
 refine ha2_p 3 rfl (fun _=>(y_build rfl rfl))<|?_
 replace B4:=(((B4.le lb5).le lb6).le lc8).le lc33
 refine aW 5 (cY rfl (aK aP B4) (fun v35 h35 q35=>?_))
 obtain ⟨rfl,q35⟩:=q35
 have z35:=q35.1
 have ms:=mm hS32 q35.2.1
 refine ⟨ms,?_⟩
 have B4:=q35.2.2
 replace B5:=(((B5.le lb6).le lc8).le lc33).s q35
 refine aW 6 (cY rfl (aK aP B5) (fun v36 h36 q36=>?_))
 obtain ⟨rfl,q36⟩:=q36
 have z36:=q36.1
 replace mR32:=(mR32.tl lc33).t ms
 have ms:=mm hS32 q36.2.1
 refine ⟨ms,?_⟩
 have B5:=q36.2.2
 refine ha2_p 7 rfl (fun _=>aC)<|ha2_p 8 rfl (fun _=>aC)<|cN ?_
 refine aF (ah4 6 7 8 9) fun r=>?_
 refine hw_rr ?_
 replace B4:=B4.s q36
 refine aQ rfl (.cons (bT B4) (.cons (bT B5) (.cons aU (.cons aU .nil)))) ?_
 have hr:eF v s a = _:=((if_pos g21).trans ((if_neg (neF g29)).trans ((if_neg (neF g51)).trans ((if_neg (neF g57)).trans ((if_pos g69))))))
 replace le:=(((((((((le.t lb1).t lb2).t lb3).t lb4).t lb5).t lb6).t lc8).t lc33).s q35).s q36
 replace k0:=((k0.le lc33).st q35 (il hO5 (ir hO4))).st q36 (ir hO5)
 replace k33_1:=(k33_1.st q35 (il hO5 (ir hO4))).st q36 (ir hO5)
 replace k6:=((k6.le lc33).st q35 (il hO5 (ir hO4))).st q36 (ir hO5)
 exact ⟨_,_,_,by first | rfl | (rw [hr] <;> rfl),le,(k0.wk (fun x hx=>(il hO5 (il hO4 (il hO3 (il hO2 (il hO1 hx))))))).cast (by first | rfl | (rw [hr] <;> rfl)),(k33_1.wk (fun x hx=>(il hO5 (il hO4 (il hO3 (il hO2 (il hO1 hx))))))).cast (by first | rfl | (rw [hr] <;> rfl)),(k6.wk (fun x hx=>(il hO5 (il hO4 (il hO3 (il hO2 (il hO1 hx))))))).cast (by first | rfl | (rw [hr] <;> rfl))⟩
 refine hw_sr (aB y_fieldAddr<|aB (y_load (Blk.at B3 rfl rfl))<|aB y_geq<|aB aC<|aD ?_)
 refine aF (ah7 3 4 5 6 7 10 78) fun r=>?_
 refine aZ (fun g78=>?_) (fun g78=>?_)
 refine aI ?_
 replace B1:=(((((B1.le lb2).le lb3).le lb4).le lb5).le lb6).le lc8
 refine aE (aB (y_loadB B1 0 _)<|aB (y_loadB B2 0 _)<|aB (y_loadB B3 0 _)<|?_)
 replace k0:=((((((k0.nb lb1 hO1 eb1).nb lb2 hO2 eb2).nb lb3 hO3 eb3).nb lb4 hO4 eb4).nb lb5 hO5 eb5).le lb6).le lc8
 replace k1:=((((((k1.nb lb1 hO1 eb1).nb lb2 hO2 eb2).nb lb3 hO3 eb3).nb lb4 hO4 eb4).nb lb5 hO5 eb5).le lb6).le lc8
 replace OB0:=OB0.leO lc8.1
 refine bL aG (aC2 (v:=v) (s:=s) (a:=a) k0 k1 OB0) (fun v37 h37 q37=>?_)
 obtain ⟨s37_1,s37_2,rfl,lc37,k37_1,k37_2⟩:=q37
 have z37:=lc37.1
 obtain ⟨A38,n38,c38,rfl⟩:=k37_1.frm
 obtain ⟨A39,n39,c39,rfl⟩:=k37_2.frm
 refine aB y_move<|aB aL<|aB aL<|aB aL<|bE aY (fun v40 h40 q40=>?_)
 obtain ⟨b40,O40,rfl,eb40,sb40,lb40,B40,hO40⟩:=q40.ox O5
 refine bE aY (fun v41 h41 q41=>?_)
 obtain ⟨b41,O41,rfl,eb41,sb41,lb41,B41,hO41⟩:=q41.ox O40
 replace B40:=B40.le lb41
 refine bO (aK aP B40) (fun v42 h42 q42=>?_)
 obtain ⟨rfl,q42⟩:=q42
 have z42:=q42.1
 have B40:=q42.2.2
 replace B41:=B41.s q42
 refine bO (aK aP B41) (fun v43 h43 q43=>?_)
 obtain ⟨rfl,q43⟩:=q43
 have z43:=q43.1
 have B41:=q43.2.2
 refine aB aC<|aD ?_
 refine aF (ah6 6 7 10 14 15 16) fun r=>?_
 refine aI ?_
 replace k37_1:=(((k37_1.nb lb40 hO40 eb40).nb lb41 hO41 eb41).st q42 (il hO41 (ir hO40))).st q43 (ir hO41)
 have Rk37_1:=k37_1
 replace k37_2:=(((k37_2.nb lb40 hO40 eb40).nb lb41 hO41 eb41).st q42 (il hO41 (ir hO40))).st q43 (ir hO41)
 have Rk37_2:=k37_2
 replace k6:=(((((k6.le lc8).le lc37).nb lb40 hO40 eb40).nb lb41 hO41 eb41).st q42 (il hO41 (ir hO40))).st q43 (ir hO41)
 have Rk6:=k6
 obtain ⟨S44,hS44⟩:=mkO (fun b=>h43.size ≤ b ∨ b = b4 ∨ b = b5)
 have mR44:Mod S44 h43 h43:=Mod.refl _
 have hd44:∀ b,b < h43.size∧¬ O41 b → ¬ S44 b:=fun b hb hs=>(fun hs=>hs.elim (fun hs=>absurd hb.1 (Nat.not_lt.2 hs)) (fun hs=>hs.elim (fun hs=>hb.2 (hs ▸ (il hO41 (il hO40 (il hO5 (ir hO4)))))) (fun hs=>hb.2 (hs ▸ (il hO41 (il hO40 (ir hO5))))))) ((hS44 b).1 hs)
 replace B40:=B40.s q43
 refine bH 8 S44 bC (ha2_y 0 rfl (fun _ mm=>(y_loadB (Blk.mod B40 mm (fun hs=>by rcases (hS44 _).1 hs with hs | hs | hs <;> first | omega)) 0 _))<|ha2_y 1 rfl (fun _ mm=>(y_loadB (Blk.mod B41 mm (fun hs=>by rcases (hS44 _).1 hs with hs | hs | hs <;> first | omega)) 0 _))<|ha2_p 2 rfl (fun _=>y_move)<|ha2_p 3 rfl (fun _=>y_move)<|?_)
 replace B4:=(((((((B4.le lb5).le lb6).le lc8).le lc37).le lb40).le lb41).s q42).s q43
 refine aW 4 (cY rfl (aK aP B4) (fun v45 h45 q45=>?_))
 obtain ⟨rfl,q45⟩:=q45
 have z45:=q45.1
 have ms:=mm hS44 q45.2.1
 refine ⟨ms,?_⟩
 have B4:=q45.2.2
 replace B5:=(((((((B5.le lb6).le lc8).le lc37).le lb40).le lb41).s q42).s q43).s q45
 refine aW 5 (cY rfl (aK aP B5) (fun v46 h46 q46=>?_))
 obtain ⟨rfl,q46⟩:=q46
 have z46:=q46.1
 replace mR44:=mR44.t ms
 have ms:=mm hS44 q46.2.1
 refine ⟨ms,?_⟩
 have B5:=q46.2.2
 refine ha2_p 6 rfl (fun _=>aC)<|ha2_p 7 rfl (fun _=>aC)<|cN ?_
 refine aF (ah4 6 7 8 9) fun r=>?_
 refine hw_rr ?_
 replace B4:=B4.s q46
 refine aQ rfl (.cons (bT B4) (.cons (bT B5) (.cons aU (.cons aU .nil)))) ?_
 have hr:eF v s a = _:=((if_pos g21).trans ((if_neg (neF g29)).trans ((if_neg (neF g51)).trans ((if_neg (neF g57)).trans ((if_neg g69).trans ((if_pos g78)))))))
 replace le:=(((((((((((((le.t lb1).t lb2).t lb3).t lb4).t lb5).t lb6).t lc8).t lc37).t lb40).t lb41).s q42).s q43).s q45).s q46
 replace k37_1:=(k37_1.st q45 (il hO41 (il hO40 (il hO5 (ir hO4))))).st q46 (il hO41 (il hO40 (ir hO5)))
 replace k37_2:=(k37_2.st q45 (il hO41 (il hO40 (il hO5 (ir hO4))))).st q46 (il hO41 (il hO40 (ir hO5)))
 replace k6:=(k6.st q45 (il hO41 (il hO40 (il hO5 (ir hO4))))).st q46 (il hO41 (il hO40 (ir hO5)))
 exact ⟨_,_,_,by first | rfl | (rw [hr] <;> rfl),le,(k37_1.wk (fun x hx=>(il hO41 (il hO40 (il hO5 (il hO4 (il hO3 (il hO2 (il hO1 hx))))))))).cast (by first | rfl | (rw [hr] <;> rfl)),(k37_2.wk (fun x hx=>(il hO41 (il hO40 (il hO5 (il hO4 (il hO3 (il hO2 (il hO1 hx))))))))).cast (by first | rfl | (rw [hr] <;> rfl)),(k6.wk (fun x hx=>(il hO41 (il hO40 (il hO5 (il hO4 (il hO3 (il hO2 (il hO1 hx))))))))).cast (by first | rfl | (rw [hr] <;> rfl))⟩
 refine aM ?_
 refine aI ?_
 replace B1:=(((((B1.le lb2).le lb3).le lb4).le lb5).le lb6).le lc8
 refine aE (aB (y_loadB B1 0 _)<|aB y_fieldAddr<|aB (y_load (Blk.at B1 rfl rfl))<|?_)
 replace k0:=((((((k0.nb lb1 hO1 eb1).nb lb2 hO2 eb2).nb lb3 hO3 eb3).nb lb4 hO4 eb4).nb lb5 hO5 eb5).le lb6).le lc8
 replace OB0:=OB0.leO lc8.1
 refine bL aG (nZ (v:=v) k0 OB0) (fun v47 h47 q47=>?_)
 obtain ⟨lc47,k47_1⟩:=q47
 have z47:=lc47.1
 replace k47_1:=k47_1.end OB0
 obtain ⟨A48,n48,c48,rfl⟩:=k47_1.frm
 refine aB aC<|aD ?_
 refine aF (ah6 3 4 5 6 7 17) fun r=>?_
 refine aI ?_
 refine aI ?_
 replace B2:=B2.le lc47
 refine aE (aB y_fieldAddr<|aB (y_load (Blk.at B2 rfl rfl))<|aD ?_)
 refine bF (fun g99=>?_) (fun g99=>?_)
 have hw:oZ v s = cE v s.work:=by rw [oZ,g99]; rfl
 replace B1:=B1.le lc47
 refine aE (aB (y_loadB B1 0 _)<|aB y_fieldAddr<|aB (y_loadB B2 2 _)<|?_)
 replace k0:=k0.le lc47
 replace k1:=(((((((k1.nb lb1 hO1 eb1).nb lb2 hO2 eb2).nb lb3 hO3 eb3).nb lb4 hO4 eb4).nb lb5 hO5 eb5).le lb6).le lc8).le lc47
 replace OB0:=OB0.leO lc47.1
 refine bL aG (lI (v:=v) (w:=s.work) k0 k1 OB0) (fun v49 h49 q49=>?_)
 obtain ⟨lc49,k49_1⟩:=q49
 have z49:=lc49.1
 obtain ⟨A50,n50,c50,rfl⟩:=k49_1.frm
 refine aB aC<|aD ?_
 refine aF (ah6 3 4 5 6 7 17) fun r=>?_
 refine aI ?_
 replace B3:=(B3.le lc47).le lc49
 refine aE (aB y_move<|aB (y_loadB B3 0 _)<|?_)
 replace OB0:=OB0.leO lc49.1
 refine bL aG (zU (a:=a) k49_1 OB0) (fun v51 h51 q51=>?_)
 obtain ⟨s51_1,rfl,lc51,k51_1⟩:=q51
 have z51:=lc51.1
 obtain ⟨A52,n52,c52,rfl⟩:=k51_1.frm
 refine aB y_move<|aB aL<|aB aL<|aB aC<|aB aC<|aD ?_
 refine aF (ah6 3 4 6 7 18 19) fun r=>?_
 refine aI ?_
 refine hw_sr (aB y_move<|aB fS<|aD ?_)
 refine fH (fun g111=>?_) (fun g111=>?_)
 refine aI ?_
 replace k0:=(k0.le lc49).le lc51
 have Rk0:=k0
 replace k1:=(k1.le lc49).le lc51
 have Rk1:=k1
 have Rk51_1:=k51_1
 obtain ⟨S53,hS53⟩:=mkO (fun b=>h51.size ≤ b ∨ b = b4 ∨ b = b5)
 have mR53:Mod S53 h51 h51:=Mod.refl _
 have hd53:∀ b,b < h51.size∧¬ O5 b → ¬ S53 b:=fun b hb hs=>(fun hs=>hs.elim (fun hs=>absurd hb.1 (Nat.not_lt.2 hs)) (fun hs=>hs.elim (fun hs=>hb.2 (hs ▸ (il hO5 (ir hO4)))) (fun hs=>hb.2 (hs ▸ (ir hO5))))) ((hS53 b).1 hs)
 replace B1:=(B1.le lc49).le lc51
 replace B2:=(B2.le lc49).le lc51
 refine bH 9 S53 bC (ha2_y 0 rfl (fun _ mm=>(y_loadB (Blk.mod B1 mm (fun hs=>by rcases (hS53 _).1 hs with hs | hs | hs <;> first | omega)) 0 _))<|ha2_y 1 rfl (fun _ mm=>(y_loadB (Blk.mod B2 mm (fun hs=>by rcases (hS53 _).1 hs with hs | hs | hs <;> first | omega)) 0 _))<|ha2_p 3 rfl (fun _=>y_move)<|ha2_p 4 rfl (fun _=>y_move)<|?_)
 replace OB0:=OB0.leO lc51.1
 refine aW 2 (cC rfl aG (gY (s:=s) k1 OB0) (fun v54 h54 q54=>?_))
 obtain ⟨s54_1,rfl,lc54,k54_1⟩:=q54
 have z54:=lc54.1
 refine ⟨Le.mod lc54,?_⟩
 obtain ⟨A55,n55,c55,rfl⟩:=k54_1.frm
 replace B4:=((((((B4.le lb5).le lb6).le lc8).le lc47).le lc49).le lc51).le lc54
 refine aW 5 (cY rfl (aK aP B4) (fun v56 h56 q56=>?_))
 obtain ⟨rfl,q56⟩:=q56
 have z56:=q56.1
 have ms:=mm hS53 q56.2.1
 refine ⟨ms,?_⟩
 have B4:=q56.2.2
 replace B5:=((((((B5.le lb6).le lc8).le lc47).le lc49).le lc51).le lc54).s q56
 refine aW 6 (cY rfl (aK aP B5) (fun v57 h57 q57=>?_))
 obtain ⟨rfl,q57⟩:=q57
 have z57:=q57.1
 replace mR53:=(mR53.tl lc54).t ms
 have ms:=mm hS53 q57.2.1
 refine ⟨ms,?_⟩
 have B5:=q57.2.2
 refine ha2_p 7 rfl (fun _=>aC)<|ha2_p 8 rfl (fun _=>aC)<|cN ?_
 refine aF (ah4 6 7 8 9) fun r=>?_
 refine hw_rr ?_
 replace B4:=B4.s q57
 refine aQ rfl (.cons (bT B4) (.cons (bT B5) (.cons aU (.cons aU .nil)))) ?_
 have hr:eF v s a = _:=((congrArg (oJ v s a) hw).trans ((if_pos g21).trans ((if_neg (neF g29)).trans ((if_neg (neF g51)).trans ((if_neg (neF g57)).trans ((if_neg g69).trans ((if_neg g78).trans ((if_neg g111)))))))))
 replace le:=((((((((((((le.t lb1).t lb2).t lb3).t lb4).t lb5).t lb6).t lc8).t lc47).t lc49).t lc51).t lc54).s q56).s q57
 replace k0:=((k0.le lc54).st q56 (il hO5 (ir hO4))).st q57 (ir hO5)
 replace k54_1:=(k54_1.st q56 (il hO5 (ir hO4))).st q57 (ir hO5)
 replace k51_1:=((k51_1.le lc54).st q56 (il hO5 (ir hO4))).st q57 (ir hO5)
 exact ⟨_,_,_,by first | rfl | (rw [hr] <;> rfl),le,(k0.wk (fun x hx=>(il hO5 (il hO4 (il hO3 (il hO2 (il hO1 hx))))))).cast (by first | rfl | (rw [hr] <;> rfl)),(k54_1.wk (fun x hx=>(il hO5 (il hO4 (il hO3 (il hO2 (il hO1 hx))))))).cast (by first | rfl | (rw [hr] <;> rfl)),(k51_1.wk (fun x hx=>(il hO5 (il hO4 (il hO3 (il hO2 (il hO1 hx))))))).cast (by first | rfl | (rw [hr] <;> rfl))⟩
 refine aM ?_
 refine aI ?_
 replace k0:=(k0.le lc49).le lc51
 have Rk0:=k0
 replace k1:=(k1.le lc49).le lc51
 have Rk1:=k1
 have Rk51_1:=k51_1
 obtain ⟨S58,hS58⟩:=mkO (fun b=>h51.size ≤ b ∨ b = b4 ∨ b = b5)
 have mR58:Mod S58 h51 h51:=Mod.refl _
 have hd58:∀ b,b < h51.size∧¬ O5 b → ¬ S58 b:=fun b hb hs=>(fun hs=>hs.elim (fun hs=>absurd hb.1 (Nat.not_lt.2 hs)) (fun hs=>hs.elim (fun hs=>hb.2 (hs ▸ (il hO5 (ir hO4)))) (fun hs=>hb.2 (hs ▸ (ir hO5))))) ((hS58 b).1 hs)
 replace B1:=(B1.le lc49).le lc51
 replace B2:=(B2.le lc49).le lc51
 refine bH 8 S58 bC (ha2_y 0 rfl (fun _ mm=>(y_loadB (Blk.mod B1 mm (fun hs=>by rcases (hS58 _).1 hs with hs | hs | hs <;> first | omega)) 0 _))<|ha2_y 1 rfl (fun _ mm=>(y_loadB (Blk.mod B2 mm (fun hs=>by rcases (hS58 _).1 hs with hs | hs | hs <;> first | omega)) 0 _))<|ha2_p 2 rfl (fun _=>y_move)<|ha2_p 3 rfl (fun _=>y_move)<|?_)
 replace B4:=(((((B4.le lb5).le lb6).le lc8).le lc47).le lc49).le lc51
 refine aW 4 (cY rfl (aK aP B4) (fun v59 h59 q59=>?_))
 obtain ⟨rfl,q59⟩:=q59
 have z59:=q59.1
 have ms:=mm hS58 q59.2.1
 refine ⟨ms,?_⟩
 have B4:=q59.2.2
 replace B5:=(((((B5.le lb6).le lc8).le lc47).le lc49).le lc51).s q59
 refine aW 5 (cY rfl (aK aP B5) (fun v60 h60 q60=>?_))
 obtain ⟨rfl,q60⟩:=q60
 have z60:=q60.1
 replace mR58:=mR58.t ms
 have ms:=mm hS58 q60.2.1
 refine ⟨ms,?_⟩
 have B5:=q60.2.2
 refine ha2_p 6 rfl (fun _=>aC)<|ha2_p 7 rfl (fun _=>aC)<|cN ?_
 refine aF (ah4 6 7 8 9) fun r=>?_
 refine hw_rr ?_
 replace B4:=B4.s q60
 refine aQ rfl (.cons (bT B4) (.cons (bT B5) (.cons aU (.cons aU .nil)))) ?_
 have hr:eF v s a = _:=((congrArg (oJ v s a) hw).trans ((if_pos g21).trans ((if_neg (neF g29)).trans ((if_neg (neF g51)).trans ((if_neg (neF g57)).trans ((if_neg g69).trans ((if_neg g78).trans ((if_pos g111)))))))))
 replace le:=(((((((((((le.t lb1).t lb2).t lb3).t lb4).t lb5).t lb6).t lc8).t lc47).t lc49).t lc51).s q59).s q60
 replace k0:=(k0.st q59 (il hO5 (ir hO4))).st q60 (ir hO5)
 replace k1:=(k1.st q59 (il hO5 (ir hO4))).st q60 (ir hO5)
 replace k51_1:=(k51_1.st q59 (il hO5 (ir hO4))).st q60 (ir hO5)
 exact ⟨_,_,_,by first | rfl | (rw [hr] <;> rfl),le,(k0.wk (fun x hx=>(il hO5 (il hO4 (il hO3 (il hO2 (il hO1 hx))))))).cast (by first | rfl | (rw [hr] <;> rfl)),(k1.wk (fun x hx=>(il hO5 (il hO4 (il hO3 (il hO2 (il hO1 hx))))))).cast (by first | rfl | (rw [hr] <;> rfl)),(k51_1.wk (fun x hx=>(il hO5 (il hO4 (il hO3 (il hO2 (il hO1 hx))))))).cast (by first | rfl | (rw [hr] <;> rfl))⟩
 have hw:oZ v s = iJ v.list v.now:=by rw [oZ,g99]; rfl
 refine aM ?_
 refine aI ?_
 replace B3:=B3.le lc47
 refine aE (aB y_move<|aB (y_loadB B3 0 _)<|?_)
 replace OB0:=OB0.leO lc47.1
 refine bL aG (zU (a:=a) k47_1 OB0) (fun v61 h61 q61=>?_)
 obtain ⟨s61_1,rfl,lc61,k61_1⟩:=q61
 have z61:=lc61.1
 obtain ⟨A62,n62,c62,rfl⟩:=k61_1.frm
 refine aB y_move<|aB aL<|aB aL<|aB aC<|aB aC<|aD ?_
 refine aF (ah6 3 4 6 7 18 19) fun r=>?_
 refine aI ?_
 refine hw_sr (aB y_move<|aB fS<|aD ?_)
 refine fH (fun g111=>?_) (fun g111=>?_)
 refine aI ?_
 replace k0:=(k0.le lc47).le lc61
 have Rk0:=k0
 replace k1:=((((((((k1.nb lb1 hO1 eb1).nb lb2 hO2 eb2).nb lb3 hO3 eb3).nb lb4 hO4 eb4).nb lb5 hO5 eb5).le lb6).le lc8).le lc47).le lc61
 have Rk1:=k1
 have Rk61_1:=k61_1
 obtain ⟨S63,hS63⟩:=mkO (fun b=>h61.size ≤ b ∨ b = b4 ∨ b = b5)
 have mR63:Mod S63 h61 h61:=Mod.refl _
 have hd63:∀ b,b < h61.size∧¬ O5 b → ¬ S63 b:=fun b hb hs=>(fun hs=>hs.elim (fun hs=>absurd hb.1 (Nat.not_lt.2 hs)) (fun hs=>hs.elim (fun hs=>hb.2 (hs ▸ (il hO5 (ir hO4)))) (fun hs=>hb.2 (hs ▸ (ir hO5))))) ((hS63 b).1 hs)
 replace B1:=(B1.le lc47).le lc61
 replace B2:=B2.le lc61
 refine bH 9 S63 bC (ha2_y 0 rfl (fun _ mm=>(y_loadB (Blk.mod B1 mm (fun hs=>by rcases (hS63 _).1 hs with hs | hs | hs <;> first | omega)) 0 _))<|ha2_y 1 rfl (fun _ mm=>(y_loadB (Blk.mod B2 mm (fun hs=>by rcases (hS63 _).1 hs with hs | hs | hs <;> first | omega)) 0 _))<|ha2_p 3 rfl (fun _=>y_move)<|ha2_p 4 rfl (fun _=>y_move)<|?_)
 replace OB0:=OB0.leO lc61.1
 refine aW 2 (cC rfl aG (gY (s:=s) k1 OB0) (fun v64 h64 q64=>?_))
 obtain ⟨s64_1,rfl,lc64,k64_1⟩:=q64
 have z64:=lc64.1
 refine ⟨Le.mod lc64,?_⟩
 obtain ⟨A65,n65,c65,rfl⟩:=k64_1.frm
 replace B4:=(((((B4.le lb5).le lb6).le lc8).le lc47).le lc61).le lc64
 refine aW 5 (cY rfl (aK aP B4) (fun v66 h66 q66=>?_))
 obtain ⟨rfl,q66⟩:=q66
 have z66:=q66.1
 have ms:=mm hS63 q66.2.1
 refine ⟨ms,?_⟩
 have B4:=q66.2.2
 replace B5:=(((((B5.le lb6).le lc8).le lc47).le lc61).le lc64).s q66
 refine aW 6 (cY rfl (aK aP B5) (fun v67 h67 q67=>?_))
 obtain ⟨rfl,q67⟩:=q67
 have z67:=q67.1
 replace mR63:=(mR63.tl lc64).t ms
 have ms:=mm hS63 q67.2.1
 refine ⟨ms,?_⟩
 have B5:=q67.2.2
 refine ha2_p 7 rfl (fun _=>aC)<|ha2_p 8 rfl (fun _=>aC)<|cN ?_
 refine aF (ah4 6 7 8 9) fun r=>?_
 refine hw_rr ?_
 replace B4:=B4.s q67
 refine aQ rfl (.cons (bT B4) (.cons (bT B5) (.cons aU (.cons aU .nil)))) ?_
 have hr:eF v s a = _:=((congrArg (oJ v s a) hw).trans ((if_pos g21).trans ((if_neg (neF g29)).trans ((if_neg (neF g51)).trans ((if_neg (neF g57)).trans ((if_neg g69).trans ((if_neg g78).trans ((if_neg g111)))))))))
 replace le:=(((((((((((le.t lb1).t lb2).t lb3).t lb4).t lb5).t lb6).t lc8).t lc47).t lc61).t lc64).s q66).s q67
 replace k0:=((k0.le lc64).st q66 (il hO5 (ir hO4))).st q67 (ir hO5)
 replace k64_1:=(k64_1.st q66 (il hO5 (ir hO4))).st q67 (ir hO5)
 replace k61_1:=((k61_1.le lc64).st q66 (il hO5 (ir hO4))).st q67 (ir hO5)
 exact ⟨_,_,_,by first | rfl | (rw [hr] <;> rfl),le,(k0.wk (fun x hx=>(il hO5 (il hO4 (il hO3 (il hO2 (il hO1 hx))))))).cast (by first | rfl | (rw [hr] <;> rfl)),(k64_1.wk (fun x hx=>(il hO5 (il hO4 (il hO3 (il hO2 (il hO1 hx))))))).cast (by first | rfl | (rw [hr] <;> rfl)),(k61_1.wk (fun x hx=>(il hO5 (il hO4 (il hO3 (il hO2 (il hO1 hx))))))).cast (by first | rfl | (rw [hr] <;> rfl))⟩
 refine aM ?_
 refine aI ?_
 replace k0:=(k0.le lc47).le lc61
 have Rk0:=k0
 replace k1:=((((((((k1.nb lb1 hO1 eb1).nb lb2 hO2 eb2).nb lb3 hO3 eb3).nb lb4 hO4 eb4).nb lb5 hO5 eb5).le lb6).le lc8).le lc47).le lc61
 have Rk1:=k1
 have Rk61_1:=k61_1
 obtain ⟨S68,hS68⟩:=mkO (fun b=>h61.size ≤ b ∨ b = b4 ∨ b = b5)
 have mR68:Mod S68 h61 h61:=Mod.refl _
 have hd68:∀ b,b < h61.size∧¬ O5 b → ¬ S68 b:=fun b hb hs=>(fun hs=>hs.elim (fun hs=>absurd hb.1 (Nat.not_lt.2 hs)) (fun hs=>hs.elim (fun hs=>hb.2 (hs ▸ (il hO5 (ir hO4)))) (fun hs=>hb.2 (hs ▸ (ir hO5))))) ((hS68 b).1 hs)
 replace B1:=(B1.le lc47).le lc61
 replace B2:=B2.le lc61
 refine bH 8 S68 bC (ha2_y 0 rfl (fun _ mm=>(y_loadB (Blk.mod B1 mm (fun hs=>by rcases (hS68 _).1 hs with hs | hs | hs <;> first | omega)) 0 _))<|ha2_y 1 rfl (fun _ mm=>(y_loadB (Blk.mod B2 mm (fun hs=>by rcases (hS68 _).1 hs with hs | hs | hs <;> first | omega)) 0 _))<|ha2_p 2 rfl (fun _=>y_move)<|ha2_p 3 rfl (fun _=>y_move)<|?_)
 replace B4:=((((B4.le lb5).le lb6).le lc8).le lc47).le lc61
 refine aW 4 (cY rfl (aK aP B4) (fun v69 h69 q69=>?_))
 obtain ⟨rfl,q69⟩:=q69
 have z69:=q69.1
 have ms:=mm hS68 q69.2.1
 refine ⟨ms,?_⟩
 have B4:=q69.2.2
 replace B5:=((((B5.le lb6).le lc8).le lc47).le lc61).s q69
 refine aW 5 (cY rfl (aK aP B5) (fun v70 h70 q70=>?_))
 obtain ⟨rfl,q70⟩:=q70
 have z70:=q70.1
 replace mR68:=mR68.t ms
 have ms:=mm hS68 q70.2.1
 refine ⟨ms,?_⟩
 have B5:=q70.2.2
 refine ha2_p 6 rfl (fun _=>aC)<|ha2_p 7 rfl (fun _=>aC)<|cN ?_
 refine aF (ah4 6 7 8 9) fun r=>?_
 refine hw_rr ?_
 replace B4:=B4.s q70
 refine aQ rfl (.cons (bT B4) (.cons (bT B5) (.cons aU (.cons aU .nil)))) ?_
 have hr:eF v s a = _:=((congrArg (oJ v s a) hw).trans ((if_pos g21).trans ((if_neg (neF g29)).trans ((if_neg (neF g51)).trans ((if_neg (neF g57)).trans ((if_neg g69).trans ((if_neg g78).trans ((if_pos g111)))))))))
 replace le:=((((((((((le.t lb1).t lb2).t lb3).t lb4).t lb5).t lb6).t lc8).t lc47).t lc61).s q69).s q70
 replace k0:=(k0.st q69 (il hO5 (ir hO4))).st q70 (ir hO5)
 replace k1:=(k1.st q69 (il hO5 (ir hO4))).st q70 (ir hO5)
 replace k61_1:=(k61_1.st q69 (il hO5 (ir hO4))).st q70 (ir hO5)
 exact ⟨_,_,_,by first | rfl | (rw [hr] <;> rfl),le,(k0.wk (fun x hx=>(il hO5 (il hO4 (il hO3 (il hO2 (il hO1 hx))))))).cast (by first | rfl | (rw [hr] <;> rfl)),(k1.wk (fun x hx=>(il hO5 (il hO4 (il hO3 (il hO2 (il hO1 hx))))))).cast (by first | rfl | (rw [hr] <;> rfl)),(k61_1.wk (fun x hx=>(il hO5 (il hO4 (il hO3 (il hO2 (il hO1 hx))))))).cast (by first | rfl | (rw [hr] <;> rfl))⟩
 refine dA (a.kind = 7) (fun g61=>?_) (fun g61=>?_)
 refine aO (dT g61) y_fieldAddr<|aO (dT g61) (y_load (Blk.at B2 rfl rfl))<|aB (y_pickT (dT g61))<|?_
 exact jn _ (aA (aA (aA (aA (aA (aA (aA aJ (by simp only [aH,reduceIte,Nat.reduceEqDiff,reduceCtorEq,(dT g61),bb]))))))))
 refine aN (neF (dF g61))<|aN (neF (dF g61))<|aB (aR (dF g61))<|?_
 exact jn _ (aA (aA (aA (aA (aA (aA (aA aJ (by simp only [aH,reduceIte,Nat.reduceEqDiff,reduceCtorEq,(dF g61),bb]))))))))
 refine dA (a.kind = 8) (fun g33=>?_) (fun g33=>?_)
 refine aN (neT (dT g33))<|aN (neT (dT g33))<|aN (neT (dT g33))<|aB (y_pickT (dT g33))<|?_
 exact jn _ (aA (aA (aA (aA (aA (aA (aA aJ (by simp only [aH,reduceIte,Nat.reduceEqDiff,reduceCtorEq,(dT g33),bb]))))))))
 refine aO (dF g33) y_fieldAddr<|aO (dF g33) (y_load (Blk.at B3 rfl rfl))<|aO (dF g33) bM<|aB (aR (dF g33))<|?_
 exact jn _ (aA (aA (aA (aA (aA (aA (aA aJ (by simp only [aH,reduceIte,Nat.reduceEqDiff,reduceCtorEq,(dF g33),bb]))))))))
end
section
open Go.Conc
def fV (c:UInt8):Bool:=(decide (65 ≤ (c.toNat:Int)) && decide ((c.toNat:Int) ≤ 90)) || (decide (48 ≤ (c.toNat:Int)) && decide ((c.toNat:Int) ≤ 57))
def fK (c:UInt8):Bool:=decide (32 ≤ (c.toNat:Int)) && decide ((c.toNat:Int) ≤ 126)
def gX (l:Letter):Bool:=(!decide ((l.sign.length:Int) = 1) || (l.sign[0]?).any (fun y=>!fV y)) || decide (40 < (l.body.length:Int))
def cM (l:Letter):Bool:=!gX l && l.body.all fK
theorem gW {l:Letter} (h:cM l = true):l.sign.length = 1∧l.body.length ≤ 40:=by
  simp only [cM,gX,Bool.and_eq_true,Bool.not_eq_true',Bool.or_eq_false_iff,decide_eq_false_iff_not] at h
  have h1:=h.1.1.1
  simp only [Bool.not_eq_eq_eq_not,Bool.not_false,decide_eq_true_eq] at h1
  omega
def two (n:Int):Str:=dec (n.tdiv 10) ++ dec (n.tmod 10)
def eP (l:Letter):Str:=if cM l then (l.sign ++ two (l.body.length:Int)) ++ l.body else []
theorem aBv {n:Int} (h1:0 ≤ n) (h2:n ≤ 99):(two n).length ≤ 44:=by
  have t1:=lL (a:=n) (n:=10) h1 (by omega)
  have t2:=kQ (a:=n) (n:=10) h1 (by omega)
  have h3:=kT (n:=n.tdiv 10) (by omega)
  have h4:=kT (n:=n.tmod 10) (by omega)
  simp only [two,List.length_append]; omega
theorem kZ (l:Letter):(eP l).length ≤ 85:=by
  unfold eP
  split
  · rename_i h
    have:=gW h
    have:=aBv (n:=(l.body.length:Int)) (by omega) (by omega)
    simp only [List.length_append]; omega
  · simp
def gF (c:UInt8):Int:=if (decide ((c.toNat:Int) < 48) || decide (57 < (c.toNat:Int))) then -1 else (c.toNat:Int) - 48
theorem mL (c:UInt8) : -1 ≤ gF c∧gF c ≤ 9:=by
  unfold gF
  split
  · omega
  · rename_i h
    simp only [Bool.not_eq_true,Bool.or_eq_false_iff,decide_eq_false_iff_not] at h
    omega
def wP (s:Str):Bool:=decide (0 < (s.length:Int)) && (s[0]?).any (fun y=>!fV y)
def uB (s:Str):Bool:=(decide (1 < (s.length:Int)) && (s[1]?).any (fun y=>decide (gF y < 0))) || (decide (2 < (s.length:Int)) && (s[2]?).any (fun y=>decide (gF y < 0)))
def wO (s:Str):Bool:=decide (1 < (s.length:Int)) && (s[1]?).any (fun y=>decide (40 < gF y * 10))
def nJ (s:Str) (k:Nat):Int:=gF ((s[k]?).getD 0)
theorem kE {s:Str} {k:Nat} {x:UInt8} (h:s[k]? = some x):nJ s k = gF x:=by unfold nJ; rw [h]; rfl
def head (s:Str):Int × Int:=if wP s then (0,2) else if uB s then (0,2) else if wO s then (0,2) else if (s.length:Int) < 3 then (0,1) else if 40 < nJ s 1 * 10 + nJ s 2 then (0,2) else (nJ s 1 * 10 + nJ s 2,0)
theorem aBJ (s:Str):0 ≤ (head s).1∧(head s).1 ≤ 40∧((head s).2 = 0 → 3 ≤ s.length):=by
  unfold head
  by_cases hA:wP s = true
  · rw [if_pos hA]; exact ⟨by decide,by decide,fun h=>absurd h (by decide)⟩
  by_cases hB:uB s = true
  · rw [if_neg hA,if_pos hB]; exact ⟨by decide,by decide,fun h=>absurd h (by decide)⟩
  by_cases hC:wO s = true
  · rw [if_neg hA,if_neg hB,if_pos hC]; exact ⟨by decide,by decide,fun h=>absurd h (by decide)⟩
  by_cases hD:(s.length:Int) < 3
  · rw [if_neg hA,if_neg hB,if_neg hC,if_pos hD]; exact ⟨by decide,by decide,fun h=>absurd h (by decide)⟩
  by_cases hE:40 < nJ s 1 * 10 + nJ s 2
  · rw [if_neg hA,if_neg hB,if_neg hC,if_neg hD,if_pos hE]; exact ⟨by decide,by decide,fun h=>absurd h (by decide)⟩
  rw [if_neg hA,if_neg hB,if_neg hC,if_neg hD,if_neg hE]
  obtain ⟨x,hx⟩:∃ x,s[1]? = some x:=⟨_,List.getElem?_eq_getElem (by omega)⟩
  obtain ⟨y,hy⟩:∃ y,s[2]? = some y:=⟨_,List.getElem?_eq_getElem (by omega)⟩
  simp only [uB,hx,hy,Option.any_some,Bool.or_eq_true,Bool.and_eq_true,decide_eq_true_eq,not_or,not_and] at hB
  have h1:=hB.1 (by omega)
  have h2:=hB.2 (by omega)
  rw [kE hx,kE hy] at hE ⊢
  exact ⟨by dsimp only; omega,by dsimp only; omega,fun _=>by omega⟩
def lZ (s:Str):Str:=(s.take (3 + (head s).1).toNat).drop 3
def cA (s:Str):Letter × Int × Int :=
  if (head s).2 = 0 then if (lZ s).all fK then if (s.length:Int) < 3 + (head s).1 then (⟨[],[]⟩,0,1) else (⟨s.take 1,lZ s⟩,3 + (head s).1,0)
    else (⟨[],[]⟩,0,2)
  else (⟨[],[]⟩,0,(head s).2)
theorem jY (s:Str):(cA s).1.sign.length ≤ 1∧(cA s).1.body.length ≤ 40∧0 ≤ (cA s).2.1∧(cA s).2.1 ≤ 43∧((cA s).2.2 = 0 → 3 ≤ (cA s).2.1∧(cA s).2.1 ≤ (s.length:Int)):=by
  have hb:=aBJ s
  unfold cA
  split
  · split
    · split
      · exact ⟨by decide,by decide,by decide,by decide,fun h=>absurd h (by decide)⟩
      · refine ⟨by simp; omega,?_,by dsimp only; omega,by dsimp only; omega,fun _=>⟨by dsimp only; omega,by dsimp only; omega⟩⟩
        simp only [lZ,List.length_drop,List.length_take]; omega
    · exact ⟨by decide,by decide,by decide,by decide,fun h=>absurd h (by decide)⟩
  · rename_i h
    exact ⟨by simp,by simp,by simp,by simp,fun e=>absurd e h⟩
def iP (l:List Letter):Str:=if l.all cM then (l.map eP).flatten else []
def codeWords:List Str:=[[102,105,110,101],[102,111,114,109],[108,97,116,101],[102,117,108,108],[110,111,110,101],[98,97,100],[111,118,101,114]]
def eE (k:Int):Str:=(codeWords[k.toNat]?).getD []
theorem aAu {k:Int} {x:Str} (h:codeWords[k.toNat]? = some x):eE k = x:=by unfold eE; rw [h]; rfl
theorem qS (k:Int):(eE k).length ≤ 4:=by
  unfold eE
  cases h:codeWords[k.toNat]? with
  | none=>simp
  | some x=>exact iV (l:=codeWords) (n:=4) (by decide) (List.mem_of_getElem? h)
def lY (s:Str):Bool:=(List.range 6).any fun k=>decide (eE ((k:Int) + 1) = s)
def tX (s:Str):Bool:=decide (((pieces 32 s []).length:Int) = 2) && ((jI (atS (pieces 32 s []) 1)).2 && ((pieces 32 s [])[0]?).any fun y=>fD y)
def aBw (q:Int):Bool:=decide (q = 2) || decide (q = 3)
def wC (l:Letter):Bool:=decide (l.sign = [82]) && tX l.body
def wB (l:Letter):Bool:=decide (l.sign = [67]) && decide (l.body = eE 0)
def qF (l:Letter):Bool:=((decide (l.sign = [69]) && lY l.body) || (decide (l.sign = [49]) && decide (l.body = []))) || (decide (l.sign = [90]) && ((decide (l.body = [105]) || decide (l.body = [116])) || decide (l.body = [101])))
def yU (l:Letter):Bool:=decide (l.sign = [66]) && decide (l.body = [])
def kM (q:Int) (l:Letter):Int:=if aBw q then 3 else if wC l then 1 else if wB l then 0 else if q = 1 then 3 else if qF l then 0 else if yU l then 2 else 3
def dZ (q:Int) (l:Letter):Int:=if ((decide (q < 0) || decide (3 < q)) || !cM l) then 3 else kM q l
def sU (l:List Letter):Int:=l.foldl dZ 0
def fX (q:Int) (s:Str):Int :=
  if 0 < s.length then if (cA s).2.2 = 0 then fX (kM q (cA s).1) (s.drop (cA s).2.1.toNat) else 3 else q
 termination_by s.length
 decreasing_by
  have:=(jY s).2.2.2.2 (by assumption)
  rw [List.length_drop]; omega
theorem aCm {l:List Letter} {k:Nat} {x:Letter} (hx:l[k]? = some x):((l.take (k + 1)).map eP).flatten = ((l.take k).map eP).flatten ++ eP x:=by
  obtain ⟨h1,rfl⟩:=List.getElem?_eq_some_iff.1 hx
  rw [List.take_succ_eq_append_getElem h1,List.map_append,List.flatten_append]; simp
theorem aAm (l:List Letter):((l.map eP).flatten).length ≤ 85 * l.length:=by
  induction l with
  | nil=>simp
  | cons x l ih=>have:=kZ x; simp only [List.map_cons,List.flatten_cons,List.length_append,List.length_cons]; omega
theorem kF {α:Type} {p:α → Bool} {l:List α} {k:Nat} {x:α} (hx:l[k]? = some x):(l.take (k + 1)).all p = ((l.take k).all p && p x):=by
  obtain ⟨h1,rfl⟩:=List.getElem?_eq_some_iff.1 hx
  rw [List.take_succ_eq_append_getElem h1,List.all_append]; simp
theorem rK {α:Type} {p:α → Bool} {l:List α} {k:Nat} {x:α} (hx:l[k]? = some x) (h:p x = false):l.all p = false:=List.all_eq_false.2 ⟨x,List.mem_of_getElem? hx,by rw [h]; decide⟩
theorem bodyNo {s:Str} {k n:Nat} {x:UInt8} (hx:s[k]? = some x) (h3:3 ≤ k) (hn:k < n) (h:fK x = false):((s.take n).drop 3).all fK = false:=by
  refine rK (k:=k - 3) (x:=x) ?_ h
  rw [List.getElem?_drop,List.getElem?_take,show 3 + (k - 3) = k by omega,if_pos hn]
  exact hx
theorem sK (l:List Letter):(iP l).length ≤ 85 * l.length:=by
  have:=aAm l
  unfold iP; split
  · exact this
  · simp
set_option maxHeartbeats 1000000 in
theorem zR {w0:World} {h:Heap} {c:UInt8}   : HC (XM PP) w0 59 [.int .u8 (c.toNat:Int)].toArray h (fun rv h'=>rv = vb (fV c)∧h' = h):=by
 refine aV 17 [(0,.int .u8 (c.toNat:Int))] Tryz.func59 (fun r=>?_)
 refine hw_sr (aB aC<|aD ?_)
 refine hw_sr (aB y_move<|aB y_geq<|aB y_move<|?_)
 refine bB 3 [(0,.int .u8 (c.toNat:Int)),(8,vb ((decide ((65:Int) ≤ (c.toNat:Int))) && (decide ((c.toNat:Int) ≤ 90))))] (fun r=>?_) (fun jn=>?_)
 refine aB y_move<|?_
 refine bB 7 [(16,vb (((decide ((65:Int) ≤ (c.toNat:Int))) && (decide ((c.toNat:Int) ≤ 90))) || ((decide ((48:Int) ≤ (c.toNat:Int))) && (decide ((c.toNat:Int) ≤ 57)))))] (fun r=>?_) (fun jn=>?_)
 refine aB aC<|aD ?_
 refine hw_rr ?_
 refine aQ rfl (.cons aU .nil) ?_
 exact ⟨by first | rfl | (simp_all [oneOf] <;> omega),rfl⟩
 refine eT (b:=((decide ((65:Int) ≤ (c.toNat:Int))) && (decide ((c.toNat:Int) ≤ 90)))) (fun g9=>?_) (fun g9=>?_)
 have g9':=g9
 simp at g9'
 refine aN (neT g9)<|aN (neT g9)<|aN (neT g9)<|bZ<|bZ<|aN (neT g9)<|aB (y_pickT g9)<|?_
 exact jn _ (aA aJ (by simp only [aH,reduceIte,Nat.reduceEqDiff,reduceCtorEq,g9,bb]))
 have g9':=g9
 simp at g9'
 refine aO g9 y_move<|aO g9 y_geq<|aO g9 y_move<|?_
 refine dA ((48:Int) ≤ (c.toNat:Int)) (fun g12=>?_) (fun g12=>?_)
 refine aO (dT g12) y_move<|aO (dT g12) y_leq<|aO g9 (y_pickT (dT g12))<|aB (aR g9)<|?_
 exact jn _ (aA aJ (by first | (simp only [aH,reduceIte,Nat.reduceEqDiff,reduceCtorEq,(dT g12),g9,bb]; done) | (simp only [aH,reduceIte,Nat.reduceEqDiff,reduceCtorEq]; try simp only [g9,bb]; try simp only [(dT g12),bb])))
 refine aN (neF (dF g12))<|aN (neF (dF g12))<|aO g9 (aR (dF g12))<|aB (aR g9)<|?_
 exact jn _ (aA aJ (by first | (simp only [aH,reduceIte,Nat.reduceEqDiff,reduceCtorEq,(dF g12),g9,bb]; done) | (simp only [aH,reduceIte,Nat.reduceEqDiff,reduceCtorEq]; try simp only [g9,bb]; try simp only [(dF g12),bb])))
 refine dA ((65:Int) ≤ (c.toNat:Int)) (fun g5=>?_) (fun g5=>?_)
 refine aO (dT g5) y_move<|aO (dT g5) y_leq<|aB (y_pickT (dT g5))<|?_
 exact jn _ (aA (aA aJ (by simp only [aH,reduceIte,Nat.reduceEqDiff,reduceCtorEq,(dT g5),bb])))
 refine aN (neF (dF g5))<|aN (neF (dF g5))<|aB (aR (dF g5))<|?_
 exact jn _ (aA (aA aJ (by simp only [aH,reduceIte,Nat.reduceEqDiff,reduceCtorEq,(dF g5),bb])))
set_option maxHeartbeats 1000000 in
theorem zS {w0:World} {h:Heap} {c:UInt8}   : HC (XM PP) w0 42 [.int .u8 (c.toNat:Int)].toArray h (fun rv h'=>rv = vb (fK c)∧h' = h):=by
 refine aV 9 [(0,.int .u8 (c.toNat:Int))] Tryz.func42 (fun r=>?_)
 refine hw_sr (aB aC<|aD ?_)
 refine hw_sr (aB y_move<|aB y_geq<|aB y_move<|?_)
 refine bB 3 [(8,vb ((decide ((32:Int) ≤ (c.toNat:Int))) && (decide ((c.toNat:Int) ≤ 126))))] (fun r=>?_) (fun jn=>?_)
 refine aB aC<|aD ?_
 refine hw_rr ?_
 refine aQ rfl (.cons aU .nil) ?_
 exact ⟨by first | rfl | (simp_all [oneOf] <;> omega),rfl⟩
 refine dA ((32:Int) ≤ (c.toNat:Int)) (fun g5=>?_) (fun g5=>?_)
 refine aO (dT g5) y_move<|aO (dT g5) y_leq<|aB (y_pickT (dT g5))<|?_
 exact jn _ (aA aJ (by simp only [aH,reduceIte,Nat.reduceEqDiff,reduceCtorEq,(dT g5),bb]))
 refine aN (neF (dF g5))<|aN (neF (dF g5))<|aB (aR (dF g5))<|?_
 exact jn _ (aA aJ (by simp only [aH,reduceIte,Nat.reduceEqDiff,reduceCtorEq,(dF g5),bb]))
set_option maxHeartbeats 1000000 in
theorem nH {w0:World} {h:Heap} {O:Nat → Prop} {l:Letter}  (OB0:OB h O) (s0:SB l.sign:=by first | assumption | omega | (simp; done) | (simp; omega)) (s1:SB l.body:=by first | assumption | omega | (simp; done) | (simp; omega)):HC (XM PP) w0 34 [.agg #[vs l.sign,vs l.body]].toArray h (fun rv h'=>rv = vb (cM l)∧Le h h'):=by
 have le:=Le.refl h
 have OBe:=OB0
 refine aV 34 [(0,.agg #[vs l.sign,vs l.body])] Tryz.func34 (fun r=>?_)
 refine hw_sr (bE cW (fun v1 h1 q1=>?_))
 obtain ⟨b1,O1,rfl,eb1,sb1,lb1,B1,hO1⟩:=q1.ox O
 refine aB aC<|aD ?_
 refine aI ?_
 refine hw_sr (aB y_fieldAddr<|aB (y_load (Blk.at B1 rfl rfl))<|aB y_len_str<|aB fS<|aB y_move<|?_)
 refine bB 6 [(1,.pointer (some ⟨b1,0,none⟩)),(14,vb ((!decide ((l.sign.length:Int) = 1)) || ((l.sign[0]?).any (fun y=>(!fV y)))))] (fun r=>?_) (fun jn=>?_)
 refine aB y_move<|?_
 refine bB 5 [(1,.pointer (some ⟨b1,0,none⟩)),(20,vb (((!decide ((l.sign.length:Int) = 1)) || ((l.sign[0]?).any (fun y=>(!fV y)))) || (decide ((40:Int) < (l.body.length:Int)))))] (fun r=>?_) (fun jn=>?_)
 refine aD ?_
 refine bF (fun g20=>?_) (fun g20=>?_)
 have g20':=g20
 simp at g20'
 refine hw_sr (aB aC<|aD ?_)
 refine hw_rr ?_
 refine aQ rfl (.cons aU .nil) ?_
 have hr:cM l = false:=by unfold cM gX; rw [g20]; rfl
 replace le:=le.t lb1
 exact ⟨by first | rfl | (rw [hr]; rfl),le⟩
 have g20':=g20
 simp at g20'
 have hb:gX l = false:=g20
 refine aM ?_
 refine aI ?_
 refine hw_sr (aB aC<|aD ?_)
 refine cT (fun (k:Nat)=>[(1,.pointer (some ⟨b1,0,none⟩)),(3,vi (k:Int))]) (fun (k:Nat) (h' : Heap)=>Le h1 h' ∧ l.body.all fK = true) (aX (cK (fun (k:Nat)=>[(1,.pointer (some ⟨b1,0,none⟩)),(3,vi (k:Int))]) (fun (k:Nat) (h' : Heap)=>Le h1 h' ∧ k ≤ l.body.length∧(l.body.take k).all fK = true) (fun (k:Nat)=>l.body.length - k) (0) ag2 ⟨Le.refl _,by simp⟩ ?_)) ?_
 rintro k r hl2 ⟨lp2,e1,e2⟩
 have zl2:=lp2.1
 have lr2:=lp2
 refine aI ?_
 refine aI ?_
 replace B1:=B1.le lp2
 refine aE (aB y_move<|aB y_fieldAddr<|aB (y_load (Blk.at B1 rfl rfl))<|aB y_len_str<|aB dB<|aD ?_)
 refine aF (ah3 1 3 25) fun r=>?_
 refine aZ (fun g25=>?_) (fun g25=>?_)
 refine aM ?_
 refine aI ?_
 refine aX ?_
 refine hw_sr (aB y_fieldAddr<|aB (y_load (Blk.at B1 rfl rfl))<|aB y_move<|?_)
 obtain ⟨x2,hx2⟩:∃ c,l.body[k]? = some c:=⟨_,List.getElem?_eq_getElem (by omega)⟩
 refine aB (bV hx2)<|dY aG zS<|aB dG<|aD ?_
 refine aF (ah3 1 3 33) fun r=>?_
 refine dS (fun g33=>?_) (fun g33=>?_)
 refine hw_sr (aB aC<|aD ?_)
 refine hw_rr ?_
 refine aQ rfl (.cons aU .nil) ?_
 have hr:cM l = false:=by unfold cM; rw [rK (p:=fK) (by assumption) g33]; simp
 replace le:=(le.t lb1).t lp2
 exact ⟨by first | rfl | (rw [hr]; rfl),le⟩
 refine aM ?_
 refine aE (aB y_move<|aB bI<|aB aC<|aD ?_)
 exact ⟨k + 1,ag2,⟨lr2,by exact ⟨by omega,by rw [kF (by assumption),e2]; simp_all⟩⟩,by first | omega | (dsimp only; omega)⟩
 refine cI ?_
 exact ⟨k,ag2,⟨lr2,by rw [List.take_of_length_le (by omega)] at e2; exact e2⟩⟩
 rintro k r hl2 ⟨lp2,e1⟩
 have zl2:=lp2.1
 refine hw_sr (aB aC<|aD ?_)
 refine hw_rr ?_
 refine aQ rfl (.cons aU .nil) ?_
 have hr:cM l = true:=by unfold cM; rw [hb,e1]; rfl
 replace le:=(le.t lb1).t lp2
 exact ⟨by first | rfl | (rw [hr]; rfl),le⟩
 refine eT (b:=((!decide ((l.sign.length:Int) = 1)) || ((l.sign[0]?).any (fun y=>(!fV y))))) (fun g15=>?_) (fun g15=>?_)
 have g15':=g15
 simp at g15'
 refine aN (neT g15)<|aN (neT g15)<|aN (neT g15)<|aN (neT g15)<|aB (y_pickT g15)<|?_
 exact jn _ (aA (aA aJ (by simp only [aH,reduceIte,Nat.reduceEqDiff,reduceCtorEq,g15,bb])))
 have g15':=g15
 simp at g15'
 refine aO g15 y_fieldAddr<|aO g15 (y_load (Blk.at B1 rfl rfl))<|aO g15 y_len_str<|aO g15 cU<|aB (aR g15)<|?_
 exact jn _ (aA (aA aJ (by simp only [aH,reduceIte,Nat.reduceEqDiff,reduceCtorEq,g15,bb])))
 refine dA ((l.sign.length:Int) = 1) (fun g8=>?_) (fun g8=>?_)
 refine aO (nT (dT g8)) y_fieldAddr<|aO (nT (dT g8)) (y_load (Blk.at B1 rfl rfl))<|?_
 obtain ⟨x1,hx1⟩:∃ c,l.sign[0]? = some c:=⟨_,List.getElem?_eq_getElem (by omega)⟩
 refine aO (nT (dT g8)) (bV hx1)<|gH (nT (dT g8)) aG zR<|aO (nT (dT g8)) dG<|aB (aR (nT (dT g8)))<|?_
 exact jn _ (aA (aA aJ (by simp only [aH,reduceIte,Nat.reduceEqDiff,reduceCtorEq,(nT (dT g8)),hx1,bb])))
 refine aN (neT (nF (dF g8)))<|aN (neT (nF (dF g8)))<|aN (neT (nF (dF g8)))<|aN (neT (nF (dF g8)))<|aN (neT (nF (dF g8)))<|aB (y_pickT (nF (dF g8)))<|?_
 exact jn _ (aA (aA aJ (by simp only [aH,reduceIte,Nat.reduceEqDiff,reduceCtorEq,(nF (dF g8)),bb])))
set_option maxHeartbeats 1000000 in
theorem l5Two_c {w0:World} {h:Heap} {O:Nat → Prop} {n:Int}  (OB0:OB h O)  (h0:0 ≤ n∧n ≤ 99:=by omega):HC (XM PP) w0 63 [vi n].toArray h (fun rv h'=>rv = vs (two n)∧Le h h'):=by
 have le:=Le.refl h
 have OBe:=OB0
 have t1:=lL (a:=n) (n:=10) (by omega) (by omega)
 have t2:=kQ (a:=n) (n:=10) (by omega) (by omega)
 have hd3:=kT (n:=n.tdiv 10) (by omega)
 have hd4:=kT (n:=n.tmod 10) (by omega)
 refine aV 10 [(0,vi n)] Tryz.func63 (fun r=>?_)
 refine hw_sr (aB aC<|aD ?_)
 refine hw_sr (aB y_move<|aB pM<|bL aG (lB OB0) (fun v1 h1 q1=>?_))
 obtain ⟨rfl,lc1⟩:=q1
 have z1:=lc1.1
 refine aB y_move<|aB pE<|?_
 replace OB0:=OB0.leO lc1.1
 refine bL aG (lB OB0) (fun v2 h2 q2=>?_)
 obtain ⟨rfl,lc2⟩:=q2
 have z2:=lc2.1
 refine aB dX<|aB aC<|aD ?_
 refine aF (ah1 2) fun r=>?_
 refine hw_rr ?_
 refine aQ rfl (.cons aU .nil) ?_
 replace le:=(le.t lc1).t lc2
 exact ⟨by first | rfl | (simp_all [oneOf] <;> omega),le⟩
set_option maxHeartbeats 1000000 in
theorem yF {w0:World} {h:Heap} {O:Nat → Prop} {l:Letter}  (OB0:OB h O) (s0:SB l.sign:=by first | assumption | omega | (simp; done) | (simp; omega)) (s1:SB l.body:=by first | assumption | omega | (simp; done) | (simp; omega)):HC (XM PP) w0 39 [.agg #[vs l.sign,vs l.body]].toArray h (fun rv h'=>rv = vs (eP l)∧Le h h'):=by
 have le:=Le.refl h
 have OBe:=OB0
 refine aV 16 [(0,.agg #[vs l.sign,vs l.body])] Tryz.func39 (fun r=>?_)
 refine hw_sr (bE cW (fun v1 h1 q1=>?_))
 obtain ⟨b1,O1,rfl,eb1,sb1,lb1,B1,hO1⟩:=q1.ox O
 refine aB aC<|aD ?_
 refine aI ?_
 refine hw_sr (aB (y_loadB B1 0 _)<|?_)
 replace OB0:=OB0.newB sb1 hO1 eb1
 refine bL aG (nH (l:=l) OB0) (fun v2 h2 q2=>?_)
 obtain ⟨rfl,lc2⟩:=q2
 have z2:=lc2.1
 refine aB dG<|aD ?_
 refine dS (fun g5=>?_) (fun g5=>?_)
 refine hw_sr (aB aC<|aD ?_)
 refine hw_rr ?_
 refine aQ rfl (.cons aU .nil) ?_
 replace le:=(le.t lb1).t lc2
 exact ⟨by first | rfl | (simp_all [oneOf,eP] <;> intros <;> (repeat' split) <;> (try and_intros) <;> first | rfl | omega | (simp_all; done)),le⟩
 have hl:=gW (l:=l) (by simp_all)
 have htw:=aBv (n:=(l.body.length:Int)) (by omega) (by omega)
 refine aM ?_
 refine aI ?_
 obtain ⟨S3,hS3⟩:=mkO (fun b=>h2.size ≤ b)
 have mR3:Mod S3 h2 h2:=Mod.refl _
 have hd3:∀ b,b < h2.size∧¬ O1 b → ¬ S3 b:=fun b hb hs=>(fun hs=>absurd hb.1 (Nat.not_lt.2 hs)) ((hS3 b).1 hs)
 replace B1:=B1.le lc2
 refine bH 11 S3 bC (ha2_p 0 rfl (fun _=>y_fieldAddr)<|ha2_y 1 rfl (fun _ mm=>(y_load (Blk.at (Blk.mod B1 mm (fun hs=>by rcases (hS3 _).1 hs with hs <;> first | omega)) rfl rfl)))<|ha2_p 2 rfl (fun _=>y_fieldAddr)<|ha2_y 3 rfl (fun _ mm=>(y_load (Blk.at (Blk.mod B1 mm (fun hs=>by rcases (hS3 _).1 hs with hs <;> first | omega)) rfl rfl)))<|ha2_y 4 rfl (fun _ _=>y_len_str)<|ha2_p 7 rfl (fun _=>y_fieldAddr)<|ha2_y 8 rfl (fun _ mm=>(y_load (Blk.at (Blk.mod B1 mm (fun hs=>by rcases (hS3 _).1 hs with hs <;> first | omega)) rfl rfl)))<|?_)
 replace OB0:=OB0.leO lc2.1
 refine aW 5 (cC rfl aG (l5Two_c OB0) (fun v4 h4 q4=>?_))
 obtain ⟨rfl,lc4⟩:=q4
 have z4:=lc4.1
 refine ⟨Le.mod lc4,?_⟩
 refine ha2_p 6 rfl (fun _=>dX)<|ha2_p 9 rfl (fun _=>dX)<|ha2_p 10 rfl (fun _=>aC)<|cN ?_
 refine aF (ah1 2) fun r=>?_
 refine hw_rr ?_
 refine aQ rfl (.cons aU .nil) ?_
 replace le:=((le.t lb1).t lc2).t lc4
 exact ⟨by first | rfl | (simp_all [oneOf,eP] <;> intros <;> (repeat' split) <;> (try and_intros) <;> first | rfl | omega | (simp_all; done)),le⟩
set_option maxHeartbeats 1000000 in
theorem mH {w0:World} {h:Heap} {c:UInt8}   : HC (XM PP) w0 64 [.int .u8 (c.toNat:Int)].toArray h (fun rv h'=>rv = vi (gF c)∧h' = h):=by
 refine aV 12 [(0,.int .u8 (c.toNat:Int))] Tryz.func64 (fun r=>?_)
 refine hw_sr (aB aC<|aD ?_)
 refine aI ?_
 refine hw_sr (aB y_move<|aB dB<|aB y_move<|?_)
 refine bB 3 [(0,.int .u8 (c.toNat:Int)),(8,vb ((decide ((c.toNat:Int) < 48)) || (decide ((57:Int) < (c.toNat:Int)))))] (fun r=>?_) (fun jn=>?_)
 refine aD ?_
 refine bF (fun g8=>?_) (fun g8=>?_)
 have g8':=g8
 simp at g8'
 refine hw_sr (aB aC<|aD ?_)
 refine hw_rr ?_
 refine aQ rfl (.cons aU .nil) ?_
 have hr:gF c = -1:=if_pos g8
 exact ⟨by first | rfl | (rw [hr]; rfl),rfl⟩
 have g8':=g8
 simp at g8'
 have hc:=c.toNat_lt
 refine aM ?_
 refine hw_sr (aB y_move<|aB (dQ (hw:=eX (by omega) (by omega)))<|aB iZ<|aB aC<|aD ?_)
 refine aF (ah1 2) fun r=>?_
 refine hw_rr ?_
 refine aQ rfl (.cons aU .nil) ?_
 have hr:gF c = (c.toNat:Int) - 48:=if_neg (neF g8)
 exact ⟨by first | rfl | (rw [hr]; rfl),rfl⟩
 refine dA ((c.toNat:Int) < 48) (fun g5=>?_) (fun g5=>?_)
 refine aN (neT (dT g5))<|aN (neT (dT g5))<|aB (y_pickT (dT g5))<|?_
 exact jn _ (aA (aA aJ (by simp only [aH,reduceIte,Nat.reduceEqDiff,reduceCtorEq,(dT g5),bb])))
 refine aO (dF g5) y_move<|aO (dF g5) cU<|aB (aR (dF g5))<|?_
 exact jn _ (aA (aA aJ (by simp only [aH,reduceIte,Nat.reduceEqDiff,reduceCtorEq,(dF g5),bb])))
set_option maxHeartbeats 1000000 in
theorem aC1 {w0:World} {h:Heap} {s:Str}  (s0:SB s:=by first | assumption | omega | (simp; done) | (simp; omega)):HC (XM PP) w0 41 [vs s].toArray h (fun rv h'=>rv = .tuple #[vi ((head s).1),vi ((head s).2)]∧h' = h):=by
 refine aV 58 [(0,vs s)] Tryz.func41 (fun r=>?_)
 refine hw_sr (aB aC<|aB aC<|aD ?_)
 refine aI ?_
 refine hw_sr (aB y_move<|aB y_len_str<|aB cU<|aB y_move<|?_)
 refine bB 5 [(0,vs s),(13,vb ((decide ((0:Int) < (s.length:Int))) && ((s[0]?).any (fun y=>(!fV y)))))] (fun r=>?_) (fun jn=>?_)
 refine aD ?_
 refine bF (fun g13=>?_) (fun g13=>?_)
 have g13':=g13
 simp at g13'
 refine hw_sr (aB aC<|aB aC<|aD ?_)
 refine hw_rr ?_
 refine aQ rfl (.cons aU (.cons aU .nil)) ?_
 have hr:head s = (0,2):=if_pos g13
 exact ⟨by first | rfl | (rw [hr]; rfl),rfl⟩
 have g13':=g13
 simp at g13'
 refine aM ?_
 refine aI ?_
 refine hw_sr (aB y_move<|aB y_len_str<|aB cU<|aB y_move<|?_)
 refine bB 5 [(0,vs s),(22,vb ((decide ((1:Int) < (s.length:Int))) && ((s[1]?).any (fun y=>(decide (gF y < 0))))))] (fun r=>?_) (fun jn=>?_)
 refine aB y_move<|?_
 refine bB 10 [(0,vs s),(33,vb (((decide ((1:Int) < (s.length:Int))) && ((s[1]?).any (fun y=>(decide (gF y < 0))))) || ((decide ((2:Int) < (s.length:Int))) && ((s[2]?).any (fun y=>(decide (gF y < 0)))))))] (fun r=>?_) (fun jn=>?_)
 refine aD ?_
 refine bF (fun g33=>?_) (fun g33=>?_)
 have g33':=g33
 simp at g33'
 refine hw_sr (aB aC<|aB aC<|aD ?_)
 refine hw_rr ?_
 refine aQ rfl (.cons aU (.cons aU .nil)) ?_
 have hr:head s = (0,2):=(if_neg (neF g13)).trans (if_pos g33)
 exact ⟨by first | rfl | (rw [hr]; rfl),rfl⟩
 have g33':=g33
 simp at g33'
 refine aM ?_
 refine aI ?_
 refine hw_sr (aB y_move<|aB y_len_str<|aB cU<|aB y_move<|?_)
 refine bB 6 [(0,vs s),(43,vb ((decide ((1:Int) < (s.length:Int))) && ((s[1]?).any (fun y=>(decide ((40:Int) < (gF y * 10)))))))] (fun r=>?_) (fun jn=>?_)
 refine aD ?_
 refine bF (fun g43=>?_) (fun g43=>?_)
 have g43':=g43
 simp at g43'
 refine hw_sr (aB aC<|aB aC<|aD ?_)
 refine hw_rr ?_
 refine aQ rfl (.cons aU (.cons aU .nil)) ?_
 have hr:head s = (0,2):=(if_neg (neF g13)).trans ((if_neg (neF g33)).trans (if_pos g43))
 exact ⟨by first | rfl | (rw [hr]; rfl),rfl⟩
 have g43':=g43
 simp at g43'
 refine aM ?_
 refine aI ?_
 refine hw_sr (aB y_move<|aB y_len_str<|aB dB<|aD ?_)
 refine aZ (fun g46=>?_) (fun g46=>?_)
 refine hw_sr (aB aC<|aB aC<|aD ?_)
 refine hw_rr ?_
 refine aQ rfl (.cons aU (.cons aU .nil)) ?_
 have hr:head s = (0,1):=(if_neg (neF g13)).trans ((if_neg (neF g33)).trans ((if_neg (neF g43)).trans (if_pos g46)))
 exact ⟨by first | rfl | (rw [hr]; rfl),rfl⟩
 refine aM ?_
 refine aI ?_
 refine qO 9 bC (cZ 0 rfl y_move<|?_)
 obtain ⟨x2,hx2⟩:∃ c,s[1]? = some c:=⟨_,List.getElem?_eq_getElem (by omega)⟩
 have hd2:=mL x2
 refine cZ 1 rfl (bV hx2)<|cZ 4 rfl y_move<|?_
 obtain ⟨x3,hx3⟩:∃ c,s[2]? = some c:=⟨_,List.getElem?_eq_getElem (by omega)⟩
 have hd3:=mL x3
 refine cZ 5 rfl (bV hx3)<|rI 2 rfl aG mH<|cZ 3 rfl hG<|rI 6 rfl aG mH<|cZ 7 rfl bI<|cZ 8 rfl aC<|fN ?_
 refine aF (ah1 4) fun r=>?_
 refine aI ?_
 refine hw_sr (aB y_move<|aB cU<|aD ?_)
 refine aZ (fun g56=>?_) (fun g56=>?_)
 refine hw_sr (aB aC<|aB aC<|aD ?_)
 refine hw_rr ?_
 refine aQ rfl (.cons aU (.cons aU .nil)) ?_
 have hr:head s = (0,2):=by unfold head; rw [if_neg (neF (show wP s = false from g13)),if_neg (neF (show uB s = false from g33)),if_neg (neF (show wO s = false from g43)),if_neg g46,kE (k:=1) (by assumption),kE (k:=2) (by assumption),if_pos g56]
 exact ⟨by first | rfl | (rw [hr]; rfl),rfl⟩
 refine aM ?_
 refine hw_sr (aB y_move<|aB aC<|aB aC<|aD ?_)
 refine hw_rr ?_
 refine aQ rfl (.cons aU (.cons aU .nil)) ?_
 have hr:head s = (nJ s 1 * 10 + nJ s 2,0):=by unfold head; rw [if_neg (neF (show wP s = false from g13)),if_neg (neF (show uB s = false from g33)),if_neg (neF (show wO s = false from g43)),if_neg g46,kE (k:=1) (by assumption),kE (k:=2) (by assumption),if_neg g56]
 have hq1:=kE (s:=s) (k:=1) (by assumption)
 have hq2:=kE (s:=s) (k:=2) (by assumption)
 exact ⟨by first | rfl | (rw [hr,hq1,hq2]; rfl),rfl⟩
 refine dA ((1:Int) < (s.length:Int)) (fun g37=>?_) (fun g37=>?_)
 refine aO (dT g37) y_move<|?_
 obtain ⟨x2,hx2⟩:∃ c,s[1]? = some c:=⟨_,List.getElem?_eq_getElem (by omega)⟩
 have hd2:=mL x2
 refine aO (dT g37) (bV hx2)<|gH (dT g37) aG mH<|aO (dT g37) hG<|aO (dT g37) cU<|aB (y_pickT (dT g37))<|?_
 exact jn _ (aA (aA aJ (by simp only [aH,reduceIte,Nat.reduceEqDiff,reduceCtorEq,(dT g37),hx2,bb])))
 refine aN (neF (dF g37))<|aN (neF (dF g37))<|aN (neF (dF g37))<|aN (neF (dF g37))<|aN (neF (dF g37))<|aB (aR (dF g37))<|?_
 exact jn _ (aA (aA aJ (by simp only [aH,reduceIte,Nat.reduceEqDiff,reduceCtorEq,(dF g37),bb])))
 refine eT (b:=((decide ((1:Int) < (s.length:Int))) && ((s[1]?).any (fun y=>(decide (gF y < 0)))))) (fun g23=>?_) (fun g23=>?_)
 have g23':=g23
 simp at g23'
 refine aN (neT g23)<|aN (neT g23)<|aN (neT g23)<|aN (neT g23)<|bZ<|bZ<|bZ<|bZ<|aN (neT g23)<|aB (y_pickT g23)<|?_
 exact jn _ (aA (aA aJ (by simp only [aH,reduceIte,Nat.reduceEqDiff,reduceCtorEq,g23,bb])))
 have g23':=g23
 simp at g23'
 refine aO g23 y_move<|aO g23 y_len_str<|aO g23 cU<|aO g23 y_move<|?_
 refine dA ((2:Int) < (s.length:Int)) (fun g27=>?_) (fun g27=>?_)
 refine aO (dT g27) y_move<|?_
 obtain ⟨x3,hx3⟩:∃ c,s[2]? = some c:=⟨_,List.getElem?_eq_getElem (by omega)⟩
 have hd3:=mL x3
 refine aO (dT g27) (bV hx3)<|gH (dT g27) aG mH<|aO (dT g27) dB<|aO g23 (y_pickT (dT g27))<|aB (aR g23)<|?_
 exact jn _ (aA (aA aJ (by first | (simp only [aH,reduceIte,Nat.reduceEqDiff,reduceCtorEq,(dT g27),g23,hx3,bb]; done) | (simp only [aH,reduceIte,Nat.reduceEqDiff,reduceCtorEq]; try simp only [g23,hx3,bb]; try simp only [(dT g27),hx3,bb]))))
 refine aN (neF (dF g27))<|aN (neF (dF g27))<|aN (neF (dF g27))<|aN (neF (dF g27))<|aO g23 (aR (dF g27))<|aB (aR g23)<|?_
 exact jn _ (aA (aA aJ (by first | (simp only [aH,reduceIte,Nat.reduceEqDiff,reduceCtorEq,(dF g27),g23,bb]; done) | (simp only [aH,reduceIte,Nat.reduceEqDiff,reduceCtorEq]; try simp only [g23,bb]; try simp only [(dF g27),bb]))))
 refine dA ((1:Int) < (s.length:Int)) (fun g17=>?_) (fun g17=>?_)
 refine aO (dT g17) y_move<|?_
 obtain ⟨x2,hx2⟩:∃ c,s[1]? = some c:=⟨_,List.getElem?_eq_getElem (by omega)⟩
 have hd2:=mL x2
 refine aO (dT g17) (bV hx2)<|gH (dT g17) aG mH<|aO (dT g17) dB<|aB (y_pickT (dT g17))<|?_
 exact jn _ (aA (aA aJ (by simp only [aH,reduceIte,Nat.reduceEqDiff,reduceCtorEq,(dT g17),hx2,bb])))
 refine aN (neF (dF g17))<|aN (neF (dF g17))<|aN (neF (dF g17))<|aN (neF (dF g17))<|aB (aR (dF g17))<|?_
 exact jn _ (aA (aA aJ (by simp only [aH,reduceIte,Nat.reduceEqDiff,reduceCtorEq,(dF g17),bb])))
 refine dA ((0:Int) < (s.length:Int)) (fun g8=>?_) (fun g8=>?_)
 refine aO (dT g8) y_move<|?_
 obtain ⟨x1,hx1⟩:∃ c,s[0]? = some c:=⟨_,List.getElem?_eq_getElem (by omega)⟩
 have hd1:=mL x1
 refine aO (dT g8) (bV hx1)<|gH (dT g8) aG zR<|aO (dT g8) dG<|aB (y_pickT (dT g8))<|?_
 exact jn _ (aA (aA aJ (by simp only [aH,reduceIte,Nat.reduceEqDiff,reduceCtorEq,(dT g8),hx1,bb])))
 refine aN (neF (dF g8))<|aN (neF (dF g8))<|aN (neF (dF g8))<|aN (neF (dF g8))<|aB (aR (dF g8))<|?_
 exact jn _ (aA (aA aJ (by simp only [aH,reduceIte,Nat.reduceEqDiff,reduceCtorEq,(dF g8),bb])))
set_option maxHeartbeats 1000000 in
theorem yG {w0:World} {h:Heap} {O:Nat → Prop} {s:Str}  (OB0:OB h O) (s0:SB s:=by first | assumption | omega | (simp; done) | (simp; omega)):HC (XM PP) w0 26 [vs s].toArray h (fun rv h'=>rv = .tuple #[.agg #[vs (((cA s).1).sign),vs (((cA s).1).body)],vi ((cA s).2.1),vi ((cA s).2.2)]∧Le h h'):=by
 have le:=Le.refl h
 have OBe:=OB0
 have hb:=aBJ s
 refine aV 50 [(0,vs s)] Tryz.func26 (fun r=>?_)
 refine hw_sr (bE aY (fun v1 h1 q1=>?_))
 obtain ⟨b1,O1,rfl,eb1,sb1,lb1,B1,hO1⟩:=q1.ox O
 refine aB aC<|aB aC<|aD ?_
 refine hw_sr (aB y_move<|dY aG aC1<|aB y_move<|aB aL<|aB aL<|aB aC<|aB aC<|aD ?_)
 refine aF (ah4 0 2 5 6) fun r=>?_
 refine aI ?_
 refine hw_sr (aB y_move<|aB fS<|aD ?_)
 refine fH (fun g14=>?_) (fun g14=>?_)
 refine hw_sr (aB (y_build rfl rfl)<|aB y_move<|?_)
 refine bO (aK aP B1) (fun v2 h2 q2=>?_)
 obtain ⟨rfl,q2⟩:=q2
 have z2:=q2.1
 have B1:=q2.2.2
 refine aB aC<|aB aC<|aD ?_
 refine aF (ah3 2 3 4) fun r=>?_
 refine hw_rr ?_
 refine aQ rfl (.cons (bT B1) (.cons aU (.cons aU .nil))) ?_
 have hr:cA s = (⟨[],[]⟩,0,(head s).2):=if_neg g14
 replace le:=(le.t lb1).s q2
 exact ⟨by first | rfl | (rw [hr]; rfl),le⟩
 have hs3:=hb.2.2 g14
 refine aM ?_
 refine aI ?_
 refine hw_sr (aB aC<|aD ?_)
 refine cT (fun (k:Nat)=>[(0,vs s),(2,.pointer (some ⟨b1,0,none⟩)),(5,vi ((head s).1)),(7,vi (k:Int))]) (fun (k:Nat) (h' : Heap)=>Le h1 h' ∧ (lZ s).all fK = true) (aX (cK (fun (k:Nat)=>[(0,vs s),(2,.pointer (some ⟨b1,0,none⟩)),(5,vi ((head s).1)),(7,vi (k:Int))]) (fun (k:Nat) (h' : Heap)=>Le h1 h' ∧ 3 ≤ k∧k ≤ s.length∧(k:Int) ≤ 3 + (head s).1∧((s.take k).drop 3).all fK = true) (fun (k:Nat)=>s.length - k) (3) ag4 ⟨Le.refl _,by exact ⟨by omega,by omega,by omega,by rw [List.drop_eq_nil_of_le (by rw [List.length_take]; omega)]; rfl⟩⟩ ?_)) ?_
 rintro k r hl3 ⟨lp3,e1,e2,e3,e4⟩
 have zl3:=lp3.1
 have lr3:=lp3
 refine aI ?_
 refine hw_sr (aB y_move<|aB y_move<|aB y_len_str<|aB dB<|aB y_move<|?_)
 refine bB 5 [(0,vs s),(2,.pointer (some ⟨b1,0,none⟩)),(5,vi ((head s).1)),(7,vi (k:Int)),(26,vb ((decide ((k:Int) < (s.length:Int))) && (decide ((k:Int) < (3 + (head s).1)))))] (fun r=>?_) (fun jn=>?_)
 refine aD ?_
 refine bF (fun g26=>?_) (fun g26=>?_)
 have g26':=g26
 simp at g26'
 refine aM ?_
 refine aI ?_
 refine aX ?_
 refine hw_sr (aB y_move<|aB y_move<|?_)
 obtain ⟨x1,hx1⟩:∃ c,s[k]? = some c:=⟨_,List.getElem?_eq_getElem (by omega)⟩
 refine aB (bV hx1)<|dY aG zS<|aB dG<|aD ?_
 refine aF (ah5 0 2 5 7 33) fun r=>?_
 refine dS (fun g33=>?_) (fun g33=>?_)
 refine hw_sr (aB (y_build rfl rfl)<|?_)
 replace B1:=B1.le lp3
 refine bO (aK aP B1) (fun v4 h4 q4=>?_)
 obtain ⟨rfl,q4⟩:=q4
 have z4:=q4.1
 have B1:=q4.2.2
 refine aB aC<|aB aC<|aD ?_
 refine hw_rr ?_
 refine aQ rfl (.cons (bT B1) (.cons aU (.cons aU .nil))) ?_
 have hr:cA s = (⟨[],[]⟩,0,2):=(if_pos g14).trans (if_neg (neF (by unfold lZ; exact bodyNo (by assumption) e1 (by omega) g33)))
 replace le:=((le.t lb1).t lp3).s q4
 exact ⟨by first | rfl | (rw [hr]; rfl),le⟩
 refine aM ?_
 refine aE (aB y_move<|aB bI<|aB aC<|aD ?_)
 exact ⟨k + 1,ag4,⟨lr3,by exact ⟨by omega,by omega,by simp at g26; omega,by rw [nP (by assumption) e1,List.all_append,e4]; simp_all⟩⟩,by first | omega | (dsimp only; omega)⟩
 have g26':=g26
 simp at g26'
 refine cI ?_
 exact ⟨k,ag4,⟨lr3,by rcases Nat.lt_or_ge k s.length with hk | hk; (have hn:(3 + (head s).1).toNat = k:=by simp [hk] at g26; omega); (unfold lZ; rw [hn]; exact e4); (unfold lZ; rw [List.take_of_length_le hk] at e4; rw [List.take_of_length_le (by omega)]; exact e4)⟩⟩
 refine dA ((k:Int) < (s.length:Int)) (fun g21=>?_) (fun g21=>?_)
 refine aO (dT g21) y_move<|aO (dT g21) y_move<|aO (dT g21) bI<|aO (dT g21) dB<|aB (y_pickT (dT g21))<|?_
 exact jn _ (aA (aA (aA (aA (aA aJ (by simp only [aH,reduceIte,Nat.reduceEqDiff,reduceCtorEq,(dT g21),bb]))))))
 refine aN (neF (dF g21))<|aN (neF (dF g21))<|aN (neF (dF g21))<|aN (neF (dF g21))<|aB (aR (dF g21))<|?_
 exact jn _ (aA (aA (aA (aA (aA aJ (by simp only [aH,reduceIte,Nat.reduceEqDiff,reduceCtorEq,(dF g21),bb]))))))
 rintro k r hl3 ⟨lp3,e1⟩
 have zl3:=lp3.1
 refine aI ?_
 refine hw_sr (aB y_move<|aB y_len_str<|aB y_move<|aB bI<|aB dB<|aD ?_)
 refine aF (ah4 0 2 5 39) fun r=>?_
 refine aZ (fun g39=>?_) (fun g39=>?_)
 refine hw_sr (aB (y_build rfl rfl)<|?_)
 replace B1:=B1.le lp3
 refine bO (aK aP B1) (fun v5 h5 q5=>?_)
 obtain ⟨rfl,q5⟩:=q5
 have z5:=q5.1
 have B1:=q5.2.2
 refine aB aC<|aB aC<|aD ?_
 refine hw_rr ?_
 refine aQ rfl (.cons (bT B1) (.cons aU (.cons aU .nil))) ?_
 have hr:cA s = (⟨[],[]⟩,0,1):=(if_pos g14).trans ((if_pos e1).trans (if_pos g39))
 replace le:=((le.t lb1).t lp3).s q5
 exact ⟨by first | rfl | (rw [hr]; rfl),le⟩
 refine aM ?_
 refine aI ?_
 obtain ⟨S6,hS6⟩:=mkO (fun b=>hl3.size ≤ b ∨ b = b1)
 have mR6:Mod S6 hl3 hl3:=Mod.refl _
 have hd6:∀ b,b < hl3.size∧¬ O1 b → ¬ S6 b:=fun b hb hs=>(fun hs=>hs.elim (fun hs=>absurd hb.1 (Nat.not_lt.2 hs)) (fun hs=>hb.2 (hs ▸ (ir hO1)))) ((hS6 b).1 hs)
 refine bH 12 S6 bC (ha2_p 0 rfl (fun _=>y_move)<|ha2_y 1 rfl (fun _ _=>iY)<|ha2_p 2 rfl (fun _=>y_move)<|ha2_p 3 rfl (fun _=>y_move)<|ha2_p 4 rfl (fun _=>bI)<|ha2_y 5 rfl (fun _ _=>yK)<|ha2_p 6 rfl (fun _=>(y_build rfl rfl))<|ha2_p 7 rfl (fun _=>y_move)<|ha2_p 8 rfl (fun _=>bI)<|?_)
 replace B1:=B1.le lp3
 refine aW 9 (cY rfl (aK aP B1) (fun v7 h7 q7=>?_))
 obtain ⟨rfl,q7⟩:=q7
 have z7:=q7.1
 have ms:=mm hS6 q7.2.1
 refine ⟨ms,?_⟩
 have B1:=q7.2.2
 refine ha2_p 10 rfl (fun _=>aC)<|ha2_p 11 rfl (fun _=>aC)<|cN ?_
 refine aF (ah3 2 3 4) fun r=>?_
 refine hw_rr ?_
 refine aQ rfl (.cons (bT B1) (.cons aU (.cons aU .nil))) ?_
 have hr:cA s = (⟨s.take 1,lZ s⟩,3 + (head s).1,0):=(if_pos g14).trans ((if_pos e1).trans (if_neg g39))
 replace le:=((le.t lb1).t lp3).s q7
 exact ⟨by first | rfl | (rw [hr]; rfl),le⟩
set_option maxHeartbeats 1000000 in
theorem vQ {w0:World} {h:Heap} {O:Nat → Prop} {l:List Letter} {k0v:Value} (k0:Rs h O k0v l) (OB0:OB h O)  (hl1:l.length ≤ 40000000:=by first | omega | (simp; omega)):HC (XM PP) w0 23 [k0v].toArray h (fun rv h'=>rv = vs (iP l)∧Le h h'):=by
 obtain ⟨Ak0,nk0,ck0,rfl⟩:=k0.frm
 have le:=Le.refl h
 have OBe:=OB0
 have hl:=k0.len
 refine aV 25 [(0,(.slice Ak0 nk0 ck0))] Tryz.func23 (fun r=>?_)
 refine hw_sr (aB aC<|aD ?_)
 refine hw_sr (aB aC<|aD ?_)
 refine aI ?_
 refine hw_sr (aB aC<|aD ?_)
 refine cT (fun (gx:Nat × Str)=>match gx with | (k,out)=>[(0,(.slice Ak0 nk0 ck0)),(3,vs out),(4,vi (k:Int))]) (fun (gx:Nat × Str) (h' : Heap)=>match gx with | (k,out)=>Le h h' ∧ l.all cM = true∧out = (l.map eP).flatten∧SB out) (aX (cK (fun (gx:Nat × Str)=>match gx with | (k,out)=>[(0,(.slice Ak0 nk0 ck0)),(3,vs out),(4,vi (k:Int))]) (fun (gx:Nat × Str) (h' : Heap)=>match gx with | (k,out)=>Le h h' ∧ k ≤ l.length∧(l.take k).all cM = true∧out = ((l.take k).map eP).flatten∧SB out) (fun (gx:Nat × Str)=>match gx with | (k,out)=>l.length - k) (0,[]) ag3 ⟨Le.refl _,by exact ⟨by omega,by simp,by simp,by simp⟩⟩ ?_)) ?_
 rintro ⟨k,out⟩ r hl1 ⟨lp1,e1,e2,e3,so⟩
 have zl1:=lp1.1
 have ho:out.length ≤ 85 * k:=by rw [e3]; have:=aAm (l.take k); rw [List.length_take] at this; omega
 have lr1:=lp1
 refine aI ?_
 refine hw_sr (aB y_move<|aB y_move<|aB (y_lenA k0.1)<|aB dB<|aD ?_)
 refine aF (ah4 0 3 4 8) fun r=>?_
 refine aZ (fun g8=>?_) (fun g8=>?_)
 refine aM ?_
 refine aI ?_
 refine aX ?_
 refine aI ?_
 refine hw_sr (aB y_move<|aB y_move<|?_)
 obtain ⟨x1,hx1⟩:∃ x,l[k]? = some x:=⟨_,List.getElem?_eq_getElem (by omega)⟩
 obtain ⟨sx1_0,sx1_1⟩:SB x1.sign∧SB x1.body:=k0.2.at hx1
 have hy:=kZ x1
 refine aB (y_idxA k0.1)<|?_
 replace k0:=k0.le lp1
 refine aB (y_loadEl k0.1 hx1)<|?_
 replace OB0:=OB0.leO lp1.1
 refine bL aG (nH (l:=x1) OB0) (fun v2 h2 q2=>?_)
 obtain ⟨rfl,lc2⟩:=q2
 have z2:=lc2.1
 refine aB dG<|aD ?_
 refine aF (ah4 0 3 4 16) fun r=>?_
 refine dS (fun g16=>?_) (fun g16=>?_)
 refine hw_sr (aB aC<|aD ?_)
 refine hw_rr ?_
 refine aQ rfl (.cons aU .nil) ?_
 have hr:iP l = []:=if_neg (neF (rK hx1 g16))
 replace le:=(le.t lp1).t lc2
 exact ⟨by first | rfl | (rw [hr]; rfl),le⟩
 refine aM ?_
 refine aE (aB y_move<|aB y_move<|aB y_move<|aB (y_idxA k0.1)<|?_)
 replace k0:=k0.le lc2
 refine aB (y_loadEl k0.1 hx1)<|?_
 replace OB0:=OB0.leO lc2.1
 refine bL aG (yF (l:=x1) OB0) (fun v3 h3 q3=>?_)
 obtain ⟨rfl,lc3⟩:=q3
 have z3:=lc3.1
 refine aB dX<|aB aC<|aD ?_
 refine aF (ah3 0 3 4) fun r=>?_
 refine aE (aB y_move<|aB bI<|aB aC<|aD ?_)
 replace lr1:=(lr1.t lc2).t lc3
 exact ⟨(k + 1,(out ++ eP x1)),ag3,⟨lr1,by have:=kZ x1; exact ⟨by omega,by rw [kF hx1,e2,g16]; rfl,by rw [aCm hx1,e3],by show (out ++ eP x1).length ≤ 4294967296; rw [List.length_append]; omega⟩⟩,by first | omega | (dsimp only; omega)⟩
 refine cI ?_
 exact ⟨(k,out),ag3,⟨lr1,by rw [List.take_of_length_le (by omega)] at e2 e3; exact ⟨e2,e3,so⟩⟩⟩
 rintro ⟨k,out⟩ r hl1 ⟨lp1,e1,e2,so⟩
 have zl1:=lp1.1
 refine hw_sr (aB y_move<|aB aC<|aD ?_)
 refine hw_rr ?_
 refine aQ rfl (.cons aU .nil) ?_
 have hr:iP l = out:=by unfold iP; rw [if_pos e1,e2]
 replace le:=le.t lp1
 exact ⟨by first | rfl | (rw [hr]; rfl),le⟩
set_option maxHeartbeats 1000000 in
theorem nX {w0:World} {h:Heap} {O:Nat → Prop} {k:Int}  (OB0:OB h O)  (h0:0 ≤ k∧k ≤ 6:=by first | assumption | omega):HC (XM PP) w0 44 [vi k].toArray h (fun rv h'=>rv = vs (eE k)∧Le h h'):=by
 have le:=Le.refl h
 have OBe:=OB0
 refine aV 7 [(0,vi k)] Tryz.func44 (fun r=>?_)
 refine hw_sr (aB aC<|aD ?_)
 refine hw_sr (bE (bA (l:=([[102,105,110,101],[102,111,114,109],[108,97,116,101],[102,117,108,108],[110,111,110,101],[98,97,100],[111,118,101,114]]:List Str))) (fun v1 h1 q1=>?_))
 obtain ⟨lb1,ow1,sb1⟩:=q1
 have z1:=lb1.1
 have k1:Rs _ O _ _:=Ow.end ⟨ow1,⟨by simp,by simp [Ok.ok]⟩⟩ OB0
 obtain ⟨A2,n2,c2,rfl⟩:=k1.frm
 refine aB y_move<|?_
 obtain ⟨x1,hx1⟩:∃ x,(([[102,105,110,101],[102,111,114,109],[108,97,116,101],[102,117,108,108],[110,111,110,101],[98,97,100],[111,118,101,114]]:List Str))[(k).toNat]? = some x:=⟨_,List.getElem?_eq_getElem (by simp; omega)⟩
 have sx1:SB x1:=k1.2.at hx1
 refine aB (gR k1.1 (hi:=by simp; omega))<|aB (y_load (RdF.cell1 k1.1 hx1 rfl))<|aB aC<|aD ?_
 refine aF (ah1 2) fun r=>?_
 refine hw_rr ?_
 refine aQ rfl (.cons aU .nil) ?_
 replace le:=le.t lb1
 exact ⟨by first | rfl | (rw [aAu hx1]; rfl),le⟩
set_option maxHeartbeats 1000000 in
theorem aCV {w0:World} {h:Heap} {O:Nat → Prop} {s:Str}  (OB0:OB h O) (s0:SB s:=by first | assumption | omega | (simp; done) | (simp; omega)):HC (XM PP) w0 45 [vs s].toArray h (fun rv h'=>rv = vb (lY s)∧Le h h'):=by
 have le:=Le.refl h
 have OBe:=OB0
 refine aV 12 [(0,vs s)] Tryz.func45 (fun r=>?_)
 refine hw_sr (aB aC<|aD ?_)
 refine aI ?_
 refine hw_sr (aB aC<|aD ?_)
 refine cT (fun (k:Int)=>[(0,vs s),(3,vi k)]) (fun (k:Int) (h' : Heap)=>Le h h' ∧ lY s = false) (aX (cK (fun (k:Int)=>[(0,vs s),(3,vi k)]) (fun (k:Int) (h' : Heap)=>Le h h' ∧ 1 ≤ k∧k ≤ 7∧((List.range (k - 1).toNat).any fun j=>decide (eE ((j:Int) + 1) = s)) = false) (fun (k:Int)=>(7 - k).toNat) (1) ag2 ⟨Le.refl _,by exact ⟨by omega,by omega,rfl⟩⟩ ?_)) ?_
 rintro k r hl1 ⟨lp1,e1,e2,e3⟩
 have zl1:=lp1.1
 have hr:(k + 1 - 1).toNat = (k - 1).toNat + 1:=by omega
 have hk2:(((k - 1).toNat:Int) + 1) = k:=by omega
 have lr1:=lp1
 refine aI ?_
 refine hw_sr (aB y_move<|aB y_leq<|aD ?_)
 refine aZ (fun g5=>?_) (fun g5=>?_)
 refine aM ?_
 refine aI ?_
 refine aX ?_
 refine hw_sr (aB y_move<|?_)
 replace OB0:=OB0.leO lp1.1
 refine bL aG (nX OB0) (fun v2 h2 q2=>?_)
 obtain ⟨rfl,lc2⟩:=q2
 have z2:=lc2.1
 refine aB y_move<|aB y_seql<|aD ?_
 refine aF (ah3 0 3 11) fun r=>?_
 refine aZ (fun g11=>?_) (fun g11=>?_)
 refine hw_sr (aB aC<|aD ?_)
 refine hw_rr ?_
 refine aQ rfl (.cons aU .nil) ?_
 have hr:lY s = true:=List.any_eq_true.2 ⟨(k - 1).toNat,List.mem_range.2 (by omega),by rw [hk2,g11]; simp⟩
 replace le:=(le.t lp1).t lc2
 exact ⟨by first | rfl | (rw [hr]; rfl),le⟩
 refine aM ?_
 refine aE (aB y_move<|aB bI<|aB aC<|aD ?_)
 replace lr1:=lr1.t lc2
 exact ⟨(k + 1),ag2,⟨lr1,by exact ⟨by omega,by omega,by rw [hr,List.range_succ,List.any_append,e3,Bool.false_or,List.any_cons,List.any_nil,hk2,decide_eq_false g11]; rfl⟩⟩,by first | omega | (dsimp only; omega)⟩
 refine cI ?_
 exact ⟨k,ag2,⟨lr1,by rw [show (k - 1).toNat = 6 by omega] at e3; exact e3⟩⟩
 rintro k r hl1 ⟨lp1,e1⟩
 have zl1:=lp1.1
 refine hw_sr (aB aC<|aD ?_)
 refine hw_rr ?_
 refine aQ rfl (.cons aU .nil) ?_
 have hr:=e1
 replace le:=le.t lp1
 exact ⟨by first | rfl | (rw [hr]; rfl),le⟩
set_option maxHeartbeats 1000000 in
theorem l9Row_c {w0:World} {h:Heap} {O:Nat → Prop} {s:Str}  (OB0:OB h O) (s0:SB s:=by first | assumption | omega | (simp; done) | (simp; omega)) (hl:s.length ≤ 1000000:=by first | omega | (simp; omega)):HC (XM PP) w0 43 [vs s].toArray h (fun rv h'=>rv = vb (tX s)∧Le h h'):=by
 have le:=Le.refl h
 have OBe:=OB0
 have hp:=pT 32 s []
 refine aV 25 [(0,vs s)] Tryz.func43 (fun r=>?_)
 refine hw_sr (aB aC<|aD ?_)
 refine hw_sr (aB y_move<|bL aG (aAb (c:=32) OB0) (fun v1 h1 q1=>?_))
 obtain ⟨lc1,k1_1⟩:=q1
 have z1:=lc1.1
 obtain ⟨A2,n2,c2,rfl⟩:=k1_1.frm
 refine aB aC<|aD ?_
 refine aF (ah1 3) fun r=>?_
 refine aI ?_
 refine hw_sr (aB y_move<|aB (y_lenA k1_1.1)<|aB fS<|aD ?_)
 refine fH (fun g10=>?_) (fun g10=>?_)
 refine hw_sr (aB aC<|aD ?_)
 refine hw_rr ?_
 refine aQ rfl (.cons aU .nil) ?_
 replace le:=le.t lc1
 exact ⟨by first | rfl | (unfold tX; rw [decide_eq_false g10]; rfl),le⟩
 refine aM ?_
 refine hw_sr (aB y_move<|?_)
 obtain ⟨x1,hx1⟩:∃ x,(pieces 32 s [])[1]? = some x:=⟨_,List.getElem?_eq_getElem (by omega)⟩
 have sx1:SB x1:=k1_1.2.at hx1
 refine aB (y_idxA (i:=1) k1_1.1)<|aB (y_load (RdF.cell1 k1_1.1 hx1 rfl))<|?_
 refine dY aG zZ<|aB y_move<|aB aL<|aB aL<|aB aC<|aB aC<|aD ?_
 refine aF (ah2 3 5) fun r=>?_
 refine hw_sr (aB y_move<|aB y_move<|?_)
 refine bB 5 [(24,vb ((jI x1).2 && (((pieces 32 s [])[0]?).any (fun y=>fD y))))] (fun r=>?_) (fun jn=>?_)
 refine aB aC<|aD ?_
 refine hw_rr ?_
 refine aQ rfl (.cons aU .nil) ?_
 replace le:=le.t lc1
 exact ⟨by first | rfl | (unfold tX; rw [decide_eq_true g10,rJ (k:=1) hx1]; rfl),le⟩
 refine eT (b:=(jI x1).2) (fun g19=>?_) (fun g19=>?_)
 refine aO g19 y_move<|?_
 obtain ⟨x2,hx2⟩:∃ x,(pieces 32 s [])[0]? = some x:=⟨_,List.getElem?_eq_getElem (by omega)⟩
 have sx2:SB x2:=k1_1.2.at hx2
 refine aO g19 (y_idxA (i:=0) k1_1.1)<|aO g19 (y_load (RdF.cell1 k1_1.1 hx2 rfl))<|?_
 refine gH g19 aG pA<|aB (y_pickT g19)<|?_
 exact jn _ (aA aJ (by simp only [aH,reduceIte,Nat.reduceEqDiff,reduceCtorEq,g19,hx2,bb]))
 refine aN (neF g19)<|aN (neF g19)<|aN (neF g19)<|aN (neF g19)<|aB (aR g19)<|?_
 exact jn _ (aA aJ (by simp only [aH,reduceIte,Nat.reduceEqDiff,reduceCtorEq,g19,bb]))
set_option maxHeartbeats 1000000 in
theorem zN {w0:World} {h:Heap} {O:Nat → Prop} {q:Int} {l:Letter}  (OB0:OB h O) (s0:SB l.sign:=by first | assumption | omega | (simp; done) | (simp; omega)) (s1:SB l.body:=by first | assumption | omega | (simp; done) | (simp; omega)) (hl:l.body.length ≤ 1000000:=by first | omega | (simp; omega)):HC (XM PP) w0 27 [vi q,.agg #[vs l.sign,vs l.body]].toArray h (fun rv h'=>rv = vi (kM q l)∧Le h h'):=by
 replace le:=Le.refl h
 have OBe:=OB0
 refine aV 82 [(0,vi q),(1,.agg #[vs l.sign,vs l.body])] Tryz.func27 (fun r=>?_)
 refine hw_sr (bE cW (fun v1 h1 q1=>?_))
 obtain ⟨b1,O1,rfl,eb1,sb1,lb1,B1,hO1⟩:=q1.ox O
 refine aB aC<|aD ?_
 refine aI ?_
 refine aX ?_
 refine hw_sr (aB y_move<|aB bM<|aB y_move<|?_)
 refine bB 3 [(0,vi q),(3,.pointer (some ⟨b1,0,none⟩)),(11,vb ((decide (q = 2)) || (decide (q = 3))))] (fun r=>?_) (fun jn=>?_)
 refine aB aC<|aD ?_
 refine bF (fun g5=>?_) (fun g5=>?_)
 have g5':=g5
 simp at g5'
 refine hw_sr (aB aC<|aD ?_)
 refine hw_rr ?_
 refine aQ rfl (.cons aU .nil) ?_
 have hr:kM q l = _:=((if_pos g5))
 replace le:=le.t lb1
 exact ⟨by first | rfl | (rw [hr] <;> rfl),le⟩
 have g5':=g5
 simp at g5'
 refine dH (fun (gu:Unit)=>[(0,vi q),(3,.pointer (some ⟨b1,0,none⟩)),(12,vb ((decide (l.sign = [82])) && tX l.body))]) (fun (gu:Unit) (h' : Heap)=>Le h1 h') ?_ ?_
 replace lr2:=Le.refl h1
 refine aE (aB y_fieldAddr<|aB (y_load (Blk.at B1 rfl rfl))<|aB y_seql<|aB y_move<|?_)
 refine dA (l.sign = [82]) (fun g16=>?_) (fun g16=>?_)
 refine aO (dT g16) y_fieldAddr<|aO (dT g16) (y_load (Blk.at B1 rfl rfl))<|?_
 replace OB0:=OB0.newB sb1 hO1 eb1
 refine iR (dT g16) aG (l9Row_c OB0) (fun v3 h3 q3=>?_)
 obtain ⟨rfl,lc3⟩:=q3
 have z3:=lc3.1
 refine aB (y_pickT (dT g16))<|aB aC<|aD ?_
 replace lr2:=lr2.t lc3
 exact ⟨(),(aA (aA (aA aJ (by simp only [aH,reduceIte,Nat.reduceEqDiff,reduceCtorEq,(dT g16),bb] <;> rfl)))),(lr2)⟩
 refine aN (neF (dF g16))<|aN (neF (dF g16))<|aN (neF (dF g16))<|aB (aR (dF g16))<|aB aC<|aD ?_
 exact ⟨(),(aA (aA (aA aJ (by simp only [aH,reduceIte,Nat.reduceEqDiff,reduceCtorEq,(dF g16),bb] <;> rfl)))),(lr2)⟩
 rintro gu r hl2 lp2
 have zl2:=lp2.1
 refine bF (fun g12=>?_) (fun g12=>?_)
 have g12':=g12
 simp at g12'
 have hB:wC l = true:=g12
 refine hw_sr (aB aC<|aD ?_)
 refine hw_rr ?_
 refine aQ rfl (.cons aU .nil) ?_
 have hr:kM q l = _:=((if_neg (neF g5)).trans ((if_pos hB)))
 replace le:=(le.t lb1).t lp2
 exact ⟨by first | rfl | (rw [hr] <;> rfl),le⟩
 have g12':=g12
 simp at g12'
 have hB:wC l = false:=g12
 refine dH (fun (gu:Unit)=>[(0,vi q),(3,.pointer (some ⟨b1,0,none⟩)),(21,vb ((decide (l.sign = [67])) && (decide (l.body = eE 0))))]) (fun (gu:Unit) (h' : Heap)=>Le hl2 h') ?_ ?_
 replace lr4:=Le.refl hl2
 obtain ⟨S5,hS5⟩:=mkO (fun b=>hl2.size ≤ b)
 replace mR5:Mod S5 hl2 hl2:=Mod.refl _
 have hd5:∀ b,b < hl2.size∧¬ O1 b → ¬ S5 b:=fun b hb hs=>(fun hs=>absurd hb.1 (Nat.not_lt.2 hs)) ((hS5 b).1 hs)
 replace B1:=B1.le lp2
 refine bH 10 S5 bC (ha2_p 0 rfl (fun _=>y_fieldAddr)<|ha2_y 1 rfl (fun _ mm=>(y_load (Blk.at (Blk.mod B1 mm (fun hs=>by rcases (hS5 _).1 hs with hs <;> first | omega)) rfl rfl)))<|ha2_p 2 rfl (fun _=>y_seql)<|ha2_p 3 rfl (fun _=>y_move)<|?_)
 refine dA (l.sign = [67]) (fun g25=>?_) (fun g25=>?_)
 refine ha2_gp 4 rfl (dT g25) (fun _=>y_fieldAddr)<|ha2_gy 5 rfl (dT g25) (fun _ mm=>(y_load (Blk.at (Blk.mod B1 mm (fun hs=>by rcases (hS5 _).1 hs with hs <;> first | omega)) rfl rfl)))<|?_
 replace OB0:=(OB0.newB sb1 hO1 eb1).leO lp2.1
 refine aW 6 (aBH rfl (dT g25) aG (nX OB0) (fun v6 h6 q6=>?_))
 obtain ⟨rfl,lc6⟩:=q6
 have z6:=lc6.1
 refine ⟨Le.mod lc6,?_⟩
 refine hf_gp 7 rfl (dT g25) (fun _=>y_seql)<|bG 8 rfl (fun _=>(y_pickT (dT g25)))<|bG 9 rfl (fun _=>aC)<|bD ?_
 replace lr4:=lr4.t lc6
 exact ⟨(),(aA (aA (aA aJ (by simp only [aH,reduceIte,Nat.reduceEqDiff,reduceCtorEq,(dT g25),bb] <;> rfl)))),(lr4)⟩
 refine bR 4 rfl (neF (dF g25))<|bR 5 rfl (neF (dF g25))<|bR 6 rfl (neF (dF g25))<|?_
 refine hf_no 7 rfl (neF (dF g25))<|bG 8 rfl (fun _=>(aR (dF g25)))<|bG 9 rfl (fun _=>aC)<|bD ?_
 exact ⟨(),(aA (aA (aA aJ (by simp only [aH,reduceIte,Nat.reduceEqDiff,reduceCtorEq,(dF g25),bb] <;> rfl)))),(lr4)⟩
 rintro gu r hl4 lp4
 have zl4:=lp4.1
 refine bF (fun g21=>?_) (fun g21=>?_)
 have g21':=g21
 simp at g21'
 have hC:wB l = true:=g21
 refine hw_sr (aB aC<|aD ?_)
 refine hw_rr ?_
 refine aQ rfl (.cons aU .nil) ?_
 have hr:kM q l = _:=((if_neg (neF g5)).trans ((if_neg (neF hB)).trans ((if_pos hC))))
 replace le:=((le.t lb1).t lp2).t lp4
 exact ⟨by first | rfl | (rw [hr] <;> rfl),le⟩
 have g21':=g21
 simp at g21'
 have hC:wB l = false:=g21
 refine hw_sr (aB y_move<|aB bM<|aB aC<|aD ?_)
 refine aF (ah2 3 31) fun r=>?_
 refine aZ (fun g31=>?_) (fun g31=>?_)
 refine hw_sr (aB aC<|aD ?_)
 refine hw_rr ?_
 refine aQ rfl (.cons aU .nil) ?_
 have hr:kM q l = _:=((if_neg (neF g5)).trans ((if_neg (neF hB)).trans ((if_neg (neF hC)).trans ((if_pos g31)))))
 replace le:=((le.t lb1).t lp2).t lp4
 exact ⟨by first | rfl | (rw [hr] <;> rfl),le⟩
 refine dH (fun (gu:Unit)=>[(3,.pointer (some ⟨b1,0,none⟩)),(34,vb ((((decide (l.sign = [69])) && lY l.body) || ((decide (l.sign = [49])) && (decide (l.body = [])))) || ((decide (l.sign = [90])) && (((decide (l.body = [105])) || (decide (l.body = [116]))) || (decide (l.body = [101]))))))]) (fun (gu:Unit) (h' : Heap)=>Le hl4 h') ?_ ?_
 replace lr7:=Le.refl hl4
 replace B1:=(B1.le lp2).le lp4
 refine aE (aB y_fieldAddr<|aB (y_load (Blk.at B1 rfl rfl))<|aB y_seql<|aB y_move<|?_)
 refine dA (l.sign = [69]) (fun g38=>?_) (fun g38=>?_)
 refine aO (dT g38) y_fieldAddr<|aO (dT g38) (y_load (Blk.at B1 rfl rfl))<|?_
 replace OB0:=((OB0.newB sb1 hO1 eb1).leO lp2.1).leO lp4.1
 refine iR (dT g38) aG (aCV OB0) (fun v8 h8 q8=>?_)
 obtain ⟨rfl,lc8⟩:=q8
 have z8:=lc8.1
 refine aB (y_pickT (dT g38))<|aB y_move<|?_
 refine bB 9 [(3,.pointer (some ⟨b1,0,none⟩)),(52,vb (lY l.body || ((decide (l.sign = [49])) && (decide (l.body = [])))))] (fun r=>?_) (fun jn=>?_)
 refine aB y_move<|?_
 refine bB 19 [(3,.pointer (some ⟨b1,0,none⟩)),(72,vb ((lY l.body || ((decide (l.sign = [49])) && (decide (l.body = [])))) || ((decide (l.sign = [90])) && (((decide (l.body = [105])) || (decide (l.body = [116]))) || (decide (l.body = [101]))))))] (fun r=>?_) (fun jn=>?_)
 refine aB aC<|aD ?_
 replace lr7:=lr7.t lc8
 exact ⟨(),(aA (aA aJ (by simp only [aH,reduceIte,Nat.reduceEqDiff,reduceCtorEq,(dT g38),bb] <;> rfl))),(lr7)⟩
 refine eT (b:=(lY l.body || ((decide (l.sign = [49])) && (decide (l.body = []))))) (fun g53=>?_) (fun g53=>?_)
 have g53':=g53
 simp at g53'
 refine aN (neT g53)<|aN (neT g53)<|aN (neT g53)<|aN (neT g53)<|bZ<|bZ<|bZ<|bZ<|bZ<|bZ<|bZ<|bZ<|bZ<|bZ<|bZ<|bZ<|bZ<|aN (neT g53)<|aB (y_pickT g53)<|?_
 exact jn _ (aA (aA aJ (by simp only [aH,reduceIte,Nat.reduceEqDiff,reduceCtorEq,g53,bb] <;> rfl)))
 have g53':=g53
 simp at g53'
 replace B1:=B1.le lc8
 refine aO g53 y_fieldAddr<|aO g53 (y_load (Blk.at B1 rfl rfl))<|aO g53 y_seql<|aO g53 y_move<|?_
 refine dA (l.sign = [90]) (fun g57=>?_) (fun g57=>?_)
 refine aO (dT g57) y_fieldAddr<|aO (dT g57) (y_load (Blk.at B1 rfl rfl))<|aO (dT g57) y_seql<|aO (dT g57) y_move<|?_
 refine dA (l.body = [105]) (fun g61=>?_) (fun g61=>?_)
 refine aN (neT (dT g61))<|aN (neT (dT g61))<|aN (neT (dT g61))<|aO (dT g57) (y_pickT (dT g61))<|aO (dT g57) y_move<|aN (neT rfl)<|aN (neT rfl)<|aN (neT rfl)<|aO (dT g57) (y_pickT rfl)<|aO g53 (y_pickT (dT g57))<|aB (aR g53)<|?_
 exact jn _ (aA (aA aJ (by first | (simp only [aH,reduceIte,Nat.reduceEqDiff,reduceCtorEq,(dT g57),(dT g61),g53,bb]; done) | (simp only [aH,reduceIte,Nat.reduceEqDiff,reduceCtorEq]; try simp only [g53,bb]; try simp only [(dT g61),bb]; try simp only [(dT g57),bb]; done) | (simp only [aH,reduceIte,Nat.reduceEqDiff,reduceCtorEq,(dT g57),(dT g61),g53,bb]; rfl))))
 refine aO (dF g61) y_fieldAddr<|aO (dF g61) (y_load (Blk.at B1 rfl rfl))<|aO (dF g61) y_seql<|aO (dT g57) (aR (dF g61))<|aO (dT g57) y_move<|?_
 refine dA (l.body = [116]) (fun g66=>?_) (fun g66=>?_)
 refine aN (neT (dT g66))<|aN (neT (dT g66))<|aN (neT (dT g66))<|aO (dT g57) (y_pickT (dT g66))<|aO g53 (y_pickT (dT g57))<|aB (aR g53)<|?_
 exact jn _ (aA (aA aJ (by first | (simp only [aH,reduceIte,Nat.reduceEqDiff,reduceCtorEq,(dF g61),(dT g57),(dT g66),g53,bb]; done) | (simp only [aH,reduceIte,Nat.reduceEqDiff,reduceCtorEq]; try simp only [g53,bb]; try simp only [(dF g61),bb]; try simp only [(dT g66),bb]; try simp only [(dT g57),bb]; done) | (simp only [aH,reduceIte,Nat.reduceEqDiff,reduceCtorEq,(dF g61),(dT g57),(dT g66),g53,bb]; rfl))))
 refine aO (dF g66) y_fieldAddr<|aO (dF g66) (y_load (Blk.at B1 rfl rfl))<|aO (dF g66) y_seql<|aO (dT g57) (aR (dF g66))<|aO g53 (y_pickT (dT g57))<|aB (aR g53)<|?_
 exact jn _ (aA (aA aJ (by first | (simp only [aH,reduceIte,Nat.reduceEqDiff,reduceCtorEq,(dF g61),(dF g66),(dT g57),g53,bb]; done) | (simp only [aH,reduceIte,Nat.reduceEqDiff,reduceCtorEq]; try simp only [g53,bb]; try simp only [(dF g61),bb]; try simp only [(dF g66),bb]; try simp only [(dT g57),bb]; done) | (simp only [aH,reduceIte,Nat.reduceEqDiff,reduceCtorEq,(dF g61),(dF g66),(dT g57),g53,bb]; rfl))))
 refine aN (neF (dF g57))<|aN (neF (dF g57))<|aN (neF (dF g57))<|aN (neF (dF g57))<|bZ<|bZ<|bZ<|aN (neF (dF g57))<|aN (neF (dF g57))<|bZ<|bZ<|bZ<|aN (neF (dF g57))<|aO g53 (aR (dF g57))<|aB (aR g53)<|?_
 exact jn _ (aA (aA aJ (by first | (simp only [aH,reduceIte,Nat.reduceEqDiff,reduceCtorEq,(dF g57),g53,bb]; done) | (simp only [aH,reduceIte,Nat.reduceEqDiff,reduceCtorEq]; try simp only [g53,bb]; try simp only [(dF g57),bb]; done) | (simp only [aH,reduceIte,Nat.reduceEqDiff,reduceCtorEq,(dF g57),g53,bb]; rfl))))
 refine eT (b:=lY l.body) (fun g43=>?_) (fun g43=>?_)
 refine aN (neT g43)<|aN (neT g43)<|aN (neT g43)<|aN (neT g43)<|bZ<|bZ<|bZ<|aN (neT g43)<|aB (y_pickT g43)<|?_
 exact jn _ (aA (aA aJ (by simp only [aH,reduceIte,Nat.reduceEqDiff,reduceCtorEq,g43,bb] <;> rfl)))
 replace B1:=B1.le lc8
 refine aO g43 y_fieldAddr<|aO g43 (y_load (Blk.at B1 rfl rfl))<|aO g43 y_seql<|aO g43 y_move<|?_
 refine dA (l.sign = [49]) (fun g47=>?_) (fun g47=>?_)
 refine aO (dT g47) y_fieldAddr<|aO (dT g47) (y_load (Blk.at B1 rfl rfl))<|aO (dT g47) y_seql<|aO g43 (y_pickT (dT g47))<|aB (aR g43)<|?_
 exact jn _ (aA (aA aJ (by first | (simp only [aH,reduceIte,Nat.reduceEqDiff,reduceCtorEq,(dT g47),g43,bb]; done) | (simp only [aH,reduceIte,Nat.reduceEqDiff,reduceCtorEq]; try simp only [(dT g47),bb]; try simp only [g43,bb]; done) | (simp only [aH,reduceIte,Nat.reduceEqDiff,reduceCtorEq,(dT g47),g43,bb]; rfl))))
 refine aN (neF (dF g47))<|aN (neF (dF g47))<|aN (neF (dF g47))<|aO g43 (aR (dF g47))<|aB (aR g43)<|?_
 exact jn _ (aA (aA aJ (by first | (simp only [aH,reduceIte,Nat.reduceEqDiff,reduceCtorEq,(dF g47),g43,bb]; done) | (simp only [aH,reduceIte,Nat.reduceEqDiff,reduceCtorEq]; try simp only [(dF g47),bb]; try simp only [g43,bb]; done) | (simp only [aH,reduceIte,Nat.reduceEqDiff,reduceCtorEq,(dF g47),g43,bb]; rfl))))
 refine aN (neF (dF g38))<|aN (neF (dF g38))<|aN (neF (dF g38))<|aB (aR (dF g38))<|aB y_move<|aO rfl y_fieldAddr<|aO rfl (y_load (Blk.at B1 rfl rfl))<|aO rfl y_seql<|aO rfl y_move<|?_
 refine bB 5 [(3,.pointer (some ⟨b1,0,none⟩)),(52,vb (false || ((decide (l.sign = [49])) && (decide (l.body = [])))))] (fun r=>?_) (fun jn=>?_)
 refine aB y_move<|?_
 refine bB 19 [(3,.pointer (some ⟨b1,0,none⟩)),(72,vb ((false || ((decide (l.sign = [49])) && (decide (l.body = [])))) || ((decide (l.sign = [90])) && (((decide (l.body = [105])) || (decide (l.body = [116]))) || (decide (l.body = [101]))))))] (fun r=>?_) (fun jn=>?_)
 refine aB aC<|aD ?_
 exact ⟨(),(aA (aA aJ (by simp only [aH,reduceIte,Nat.reduceEqDiff,reduceCtorEq,(dF g38),bb] <;> rfl))),(lr7)⟩
 refine eT (b:=(false || ((decide (l.sign = [49])) && (decide (l.body = []))))) (fun g53=>?_) (fun g53=>?_)
 have g53':=g53
 simp at g53'
 refine aN (neT g53)<|aN (neT g53)<|aN (neT g53)<|aN (neT g53)<|bZ<|bZ<|bZ<|bZ<|bZ<|bZ<|bZ<|bZ<|bZ<|bZ<|bZ<|bZ<|bZ<|aN (neT g53)<|aB (y_pickT g53)<|?_
 exact jn _ (aA (aA aJ (by simp only [aH,reduceIte,Nat.reduceEqDiff,reduceCtorEq,g53,bb] <;> rfl)))
 have g53':=g53
 simp at g53'
 refine aO g53 y_fieldAddr<|aO g53 (y_load (Blk.at B1 rfl rfl))<|aO g53 y_seql<|aO g53 y_move<|?_
 refine dA (l.sign = [90]) (fun g57=>?_) (fun g57=>?_)
 refine aO (dT g57) y_fieldAddr<|aO (dT g57) (y_load (Blk.at B1 rfl rfl))<|aO (dT g57) y_seql<|aO (dT g57) y_move<|?_
 refine dA (l.body = [105]) (fun g61=>?_) (fun g61=>?_)
 refine aN (neT (dT g61))<|aN (neT (dT g61))<|aN (neT (dT g61))<|aO (dT g57) (y_pickT (dT g61))<|aO (dT g57) y_move<|aN (neT rfl)<|aN (neT rfl)<|aN (neT rfl)<|aO (dT g57) (y_pickT rfl)<|aO g53 (y_pickT (dT g57))<|aB (aR g53)<|?_
 exact jn _ (aA (aA aJ (by first | (simp only [aH,reduceIte,Nat.reduceEqDiff,reduceCtorEq,(dT g57),(dT g61),g53,bb]; done) | (simp only [aH,reduceIte,Nat.reduceEqDiff,reduceCtorEq]; try simp only [g53,bb]; try simp only [(dT g61),bb]; try simp only [(dT g57),bb]; done) | (simp only [aH,reduceIte,Nat.reduceEqDiff,reduceCtorEq,(dT g57),(dT g61),g53,bb]; rfl))))
 refine aO (dF g61) y_fieldAddr<|aO (dF g61) (y_load (Blk.at B1 rfl rfl))<|aO (dF g61) y_seql<|aO (dT g57) (aR (dF g61))<|aO (dT g57) y_move<|?_
 refine dA (l.body = [116]) (fun g66=>?_) (fun g66=>?_)
 refine aN (neT (dT g66))<|aN (neT (dT g66))<|aN (neT (dT g66))<|aO (dT g57) (y_pickT (dT g66))<|aO g53 (y_pickT (dT g57))<|aB (aR g53)<|?_
 exact jn _ (aA (aA aJ (by first | (simp only [aH,reduceIte,Nat.reduceEqDiff,reduceCtorEq,(dF g61),(dT g57),(dT g66),g53,bb]; done) | (simp only [aH,reduceIte,Nat.reduceEqDiff,reduceCtorEq]; try simp only [g53,bb]; try simp only [(dF g61),bb]; try simp only [(dT g66),bb]; try simp only [(dT g57),bb]; done) | (simp only [aH,reduceIte,Nat.reduceEqDiff,reduceCtorEq,(dF g61),(dT g57),(dT g66),g53,bb]; rfl))))
 refine aO (dF g66) y_fieldAddr<|aO (dF g66) (y_load (Blk.at B1 rfl rfl))<|aO (dF g66) y_seql<|aO (dT g57) (aR (dF g66))<|aO g53 (y_pickT (dT g57))<|aB (aR g53)<|?_
 exact jn _ (aA (aA aJ (by first | (simp only [aH,reduceIte,Nat.reduceEqDiff,reduceCtorEq,(dF g61),(dF g66),(dT g57),g53,bb]; done) | (simp only [aH,reduceIte,Nat.reduceEqDiff,reduceCtorEq]; try simp only [g53,bb]; try simp only [(dF g61),bb]; try simp only [(dF g66),bb]; try simp only [(dT g57),bb]; done) | (simp only [aH,reduceIte,Nat.reduceEqDiff,reduceCtorEq,(dF g61),(dF g66),(dT g57),g53,bb]; rfl))))
 refine aN (neF (dF g57))<|aN (neF (dF g57))<|aN (neF (dF g57))<|aN (neF (dF g57))<|bZ<|bZ<|bZ<|aN (neF (dF g57))<|aN (neF (dF g57))<|bZ<|bZ<|bZ<|aN (neF (dF g57))<|aO g53 (aR (dF g57))<|aB (aR g53)<|?_
 exact jn _ (aA (aA aJ (by first | (simp only [aH,reduceIte,Nat.reduceEqDiff,reduceCtorEq,(dF g57),g53,bb]; done) | (simp only [aH,reduceIte,Nat.reduceEqDiff,reduceCtorEq]; try simp only [g53,bb]; try simp only [(dF g57),bb]; done) | (simp only [aH,reduceIte,Nat.reduceEqDiff,reduceCtorEq,(dF g57),g53,bb]; rfl))))
 refine dA (l.sign = [49]) (fun g47=>?_) (fun g47=>?_)
 refine aO (dT g47) y_fieldAddr<|aO (dT g47) (y_load (Blk.at B1 rfl rfl))<|aO (dT g47) y_seql<|aO rfl (y_pickT (dT g47))<|aB (aR rfl)<|?_
 exact jn _ (aA (aA aJ (by simp only [aH,reduceIte,Nat.reduceEqDiff,reduceCtorEq,(dT g47),bb] <;> rfl)))
 refine aN (neF (dF g47))<|aN (neF (dF g47))<|aN (neF (dF g47))<|aO rfl (aR (dF g47))<|aB (aR rfl)<|?_
 exact jn _ (aA (aA aJ (by simp only [aH,reduceIte,Nat.reduceEqDiff,reduceCtorEq,(dF g47),bb] <;> rfl)))
 rintro gu r hl7 lp7
 have zl7:=lp7.1
 refine bF (fun g34=>?_) (fun g34=>?_)
 have g34':=g34
 simp at g34'
 have hE:qF l = true:=by unfold qF; first | exact g34 | (rw [decide_eq_true g38,Bool.true_and]; exact g34) | (rw [decide_eq_false g38,Bool.false_and,Bool.false_or]; exact g34)
 refine hw_sr (aB aC<|aD ?_)
 refine hw_rr ?_
 refine aQ rfl (.cons aU .nil) ?_
 have hr:kM q l = _:=((if_neg (neF g5)).trans ((if_neg (neF hB)).trans ((if_neg (neF hC)).trans ((if_neg g31).trans ((if_pos hE))))))
 replace le:=(((le.t lb1).t lp2).t lp4).t lp7
 exact ⟨by first | rfl | (rw [hr] <;> rfl),le⟩
 have g34':=g34
 simp at g34'
 have hE:qF l = false:=by unfold qF; first | exact g34 | (rw [decide_eq_true g38,Bool.true_and]; exact g34) | (rw [decide_eq_false g38,Bool.false_and,Bool.false_or]; exact g34)
 refine aI ?_
 replace B1:=((B1.le lp2).le lp4).le lp7
 refine aE (aB y_fieldAddr<|aB (y_load (Blk.at B1 rfl rfl))<|aB y_seql<|aB y_move<|?_)
 refine bB 4 [(81,vb ((decide (l.sign = [66])) && (decide (l.body = []))))] (fun r=>?_) (fun jn=>?_)
 refine aB aC<|aD ?_
 refine bF (fun g73=>?_) (fun g73=>?_)
 have g73':=g73
 simp at g73'
 refine hw_sr (aB aC<|aD ?_)
 refine hw_rr ?_
 refine aQ rfl (.cons aU .nil) ?_
 have hr:kM q l = _:=((if_neg (neF g5)).trans ((if_neg (neF hB)).trans ((if_neg (neF hC)).trans ((if_neg g31).trans ((if_neg (neF hE)).trans ((if_pos g73)))))))
 replace le:=(((le.t lb1).t lp2).t lp4).t lp7
 exact ⟨by first | rfl | (rw [hr] <;> rfl),le⟩
 have g73':=g73
 simp at g73'
 refine aM ?_
 refine hw_sr (aB aC<|aD ?_)
 refine hw_rr ?_
 refine aQ rfl (.cons aU .nil) ?_
 have hr:kM q l = _:=((if_neg (neF g5)).trans ((if_neg (neF hB)).trans ((if_neg (neF hC)).trans ((if_neg g31).trans ((if_neg (neF hE)).trans ((if_neg (neF g73))))))))
 replace le:=(((le.t lb1).t lp2).t lp4).t lp7
 exact ⟨by first | rfl | (rw [hr] <;> rfl),le⟩
 refine dA (l.sign = [66]) (fun g77=>?_) (fun g77=>?_)
 refine aO (dT g77) y_fieldAddr<|aO (dT g77) (y_load (Blk.at B1 rfl rfl))<|aO (dT g77) y_seql<|aB (y_pickT (dT g77))<|?_
 exact jn _ (aA aJ (by simp only [aH,reduceIte,Nat.reduceEqDiff,reduceCtorEq,(dT g77),bb] <;> rfl))
 refine aN (neF (dF g77))<|aN (neF (dF g77))<|aN (neF (dF g77))<|aB (aR (dF g77))<|?_
 exact jn _ (aA aJ (by simp only [aH,reduceIte,Nat.reduceEqDiff,reduceCtorEq,(dF g77),bb] <;> rfl))
 refine dA (q = 2) (fun g8=>?_) (fun g8=>?_)
 refine aN (neT (dT g8))<|aN (neT (dT g8))<|aB (y_pickT (dT g8))<|?_
 exact jn _ (aA (aA (aA aJ (by simp only [aH,reduceIte,Nat.reduceEqDiff,reduceCtorEq,(dT g8),bb] <;> rfl))))
 refine aO (dF g8) y_move<|aO (dF g8) bM<|aB (aR (dF g8))<|?_
 exact jn _ (aA (aA (aA aJ (by simp only [aH,reduceIte,Nat.reduceEqDiff,reduceCtorEq,(dF g8),bb] <;> rfl))))
set_option maxHeartbeats 1000000 in
theorem aBp {w0:World} {h:Heap} {O:Nat → Prop} {q:Int} {l:Letter}  (OB0:OB h O) (s0:SB l.sign:=by first | assumption | omega | (simp; done) | (simp; omega)) (s1:SB l.body:=by first | assumption | omega | (simp; done) | (simp; omega)):HC (XM PP) w0 17 [vi q,.agg #[vs l.sign,vs l.body]].toArray h (fun rv h'=>rv = vi (dZ q l)∧Le h h'):=by
 have le:=Le.refl h
 have OBe:=OB0
 refine aV 19 [(0,vi q),(1,.agg #[vs l.sign,vs l.body])] Tryz.func17 (fun r=>?_)
 refine hw_sr (bE cW (fun v1 h1 q1=>?_))
 obtain ⟨b1,O1,rfl,eb1,sb1,lb1,B1,hO1⟩:=q1.ox O
 refine aB aC<|aD ?_
 refine aI ?_
 refine hw_sr (aB y_move<|aB dB<|aB y_move<|?_)
 refine bB 3 [(0,vi q),(3,.pointer (some ⟨b1,0,none⟩)),(10,vb ((decide (q < 0)) || (decide ((3:Int) < q))))] (fun r=>?_) (fun jn=>?_)
 refine aB y_move<|?_
 refine eT (b:=((decide (q < 0)) || (decide ((3:Int) < q)))) (fun g11=>?_) (fun g11=>?_)
 have g11':=g11
 simp at g11'
 refine aN (neT g11)<|aN (neT g11)<|aN (neT g11)<|aB (y_pickT g11)<|aD ?_
 refine aF (ah3 0 3 15) fun r=>?_
 refine fP rfl ?_
 refine hw_sr (aB aC<|aD ?_)
 refine hw_rr ?_
 refine aQ rfl (.cons aU .nil) ?_
 have hr:dZ q l = 3:=by unfold dZ; rw [g11]; rfl
 replace le:=le.t lb1
 exact ⟨by first | rfl | (rw [hr]; rfl),le⟩
 have g11':=g11
 simp at g11'
 refine aO g11 (y_loadB B1 0 _)<|?_
 replace OB0:=OB0.newB sb1 hO1 eb1
 refine iR g11 aG (nH (l:=l) OB0) (fun v2 h2 q2=>?_)
 obtain ⟨rfl,lc2⟩:=q2
 have z2:=lc2.1
 refine aO g11 dG<|aB (aR g11)<|aD ?_
 refine aF (ah3 0 3 15) fun r=>?_
 refine dS (fun g15=>?_) (fun g15=>?_)
 refine hw_sr (aB aC<|aD ?_)
 refine hw_rr ?_
 refine aQ rfl (.cons aU .nil) ?_
 have hr:dZ q l = 3:=by unfold dZ; rw [g11,g15]; rfl
 replace le:=(le.t lb1).t lc2
 exact ⟨by first | rfl | (rw [hr]; rfl),le⟩
 have hl:=gW g15
 refine aM ?_
 refine aI ?_
 replace B1:=B1.le lc2
 refine aE (aB y_move<|aB (y_loadB B1 0 _)<|?_)
 replace OB0:=OB0.leO lc2.1
 refine bL aG (zN (l:=l) OB0) (fun v3 h3 q3=>?_)
 obtain ⟨rfl,lc3⟩:=q3
 have z3:=lc3.1
 refine aB aC<|aD ?_
 refine aF (ah1 4) fun r=>?_
 refine hw_rr ?_
 refine aQ rfl (.cons aU .nil) ?_
 have hr:dZ q l = kM q l:=by unfold dZ; rw [g11,g15]; rfl
 replace le:=((le.t lb1).t lc2).t lc3
 exact ⟨by first | rfl | (rw [hr]; rfl),le⟩
 refine dA (q < 0) (fun g7=>?_) (fun g7=>?_)
 refine aN (neT (dT g7))<|aN (neT (dT g7))<|aB (y_pickT (dT g7))<|?_
 exact jn _ (aA (aA (aA aJ (by simp only [aH,reduceIte,Nat.reduceEqDiff,reduceCtorEq,(dT g7),bb]))))
 refine aO (dF g7) y_move<|aO (dF g7) cU<|aB (aR (dF g7))<|?_
 exact jn _ (aA (aA (aA aJ (by simp only [aH,reduceIte,Nat.reduceEqDiff,reduceCtorEq,(dF g7),bb]))))
set_option maxHeartbeats 1000000 in
theorem aCw {w0:World} {h:Heap} {O:Nat → Prop} {l:List Letter} {k0v:Value} (k0:Rs h O k0v l) (OB0:OB h O)  : HC (XM PP) w0 7 [k0v].toArray h (fun rv h'=>rv = vi (sU l)∧Le h h'):=by
 obtain ⟨Ak0,nk0,ck0,rfl⟩:=k0.frm
 have le:=Le.refl h
 have OBe:=OB0
 have hl:=k0.len
 refine aV 18 [(0,(.slice Ak0 nk0 ck0))] Tryz.func7 (fun r=>?_)
 refine hw_sr (aB aC<|aD ?_)
 refine hw_sr (aB aC<|aD ?_)
 refine aI ?_
 refine hw_sr (aB aC<|aD ?_)
 refine cT (fun (gx:Nat × Int)=>match gx with | (k,n)=>[(0,(.slice Ak0 nk0 ck0)),(3,vi n),(4,vi (k:Int))]) (fun (gx:Nat × Int) (h' : Heap)=>match gx with | (k,n)=>Le h h' ∧ n = sU l) (aX (cK (fun (gx:Nat × Int)=>match gx with | (k,n)=>[(0,(.slice Ak0 nk0 ck0)),(3,vi n),(4,vi (k:Int))]) (fun (gx:Nat × Int) (h' : Heap)=>match gx with | (k,n)=>Le h h' ∧ k ≤ l.length∧n = (l.take k).foldl dZ 0) (fun (gx:Nat × Int)=>match gx with | (k,n)=>l.length - k) (0,0) ag3 ⟨Le.refl _,by exact ⟨by omega,rfl⟩⟩ ?_)) ?_
 rintro ⟨k,n⟩ r hl1 ⟨lp1,e1,e2⟩
 have zl1:=lp1.1
 have lr1:=lp1
 refine aI ?_
 refine hw_sr (aB y_move<|aB y_move<|aB (y_lenA k0.1)<|aB dB<|aD ?_)
 refine aF (ah4 0 3 4 8) fun r=>?_
 refine aZ (fun g8=>?_) (fun g8=>?_)
 refine aM ?_
 refine aI ?_
 refine aX ?_
 refine aE (aB y_move<|aB y_move<|aB y_move<|?_)
 obtain ⟨x1,hx1⟩:∃ x,l[k]? = some x:=⟨_,List.getElem?_eq_getElem (by omega)⟩
 obtain ⟨sx1_0,sx1_1⟩:SB x1.sign∧SB x1.body:=k0.2.at hx1
 refine aB (y_idxA k0.1)<|?_
 replace k0:=k0.le lp1
 refine aB (y_loadEl k0.1 hx1)<|?_
 replace OB0:=OB0.leO lp1.1
 refine bL aG (aBp (l:=x1) OB0) (fun v2 h2 q2=>?_)
 obtain ⟨rfl,lc2⟩:=q2
 have z2:=lc2.1
 refine aB aC<|aD ?_
 refine aF (ah3 0 3 4) fun r=>?_
 refine aE (aB y_move<|aB bI<|aB aC<|aD ?_)
 replace lr1:=lr1.t lc2
 exact ⟨(k + 1,dZ n x1),ag3,⟨lr1,by exact ⟨by omega,by rw [dK hx1,← e2]⟩⟩,by first | omega | (dsimp only; omega)⟩
 refine cI ?_
 exact ⟨(k,n),ag3,⟨lr1,by rw [e2,List.take_of_length_le (by omega)]; rfl⟩⟩
 rintro ⟨k,n⟩ r hl1 ⟨lp1,e1⟩
 have zl1:=lp1.1
 refine hw_sr (aB y_move<|aB aC<|aD ?_)
 refine hw_rr ?_
 refine aQ rfl (.cons aU .nil) ?_
 replace le:=le.t lp1
 exact ⟨by first | rfl | (simp_all [oneOf] <;> omega),le⟩
set_option maxHeartbeats 1000000 in
theorem pZ {w0:World} {h:Heap} {O:Nat → Prop} {s:Str}  (OB0:OB h O) (s0:SB s:=by first | assumption | omega | (simp; done) | (simp; omega)):HC (XM PP) w0 12 [vs s].toArray h (fun rv h'=>rv = vi (fX 0 s)∧Le h h'):=by
 have le:=Le.refl h
 have OBe:=OB0
 refine aV 25 [(0,vs s)] Tryz.func12 (fun r=>?_)
 refine hw_sr (aB aC<|aD ?_)
 refine hw_sr (aB aC<|aD ?_)
 refine dH (fun (gx:Str × Int)=>match gx with | (t,q)=>[(0,vs t),(3,vi q)]) (fun (gx:Str × Int) (h' : Heap)=>match gx with | (t,q)=>Le h h' ∧ fX 0 s = q) (aX (cK (fun (gx:Str × Int)=>match gx with | (t,q)=>[(0,vs t),(3,vi q)]) (fun (gx:Str × Int) (h' : Heap)=>match gx with | (t,q)=>Le h h' ∧ fX 0 s = fX q t∧SB t) (fun (gx:Str × Int)=>match gx with | (t,q)=>t.length) (s,0) ag2 ⟨Le.refl _,by exact ⟨rfl,by assumption⟩⟩ ?_)) ?_
 rintro ⟨t,q⟩ r hl1 ⟨lp1,e1,st⟩
 have zl1:=lp1.1
 have hb:=jY t
 have lr1:=lp1
 refine aI ?_
 refine hw_sr (aB y_move<|aB y_len_str<|aB cU<|aD ?_)
 refine aZ (fun g9=>?_) (fun g9=>?_)
 refine aM ?_
 refine aX ?_
 refine hw_sr (aB y_move<|?_)
 replace OB0:=OB0.leO lp1.1
 refine bL aG (yG OB0) (fun v2 h2 q2=>?_)
 obtain ⟨rfl,lc2⟩:=q2
 have z2:=lc2.1
 refine aB y_move<|aB aL<|aB aL<|aB aL<|bE aY (fun v3 h3 q3=>?_)
 obtain ⟨b3,O3,rfl,eb3,sb3,lb3,B3,hO3⟩:=q3.ox O
 refine bO (aK aP B3) (fun v4 h4 q4=>?_)
 obtain ⟨rfl,q4⟩:=q4
 have z4:=q4.1
 have B3:=q4.2.2
 refine aB aC<|aB aC<|aD ?_
 refine aF (ah5 0 3 4 5 6) fun r=>?_
 refine aI ?_
 refine hw_sr (aB y_move<|aB fS<|aD ?_)
 refine fH (fun g17=>?_) (fun g17=>?_)
 refine hw_sr (aB aC<|aD ?_)
 refine hw_rr ?_
 refine aQ rfl (.cons aU .nil) ?_
 have hr:fX 0 s = 3:=by rw [fX.eq_def q t,if_pos (by omega),if_neg g17] at e1; exact e1
 replace le:=(((le.t lp1).t lc2).t lb3).s q4
 exact ⟨by first | rfl | (rw [hr]; rfl),le⟩
 have hs3:=hb.2.2.2.2 g17
 refine aM ?_
 refine hw_sr (aB y_move<|aB (y_loadB B3 0 _)<|?_)
 replace OB0:=((OB0.leO lc2.1).newB sb3 hO3 eb3).leO (Nat.le_of_eq q4.1.symm)
 refine bL aG (zN (l:=((cA t).1)) OB0) (fun v5 h5 q5=>?_)
 obtain ⟨rfl,lc5⟩:=q5
 have z5:=lc5.1
 refine aB aC<|aD ?_
 refine aF (ah3 0 3 5) fun r=>?_
 refine aE (aB y_move<|aB y_move<|aB hQ<|aB aC<|aD ?_)
 replace lr1:=(((lr1.t lc2).t lb3).s q4).t lc5
 exact ⟨((t.drop (((cA t).2.1).toNat)),kM q ((cA t).1)),ag2,⟨lr1,by rw [fX.eq_def q t,if_pos (by omega),if_pos g17] at e1; exact ⟨e1,by show (List.drop _ t).length ≤ 4294967296; rw [List.length_drop]; omega⟩⟩,by (dsimp only; rw [List.length_drop]; have:=hb.2.2.2.2 g17; omega)⟩
 refine cI ?_
 exact ⟨(t,q),ag2,⟨lr1,by rw [fX.eq_def q t,if_neg (by omega)] at e1; exact e1⟩⟩
 rintro ⟨t,q⟩ r hl1 ⟨lp1,e1⟩
 have zl1:=lp1.1
 refine hw_sr (aB y_move<|aB aC<|aD ?_)
 refine hw_rr ?_
 refine aQ rfl (.cons aU .nil) ?_
 have hr:=e1
 replace le:=le.t lp1
 exact ⟨by first | rfl | (rw [hr]; rfl),le⟩
end
section
open Go.Conc
theorem aBV {P:Program} {s:Env} {h:Heap} {t ty:TypeId} {x:Operand} {α:Type} [Flat α] {X:Nat → Prop} {v:Value} {l:List α} {i:Nat} {z:α} {n:Nat} [ht:oO P t n] (hr:RdF h X v l) (hi:l[i]? = some z) (off:Nat) (us:List Value) (hu:us = ((Flat.enc z).drop off).take n:=by rfl) (hn:us.length = n:=by rfl) (hx:ev s x = .pointer (some ((elA v (i * Flat.n α)).add off)):=by (simp only [ev,aH,reduceIte,Nat.reduceEqDiff,reduceCtorEq] <;> rfl)):Y P s h (.load t x) ty (.agg us.toArray):=by
  refine sP hn (fun j w hj=>?_) hx
  have e:((elA v (i * Flat.n α)).add off).add j = (elA v (i * Flat.n α)).add (off + j):=by
    unfold Addr.add; by_cases h1:off = 0 <;> by_cases h2:j = 0 <;> simp_all [Nat.add_assoc]
  rw [e]
  refine hr.cell hi ?_
  rw [hu,List.getElem?_take] at hj
  split at hj
  · rw [List.getElem?_drop] at hj; exact hj
  · cases hj
def tQ (s:Str):Bool:=(decide ((s.length:Int) = 1) && (s[0]?).any (fun y=>decide (97 ≤ (y.toNat:Int)))) && (s[0]?).any (fun y=>decide ((y.toNat:Int) ≤ 122))
def dN (t:cS):Letter:=⟨[90],if t.seat.bad then [101] else if t.seat.on then [116] else [105]⟩
theorem jD (t:cS):SB (dN t).sign∧SB (dN t).body:=by
  refine ⟨by show ([90]:Str).length ≤ 4294967296; decide,?_⟩
  show (if t.seat.bad then [101] else if t.seat.on then [116] else [105]:Str).length ≤ 4294967296
  split
  · decide
  · split <;> decide
def oQ (x:Row):Letter:=⟨[82],(x.key ++ [32]) ++ dec x.num⟩
def gM (rows:List Row) (c:Int):List Letter:=if c = 0 then rows.map oQ ++ [⟨[67],eE c⟩] else [⟨[69],eE c⟩]
def RowB (x:Row):Prop:=x.key.length ≤ 2∧-9990 ≤ x.num∧x.num ≤ 9990
def mO (l:List Row):Prop:=∀ x ∈ l,RowB x
theorem mO.at {l:List Row} (h:mO l) {k:Nat} {x:Row} (hx:l[k]? = some x):x.key.length ≤ 2∧-9990 ≤ x.num∧x.num ≤ 9990:=h x (List.mem_of_getElem? hx)
theorem mO.nil:mO []:=fun _ h=>nomatch h
theorem aCT {α β:Type} {f:α → β} {l:List α} {k:Nat} {x:α} (hx:l[k]? = some x):(l.take (k + 1)).map f = (l.take k).map f ++ [f x]:=by
  obtain ⟨h1,rfl⟩:=List.getElem?_eq_some_iff.1 hx
  rw [List.take_succ_eq_append_getElem h1,List.map_append]; rfl
def cH:List Named → Str → Ask × Bool
  | [],_=>(⟨0,[],[],0⟩,false)
  | x :: l,n=>if x.name = n then (x.ask,true) else cH l n
theorem nV {l:List Named} {n:Str} {k:Nat} {x:Named} (hx:l[k]? = some x):cH (l.drop k) n = if x.name = n then (x.ask,true) else cH (l.drop (k + 1)) n:=by
  obtain ⟨h1,rfl⟩:=List.getElem?_eq_some_iff.1 hx
  rw [List.drop_eq_getElem_cons h1,cH]
theorem vH {l:List Named} {n:Str} {k:Nat} (h:l.length ≤ k):cH (l.drop k) n = (⟨0,[],[],0⟩,false):=by rw [List.drop_eq_nil_of_le h,cH]
def gV (x:Named) (p:List Named × Bool) (y:Named):List Named × Bool :=
  let q:=if !p.2 && !Op.bytesLess y.name x.name then (p.1 ++ [x],true) else p
  (if y.name = x.name then q.1 else q.1 ++ [y],q.2)
def kS (l:List Named) (x:Named):List Named:=let p:=l.foldl (gV x) ([],false); if p.2 then p.1 else p.1 ++ [x]
theorem sB (x:Named) (l:List Named):∀ p,(l.foldl (gV x) p).1.length ≤ p.1.length + 2 * l.length:=by
  induction l with
  | nil=>intro p; simp
  | cons y l ih =>
    intro p
    have h1:=ih (gV x p y)
    have h2:(gV x p y).1.length ≤ p.1.length + 2:=by simp only [gV]; split <;> split <;> simp
    simp only [List.foldl_cons,List.length_cons]; omega
theorem zK (l:List Named) (x:Named):(kS l x).length ≤ 2 * l.length + 1:=by
  have:=sB x l ([],false)
  simp only [List.length_nil] at this
  unfold kS
  dsimp only
  split <;> simp <;> omega
theorem uO (t:Str):(cX t).1.key.length ≤ 2∧(cX t).1.hi.length ≤ 2∧-999 ≤ (cX t).1.num∧(cX t).1.num ≤ 999:=by
  unfold cX
  split
  · exact ⟨by decide,by decide,by decide,by decide⟩
  · rename_i h
    simp only [Bool.or_eq_true,decide_eq_true_eq,Bool.not_eq_true',decide_eq_false_iff_not,not_or,Decidable.not_not] at h
    have hk:pL (oH (pieces 32 t [])) = true:=by
      have h2:=h.2
      unfold fO at h2
      split at h2
      · assumption
      · exact absurd h2.symm h.1
    have:=oI hk
    exact ⟨this.2.1,this.2.2.1,this.2.2.2.1,this.2.2.2.2⟩
def bX:cS:=⟨seatNone,[],false,true,[]⟩
def eL:Letter:=⟨[66],[]⟩
def zD (s:Str):Bool:=(decide (2 < (s.length:Int)) && tQ (s.take 1)) && (s[1]?).any (fun y=>decide ((y.toNat:Int) = 32))
def wH (t:cS) (s:Str):List Named:=kS t.names ⟨s.take 1,(cX (s.drop 2)).1⟩
def cR (t:cS) (s:Str):cS × List Letter :=
  if zD s then
    if ((cX (s.drop 2)).2 && decide (3 < ((wH t s).length:Int))) then (⟨t.seat,t.names,true,t.gone,t.inn⟩,gM [] 3)
    else if (cX (s.drop 2)).2 then (⟨t.seat,wH t s,t.skip,t.gone,t.inn⟩,[⟨[49],[]⟩])
    else (⟨t.seat,t.names,true,t.gone,t.inn⟩,gM [] 1)
  else (⟨t.seat,t.names,true,t.gone,t.inn⟩,gM [] 1)
set_option maxHeartbeats 1000000 in
theorem aCX {w0:World} {h:Heap} {s:Str}  (s0:SB s:=by first | assumption | omega | (simp; done) | (simp; omega)):HC (XM PP) w0 105 [vs s].toArray h (fun rv h'=>rv = vb (tQ s)∧h' = h):=by
 refine aV 16 [(0,vs s)] Tryz.func105 (fun r=>?_)
 refine hw_sr (aB aC<|aD ?_)
 refine hw_sr (aB y_move<|aB y_len_str<|aB bM<|aB y_move<|?_)
 refine bB 4 [(0,vs s),(10,vb ((decide ((s.length:Int) = 1)) && ((s[0]?).any (fun y=>(decide ((97:Int) ≤ (y.toNat:Int)))))))] (fun r=>?_) (fun jn=>?_)
 refine aB y_move<|?_
 refine bB 4 [(15,vb (((decide ((s.length:Int) = 1)) && ((s[0]?).any (fun y=>(decide ((97:Int) ≤ (y.toNat:Int)))))) && ((s[0]?).any (fun y=>(decide ((y.toNat:Int) ≤ 122))))))] (fun r=>?_) (fun jn=>?_)
 refine aB aC<|aD ?_
 refine hw_rr ?_
 refine aQ rfl (.cons aU .nil) ?_
 exact ⟨by first | rfl | (simp_all [oneOf] <;> omega),rfl⟩
 refine eT (b:=((decide ((s.length:Int) = 1)) && ((s[0]?).any (fun y=>(decide ((97:Int) ≤ (y.toNat:Int))))))) (fun g11=>?_) (fun g11=>?_)
 have g11':=g11
 simp at g11'
 refine aO g11 y_move<|?_
 obtain ⟨x1,hx1⟩:∃ c,s[0]? = some c:=⟨_,List.getElem?_eq_getElem (by omega)⟩
 refine aO g11 (bV hx1)<|aO g11 y_leq<|aB (y_pickT g11)<|?_
 exact jn _ (aA aJ (by first | (simp only [aH,reduceIte,Nat.reduceEqDiff,reduceCtorEq,g11,hx1,bb]; done) | (simp only [aH,reduceIte,Nat.reduceEqDiff,reduceCtorEq]; try simp only [g11,bb]; try simp only [hx1,bb]; done) | (simp only [aH,reduceIte,Nat.reduceEqDiff,reduceCtorEq,g11,hx1,bb]; rfl)))
 have g11':=g11
 simp at g11'
 refine aN (neF g11)<|aN (neF g11)<|aN (neF g11)<|aB (aR g11)<|?_
 exact jn _ (aA aJ (by simp only [aH,reduceIte,Nat.reduceEqDiff,reduceCtorEq,g11,bb] <;> rfl))
 refine dA ((s.length:Int) = 1) (fun g6=>?_) (fun g6=>?_)
 refine aO (dT g6) y_move<|?_
 obtain ⟨x1,hx1⟩:∃ c,s[0]? = some c:=⟨_,List.getElem?_eq_getElem (by omega)⟩
 refine aO (dT g6) (bV hx1)<|aO (dT g6) y_geq<|aB (y_pickT (dT g6))<|?_
 exact jn _ (aA (aA aJ (by first | (simp only [aH,reduceIte,Nat.reduceEqDiff,reduceCtorEq,(dT g6),hx1,bb]; done) | (simp only [aH,reduceIte,Nat.reduceEqDiff,reduceCtorEq]; try simp only [(dT g6),bb]; try simp only [hx1,bb]; done) | (simp only [aH,reduceIte,Nat.reduceEqDiff,reduceCtorEq,(dT g6),hx1,bb]; rfl))))
 refine aN (neF (dF g6))<|aN (neF (dF g6))<|aN (neF (dF g6))<|aB (aR (dF g6))<|?_
 exact jn _ (aA (aA aJ (by simp only [aH,reduceIte,Nat.reduceEqDiff,reduceCtorEq,(dF g6),bb] <;> rfl)))
set_option maxHeartbeats 1000000 in
theorem zQ {w0:World} {h:Heap} {O:Nat → Prop} {t:cS} {k0v:Value} {k1v:Value} (k0:Rs h O k0v t.seat.work.writes) (k1:Rs h O k1v t.names) (OB0:OB h O) (s0:SB t.inn:=by first | assumption | omega | (simp; done) | (simp; omega)):HC (XM PP) w0 52 [.agg #[vb t.seat.on,vb t.seat.bad,vi t.seat.work.at',k0v,k1v,vb t.skip,vb t.gone,vs t.inn]].toArray h (fun rv h'=>∃ (s1 s2:Value),rv = .agg #[vb t.seat.on,vb t.seat.bad,vi t.seat.work.at',s1,s2,vb t.skip,vb t.gone,vs t.inn]∧Le h h' ∧ Rs h' O s1 t.seat.work.writes∧Rs h' O s2 t.names):=by
 obtain ⟨Ak0,nk0,ck0,rfl⟩:=k0.frm
 obtain ⟨Ak1,nk1,ck1,rfl⟩:=k1.frm
 replace le:=Le.refl h
 have OBe:=OB0
 have hn:=k1.len
 refine aV 17 [(0,.agg #[vb t.seat.on,vb t.seat.bad,vi t.seat.work.at',(.slice Ak0 nk0 ck0),(.slice Ak1 nk1 ck1),vb t.skip,vb t.gone,vs t.inn])] Tryz.func52 (fun r=>?_)
 refine hw_sr (bE cW (fun v1 h1 q1=>?_))
 obtain ⟨b1,O1,rfl,eb1,sb1,lb1,B1,hO1⟩:=q1.ox O
 refine bE aY (fun v2 h2 q2=>?_)
 obtain ⟨b2,O2,rfl,eb2,sb2,lb2,B2,hO2⟩:=q2.ox O1
 refine aD ?_
 refine aI ?_
 replace k0:=(k0.nb lb1 hO1 eb1).nb lb2 hO2 eb2
 have Rk0:=k0
 replace k1:=(k1.nb lb1 hO1 eb1).nb lb2 hO2 eb2
 have Rk1:=k1
 obtain ⟨S3,hS3⟩:=mkO (fun b=>h2.size ≤ b)
 replace mR3:Mod S3 h2 h2:=Mod.refl _
 have hd3:∀ b,b < h2.size∧¬ O2 b → ¬ S3 b:=fun b hb hs=>(fun hs=>absurd hb.1 (Nat.not_lt.2 hs)) ((hS3 b).1 hs)
 replace B1:=B1.le lb2
 refine bH 15 S3 bC (ha2_p 0 rfl (fun _=>y_fieldAddr)<|ha2_y 1 rfl (fun _ mm=>(y_loadB (Blk.mod B1 mm (fun hs=>by rcases (hS3 _).1 hs with hs <;> first | omega)) 0 _))<|ha2_p 4 rfl (fun _=>y_fieldAddr)<|ha2_y 5 rfl (fun _ mm=>(y_load (Blk.at (Blk.mod B1 mm (fun hs=>by rcases (hS3 _).1 hs with hs <;> first | omega)) rfl rfl)))<|ha2_p 7 rfl (fun _=>y_fieldAddr)<|ha2_y 8 rfl (fun _ mm=>(y_load (Blk.at (Blk.mod B1 mm (fun hs=>by rcases (hS3 _).1 hs with hs <;> first | omega)) rfl rfl)))<|ha2_p 9 rfl (fun _=>y_fieldAddr)<|ha2_y 10 rfl (fun _ mm=>(y_load (Blk.at (Blk.mod B1 mm (fun hs=>by rcases (hS3 _).1 hs with hs <;> first | omega)) rfl rfl)))<|ha2_p 11 rfl (fun _=>y_fieldAddr)<|ha2_y 12 rfl (fun _ mm=>(y_load (Blk.at (Blk.mod B1 mm (fun hs=>by rcases (hS3 _).1 hs with hs <;> first | omega)) rfl rfl)))<|?_)
 refine dU 2 3 ?_ ?_
 replace OB0:=(OB0.newB sb1 hO1 eb1).newB sb2 hO2 eb2
 refine cC rfl aG (zV (s:=t.seat) k0 OB0) (fun v4 h4 q4=>?_)
 obtain ⟨s4_1,rfl,lc4,k4_1⟩:=q4
 have z4:=lc4.1
 refine ⟨Le.mod lc4,?_⟩
 obtain ⟨A5,n5,c5,rfl⟩:=k4_1.frm
 refine aW 3 (?_)
 refine cB rfl (bA (l:=([]:List Named))) (fun v6 h6 q6=>?_)
 obtain ⟨lb6,ow6,sb6⟩:=q6
 have z6:=lb6.1
 obtain ⟨O6,hO6⟩:=mkO (fun x=>O2 x ∨ vblk v6 x)
 refine ⟨Le.mod lb6,?_⟩
 replace o6:Ow _ _ _ _ _:=⟨ow6,OkL.nil⟩
 obtain ⟨A7,n7,c7,rfl⟩:=o6.frm
 refine aW 6 (?_)
 replace k1:=(k1.le lc4).ns lb6 hO6 (fun x hv=>(ow6.vb hv).1)
 refine cB rfl (bW aP o6.1 k1.1 (by omega) (Nat.add_le_add o6.2.len k1.2.len)) (fun v8 h8 q8=>?_)
 have L1:=o6.2.len
 have L2:=k1.2.len
 obtain ⟨O8,hO8,z8,ow8⟩:=q8.ow (OkL.app o6.2 k1.2 (by first | omega | (simp only [List.length_append,List.length_take,List.length_drop,List.length_cons,List.length_nil,List.length_set]; omega) | (simp; omega))) O6
 have ms:=Mod.mono (S':=S3) q8.2.1 (fun x _ e=>(hS3 x).2 (by have:=o6.vb e; first | omega | exact .inl (by omega) | simp [e] | simp [dC e]))
 refine ⟨ms,?_⟩
 replace B1:=(B1.le lc4).le lb6
 replace B2:=(B2.le lc4).le lb6
 replace le:=((((le.t lb1).t lb2).t lc4).t lb6).ap o6 q8 (by omega)
 replace B1:=B1.app q8 (o6.1.ne B1 (by decide))
 replace B2:=B2.app q8 (o6.1.ne B2 (by decide))
 replace o6:=ow8
 obtain ⟨A9,n9,c9,rfl⟩:=o6.frm
 refine ha2_p 13 rfl (fun _=>(y_build rfl rfl))<|?_
 refine cV 14 rfl (aK aP B2) (fun v10 h10 q10=>?_)
 obtain ⟨rfl,q10⟩:=q10
 have z10:=q10.1
 replace o6:=o6.st q10 (o6.1.ne B2 (by decide))
 replace B2:=q10.2.2
 refine bD ?_
 refine aF (ah1 2) fun r=>?_
 refine hw_rr ?_
 refine aQ rfl (.cons (bT B2) .nil) ?_
 replace le:=le.s q10
 replace k4_1:=((k4_1.ns lb6 hO6 (fun x hv=>(ow6.vb hv).1)).ap q8 (fun x hv=>(hO6 x).2 (.inr hv)) hO8).st q10 (il hO8 (il hO6 (ir hO2)))
 exact ⟨_,_,by first | rfl | (simp_all [oneOf] <;> omega),le,(k4_1.wk (fun x hx=>(il hO8 (il hO6 (il hO2 (il hO1 hx)))))).cast (by first | rfl | (simp_all [oneOf] <;> omega)),(o6.fin OBe (by omega)).cast (by first | rfl | (simp_all [oneOf] <;> omega))⟩
 refine cB rfl (bA (l:=([]:List Named))) (fun v11 h11 q11=>?_)
 obtain ⟨lb11,ow11,sb11⟩:=q11
 have z11:=lb11.1
 obtain ⟨O11,hO11⟩:=mkO (fun x=>O2 x ∨ vblk v11 x)
 refine ⟨Le.mod lb11,?_⟩
 replace o11:Ow _ _ _ _ _:=⟨ow11,OkL.nil⟩
 obtain ⟨A12,n12,c12,rfl⟩:=o11.frm
 refine aW 2 (?_)
 replace OB0:=((OB0.newB sb1 hO1 eb1).newB sb2 hO2 eb2).newS lb11.1 hO11 (fun x hv=>(ow11.vb hv).2)
 replace k0:=k0.ns lb11 hO11 (fun x hv=>(ow11.vb hv).1)
 refine cC rfl aG (zV (s:=t.seat) k0 OB0) (fun v13 h13 q13=>?_)
 obtain ⟨s13_1,rfl,lc13,k13_1⟩:=q13
 have z13:=lc13.1
 refine ⟨Le.mod lc13,?_⟩
 obtain ⟨A14,n14,c14,rfl⟩:=k13_1.frm
 refine aW 6 (?_)
 replace o11:=o11.le lc13
 replace k1:=(k1.ns lb11 hO11 (fun x hv=>(ow11.vb hv).1)).le lc13
 refine cB rfl (bW aP o11.1 k1.1 (by omega) (Nat.add_le_add o11.2.len k1.2.len)) (fun v15 h15 q15=>?_)
 have L1:=o11.2.len
 have L2:=k1.2.len
 obtain ⟨O15,hO15,z15,ow15⟩:=q15.ow (OkL.app o11.2 k1.2 (by first | omega | (simp only [List.length_append,List.length_take,List.length_drop,List.length_cons,List.length_nil,List.length_set]; omega) | (simp; omega))) O11
 have ms:=Mod.mono (S':=S3) q15.2.1 (fun x _ e=>(hS3 x).2 (by have:=o11.vb e; first | omega | exact .inl (by omega) | simp [e] | simp [dC e]))
 refine ⟨ms,?_⟩
 replace B1:=(B1.le lb11).le lc13
 replace B2:=(B2.le lb11).le lc13
 replace le:=((((le.t lb1).t lb2).t lb11).t lc13).ap o11 q15 (by omega)
 replace B1:=B1.app q15 (o11.1.ne B1 (by decide))
 replace B2:=B2.app q15 (o11.1.ne B2 (by decide))
 replace o11:=ow15
 obtain ⟨A16,n16,c16,rfl⟩:=o11.frm
 refine ha2_p 13 rfl (fun _=>(y_build rfl rfl))<|?_
 refine cV 14 rfl (aK aP B2) (fun v17 h17 q17=>?_)
 obtain ⟨rfl,q17⟩:=q17
 have z17:=q17.1
 replace o11:=o11.st q17 (o11.1.ne B2 (by decide))
 replace B2:=q17.2.2
 refine bD ?_
 refine aF (ah1 2) fun r=>?_
 refine hw_rr ?_
 refine aQ rfl (.cons (bT B2) .nil) ?_
 replace le:=le.s q17
 replace k13_1:=(k13_1.ap q15 (fun x hv=>(hO11 x).2 (.inr hv)) hO15).st q17 (il hO15 (il hO11 (ir hO2)))
 exact ⟨_,_,by first | rfl | (simp_all [oneOf] <;> omega),le,(k13_1.wk (fun x hx=>(il hO15 (il hO11 (il hO2 (il hO1 hx)))))).cast (by first | rfl | (simp_all [oneOf] <;> omega)),(o11.fin OBe (by omega)).cast (by first | rfl | (simp_all [oneOf] <;> omega))⟩
set_option maxHeartbeats 1000000 in
theorem wL {w0:World} {h:Heap} {O:Nat → Prop} {t:cS} {k0v:Value} {k1v:Value} (k0:Rs h O k0v t.seat.work.writes) (k1:Rs h O k1v t.names) (OB0:OB h O) (s0:SB t.inn:=by first | assumption | omega | (simp; done) | (simp; omega)):HC (XM PP) w0 91 [.agg #[vb t.seat.on,vb t.seat.bad,vi t.seat.work.at',k0v,k1v,vb t.skip,vb t.gone,vs t.inn]].toArray h (fun rv h'=>rv = .agg #[vs ((dN t).sign),vs ((dN t).body)]∧Le h h' ∧ (SB (dN t).sign∧SB (dN t).body)):=by
 obtain ⟨Ak0,nk0,ck0,rfl⟩:=k0.frm
 obtain ⟨Ak1,nk1,ck1,rfl⟩:=k1.frm
 replace le:=Le.refl h
 have OBe:=OB0
 refine aV 12 [(0,.agg #[vb t.seat.on,vb t.seat.bad,vi t.seat.work.at',(.slice Ak0 nk0 ck0),(.slice Ak1 nk1 ck1),vb t.skip,vb t.gone,vs t.inn])] Tryz.func91 (fun r=>?_)
 refine hw_sr (bE cW (fun v1 h1 q1=>?_))
 obtain ⟨b1,O1,rfl,eb1,sb1,lb1,B1,hO1⟩:=q1.ox O
 refine bE aY (fun v2 h2 q2=>?_)
 obtain ⟨b2,O2,rfl,eb2,sb2,lb2,B2,hO2⟩:=q2.ox O1
 refine aD ?_
 refine hw_sr (aB aC<|aD ?_)
 refine aI ?_
 refine aI ?_
 replace B1:=B1.le lb2
 refine aE (aB y_fieldAddr<|aB y_fieldAddr<|aB (y_load (Blk.at B1 rfl rfl))<|aD ?_)
 refine bF (fun g6=>?_) (fun g6=>?_)
 refine aE (aB aC<|aD ?_)
 refine aI ?_
 refine hw_sr (aB y_fieldAddr<|aB y_fieldAddr<|aB (y_load (Blk.at B1 rfl rfl))<|aD ?_)
 refine aF (ah3 2 3 9) fun r=>?_
 refine bF (fun g9=>?_) (fun g9=>?_)
 refine aE (aB aC<|aD ?_)
 refine hw_sr (aB y_move<|aB (y_build rfl rfl)<|?_)
 refine bO (aK aP B2) (fun v3 h3 q3=>?_)
 obtain ⟨rfl,q3⟩:=q3
 have z3:=q3.1
 replace B2:=q3.2.2
 refine aD ?_
 refine aF (ah1 2) fun r=>?_
 refine hw_rr ?_
 refine aQ rfl (.cons (bT B2) .nil) ?_
 have hr:dN t = ⟨[90],[101]⟩:=by unfold dN; rw [g9]; rfl
 replace le:=((le.t lb1).t lb2).s q3
 exact ⟨by first | rfl | (rw [hr] <;> rfl),le,jD t⟩
 refine aM ?_
 refine hw_sr (aB y_move<|aB (y_build rfl rfl)<|?_)
 refine bO (aK aP B2) (fun v4 h4 q4=>?_)
 obtain ⟨rfl,q4⟩:=q4
 have z4:=q4.1
 replace B2:=q4.2.2
 refine aD ?_
 refine aF (ah1 2) fun r=>?_
 refine hw_rr ?_
 refine aQ rfl (.cons (bT B2) .nil) ?_
 have hr:dN t = ⟨[90],[116]⟩:=by unfold dN; rw [g6,g9]; rfl
 replace le:=((le.t lb1).t lb2).s q4
 exact ⟨by first | rfl | (rw [hr] <;> rfl),le,jD t⟩
 refine aM ?_
 refine aI ?_
 refine hw_sr (aB y_fieldAddr<|aB y_fieldAddr<|aB (y_load (Blk.at B1 rfl rfl))<|aD ?_)
 refine aF (ah3 2 3 9) fun r=>?_
 refine bF (fun g9=>?_) (fun g9=>?_)
 refine aE (aB aC<|aD ?_)
 refine hw_sr (aB y_move<|aB (y_build rfl rfl)<|?_)
 refine bO (aK aP B2) (fun v5 h5 q5=>?_)
 obtain ⟨rfl,q5⟩:=q5
 have z5:=q5.1
 replace B2:=q5.2.2
 refine aD ?_
 refine aF (ah1 2) fun r=>?_
 refine hw_rr ?_
 refine aQ rfl (.cons (bT B2) .nil) ?_
 have hr:dN t = ⟨[90],[101]⟩:=by unfold dN; rw [g9]; rfl
 replace le:=((le.t lb1).t lb2).s q5
 exact ⟨by first | rfl | (rw [hr] <;> rfl),le,jD t⟩
 refine aM ?_
 refine hw_sr (aB y_move<|aB (y_build rfl rfl)<|?_)
 refine bO (aK aP B2) (fun v6 h6 q6=>?_)
 obtain ⟨rfl,q6⟩:=q6
 have z6:=q6.1
 replace B2:=q6.2.2
 refine aD ?_
 refine aF (ah1 2) fun r=>?_
 refine hw_rr ?_
 refine aQ rfl (.cons (bT B2) .nil) ?_
 have hr:dN t = ⟨[90],[105]⟩:=by unfold dN; rw [g6,g9]; rfl
 replace le:=((le.t lb1).t lb2).s q6
 exact ⟨by first | rfl | (rw [hr] <;> rfl),le,jD t⟩
set_option maxHeartbeats 1000000 in
theorem mG {w0:World} {h:Heap} {O:Nat → Prop} {rows:List Row} {k0v:Value} {c:Int} (k0:Rs h O k0v rows) (OB0:OB h O)  (h0:0 ≤ c∧c ≤ 6:=by first | assumption | omega) (hR:mO rows:=by first | assumption | exact mO.nil) (hl:rows.length ≤ 1000000:=by first | omega | (simp; done)):HC (XM PP) w0 95 [k0v,vi c].toArray h (fun rv h'=>Le h h' ∧ Ow h' h.size rv (gM rows c) 28):=by
 obtain ⟨Ak0,nk0,ck0,rfl⟩:=k0.frm
 replace le:=Le.refl h
 have OBe:=OB0
 have hw:=qS c
 refine aV 45 [(0,(.slice Ak0 nk0 ck0)),(1,vi c)] Tryz.func95 (fun r=>?_)
 refine hw_sr (aB aC<|aD ?_)
 refine hw_sr (bE (bA (l:=([]:List Letter))) (fun v1 h1 q1=>?_))
 obtain ⟨lb1,ow1,sb1⟩:=q1
 have z1:=lb1.1
 obtain ⟨O1,hO1⟩:=mkO (fun x=>O x ∨ vblk v1 x)
 replace o1:Ow _ _ _ _ _:=⟨ow1,OkL.nil⟩
 obtain ⟨A2,n2,c2,rfl⟩:=o1.frm
 refine aB aC<|aD ?_
 refine aI ?_
 refine hw_sr (aB y_move<|aB fS<|aD ?_)
 refine fH (fun g9=>?_) (fun g9=>?_)
 refine hw_sr (aB y_move<|aB y_move<|?_)
 replace OB0:=OB0.newS lb1.1 hO1 (fun x hv=>(ow1.vb hv).2)
 refine bL aG (nX OB0) (fun v3 h3 q3=>?_)
 obtain ⟨rfl,lc3⟩:=q3
 have z3:=lc3.1
 refine aB (y_build rfl rfl)<|?_
 refine bE (bA (l:=([(⟨[69],eE c⟩:Letter)]:List Letter))) (fun v4 h4 q4=>?_)
 obtain ⟨lb4,ow4,sb4⟩:=q4
 have z4:=lb4.1
 replace OB0:=OB0.leO lc3.1
 replace k4:Rs _ O1 _ _:=Ow.end ⟨ow4,ok1⟩ OB0
 obtain ⟨A5,n5,c5,rfl⟩:=k4.frm
 replace o1:=(o1.le lc3).le lb4
 refine bE (bW aP o1.1 k4.1 (by omega) (Nat.add_le_add o1.2.len k4.2.len)) (fun v6 h6 q6=>?_)
 have L1:=o1.2.len
 have L2:=k4.2.len
 obtain ⟨O6,hO6,z6,ow6⟩:=q6.ow (OkL.app o1.2 k4.2 (by first | omega | (simp only [List.length_append,List.length_take,List.length_drop,List.length_cons,List.length_nil,List.length_set]; omega) | (simp; omega))) O1
 replace le:=(((le.t lb1).t lc3).t lb4).ap o1 q6 (by omega)
 replace o1:=ow6
 obtain ⟨A7,n7,c7,rfl⟩:=o1.frm
 refine aB aC<|aD ?_
 refine aF (ah1 4) fun r=>?_
 refine hw_rr ?_
 refine aQ rfl (.cons aU .nil) ?_
 have hr:gM rows c = [⟨[69],eE c⟩]:=if_neg g9
 exact ⟨le,(o1.wk (by omega)).cast (by first | rfl | (rw [hr]; first | rfl | (rw [e1]; rfl) | (rw [← e1]; rfl) | simp [e1]))⟩
 refine aM ?_
 refine aI ?_
 refine hw_sr (aB aC<|aD ?_)
 replace le:=le.t lb1
 replace OB0:=OB0.newS lb1.1 hO1 (fun x hv=>(ow1.vb hv).2)
 refine cT (fun (gx:Nat × (List Letter) × (Nat → Prop) × Value)=>match gx with | (k,m,OL8,ov)=>[(0,(.slice Ak0 nk0 ck0)),(1,vi c),(5,ov),(6,vi (k:Int))]) (fun (gx:Nat × (List Letter) × (Nat → Prop) × Value) (h' : Heap)=>match gx with | (k,m,OL8,ov)=>Le h h' ∧ Mod O1 h1 h' ∧ (∀ x,OL8 x → O1 x ∨ h1.size ≤ x)∧(∀ x,O1 x → OL8 x)∧OB h' OL8∧Ow h' h.size ov m 28∧(∀ x,vblk ov x → OL8 x)∧m = rows.map oQ∧m.length ≤ rows.length) (aX (cK (fun (gx:Nat × (List Letter) × (Nat → Prop) × Value)=>match gx with | (k,m,OL8,ov)=>[(0,(.slice Ak0 nk0 ck0)),(1,vi c),(5,ov),(6,vi (k:Int))]) (fun (gx:Nat × (List Letter) × (Nat → Prop) × Value) (h' : Heap)=>match gx with | (k,m,OL8,ov)=>Le h h' ∧ Mod O1 h1 h' ∧ (∀ x,OL8 x → O1 x ∨ h1.size ≤ x)∧(∀ x,O1 x → OL8 x)∧OB h' OL8∧Ow h' h.size ov m 28∧(∀ x,vblk ov x → OL8 x)∧k ≤ rows.length∧m = (rows.take k).map oQ∧m.length ≤ k) (fun (gx:Nat × (List Letter) × (Nat → Prop) × Value)=>match gx with | (k,m,OL8,ov)=>rows.length - k) (0,[],O1,(.slice A2 n2 c2)) ag4 ⟨le,Mod.refl _,fun x hx=>.inl hx,fun x hx=>hx,OB0,o1.wk (by omega),(fun x hv=>(hO1 x).2 (.inr hv)),by exact ⟨by omega,rfl,by simp⟩⟩ ?_)) ?_
 rintro ⟨k,m,OL8,ov⟩ r hl8 ⟨le,lp8,la8,lb8,lo8,o1,mo1,e1,e2,e3⟩
 obtain ⟨A9,n9,c9,rfl⟩:=o1.frm
 have zl8:=lp8.1
 replace lr8:=lp8
 replace lx8:=la8
 refine aI ?_
 refine hw_sr (aB y_move<|aB y_move<|aB (y_lenA k0.1)<|aB dB<|aD ?_)
 refine aF (ah5 0 1 5 6 19) fun r=>?_
 refine aZ (fun g19=>?_) (fun g19=>?_)
 refine aM ?_
 refine aI ?_
 refine aX ?_
 replace OB0:=lo8
 replace k0:=(k0.ns lb1 hO1 (fun x hv=>(ow1.vb hv).1)).lp lp8 la8
 have Rk0:=k0
 obtain ⟨S10,hS10⟩:=mkO (fun b=>hl8.size ≤ b ∨ vblk (.slice A9 n9 c9) b)
 replace mR10:Mod S10 hl8 hl8:=Mod.refl _
 have hd10:∀ b,b < hl8.size∧¬ OL8 b → ¬ S10 b:=fun b hb hs=>(fun hs=>hs.elim (fun hs=>absurd hb.1 (Nat.not_lt.2 hs)) (fun hs=>hb.2 (mo1 b hs))) ((hS10 b).1 hs)
 replace so_o1:∀ x,vblk (.slice A9 n9 c9) x → S10 x:=fun x hv=>(hS10 x).2 (by simp [hv])
 refine bH 18 S10 bC (ha2_p 0 rfl (fun _=>y_move)<|ha2_p 1 rfl (fun _=>y_move)<|ha2_p 2 rfl (fun _=>y_move)<|?_)
 obtain ⟨x1,hx1⟩:∃ x,rows[k]? = some x:=⟨_,List.getElem?_eq_getElem (by omega)⟩
 have sx1:SB x1.key:=k0.2.at hx1
 have hb:=hR.at hx1
 have hd:=kT (n:=x1.num) (by omega)
 refine ha2_y 3 rfl (fun _ _=>(y_idxA k0.1))<|ha2_p 4 rfl (fun _=>y_fieldAddr)<|ha2_y 5 rfl (fun _ mm=>(y_load (RdF.cell (RdF.mod Rk0.1 (mR10.trans mm) hd10) hx1 rfl)))<|?_
 refine ha2_p 6 rfl (fun _=>dX)<|ha2_p 7 rfl (fun _=>y_move)<|ha2_p 8 rfl (fun _=>y_move)<|ha2_y 9 rfl (fun _ _=>(y_idxA k0.1))<|ha2_p 10 rfl (fun _=>y_fieldAddr)<|ha2_y 11 rfl (fun _ mm=>(y_load (RdF.cell (RdF.mod Rk0.1 (mR10.trans mm) hd10) hx1 rfl)))<|?_
 refine aW 12 (cC rfl aG (lB OB0) (fun v11 h11 q11=>?_))
 obtain ⟨rfl,lc11⟩:=q11
 have z11:=lc11.1
 refine ⟨Le.mod lc11,?_⟩
 refine ha2_p 13 rfl (fun _=>dX)<|ha2_p 14 rfl (fun _=>(y_build rfl rfl))<|?_
 refine aW 15 (?_)
 refine cB rfl (bA (l:=([(⟨[82],((x1.key ++ [32]) ++ dec x1.num)⟩:Letter)]:List Letter))) (fun v12 h12 q12=>?_)
 obtain ⟨lb12,ow12,sb12⟩:=q12
 have z12:=lb12.1
 refine ⟨Le.mod lb12,?_⟩
 replace OB0:=OB0.leO lc11.1
 replace k12:Rs _ OL8 _ _:=Ow.end ⟨ow12,ok1⟩ OB0
 obtain ⟨A13,n13,c13,rfl⟩:=k12.frm
 replace o1:=(o1.le lc11).le lb12
 refine aW 16 (cB rfl (bW aP o1.1 k12.1 (by omega) (Nat.add_le_add o1.2.len k12.2.len)) (fun v14 h14 q14=>?_))
 have L1:=o1.2.len
 have L2:=k12.2.len
 obtain ⟨O14,hO14,z14,ow14⟩:=q14.ow (OkL.app o1.2 k12.2 (by first | omega | (simp only [List.length_append,List.length_take,List.length_drop,List.length_cons,List.length_nil,List.length_set]; omega) | (simp; omega))) OL8
 replace so_o1q:=fun x hv=>(q14.2.2 x hv).elim (so_o1 x) (fun e=>(hS10 x).2 (by first | omega | exact .inl (by omega)))
 have ms:=Mod.mono (S':=S10) q14.2.1 (fun x _ e=>so_o1 x e)
 refine ⟨ms,?_⟩
 replace so_o1:=so_o1q
 replace lr8:=((lr8.tl lc11).tl lb12).apO q14 (fun x hv=>lx8 x (mo1 x hv))
 replace lx8:=laA lx8 hO14 q14 mo1 (by omega)
 replace le:=((le.t lc11).t lb12).ap o1 q14 (by omega)
 replace o1:=ow14
 obtain ⟨A15,n15,c15,rfl⟩:=o1.frm
 refine bG 17 rfl (fun _=>aC)<|bD ?_
 refine aF (ah4 0 1 5 6) fun r=>?_
 refine aE (aB y_move<|aB bI<|aB aC<|aD ?_)
 replace OB0:=(OB0.leO lb12.1).app q14 hO14
 exact ⟨(k + 1,(m ++ ([(⟨[82],((x1.key ++ [32]) ++ dec x1.num)⟩:Letter)]:List Letter)),O14,(.slice A15 n15 c15)),ag4,⟨le,lr8,lx8,fun x hx=>(il hO14 (lb8 _ hx)),OB0,o1.wk (by omega),(fun x hv=>(hO14 x).2 (.inr hv)),by exact ⟨by omega,by rw [aCT hx1,← e2]; rfl,by simp; omega⟩⟩,by first | omega | (dsimp only; omega)⟩
 refine cI ?_
 replace OB0:=lo8
 exact ⟨(k,m,OL8,(.slice A9 n9 c9)),ag4,⟨le,lr8,lx8,fun x hx=>(lb8 _ hx),OB0,o1.wk (by omega),mo1,by exact ⟨by rw [e2,List.take_of_length_le (by omega)],by omega⟩⟩⟩
 rintro ⟨k,m,OL8,ov⟩ r hl8 ⟨le,lp8,la8,lb8,lo8,o1,mo1,e1,e3⟩
 obtain ⟨A16,n16,c16,rfl⟩:=o1.frm
 have zl8:=lp8.1
 refine hw_sr (aB y_move<|aB y_move<|?_)
 replace OB0:=lo8
 refine bL aG (nX OB0) (fun v17 h17 q17=>?_)
 obtain ⟨rfl,lc17⟩:=q17
 have z17:=lc17.1
 refine aB (y_build rfl rfl)<|?_
 refine bE (bA (l:=([(⟨[67],eE c⟩:Letter)]:List Letter))) (fun v18 h18 q18=>?_)
 obtain ⟨lb18,ow18,sb18⟩:=q18
 have z18:=lb18.1
 replace OB0:=OB0.leO lc17.1
 replace k18:Rs _ OL8 _ _:=Ow.end ⟨ow18,ok1⟩ OB0
 obtain ⟨A19,n19,c19,rfl⟩:=k18.frm
 replace o1:=(o1.le lc17).le lb18
 refine bE (bW aP o1.1 k18.1 (by omega) (Nat.add_le_add o1.2.len k18.2.len)) (fun v20 h20 q20=>?_)
 have L1:=o1.2.len
 have L2:=k18.2.len
 obtain ⟨O20,hO20,z20,ow20⟩:=q20.ow (OkL.app o1.2 k18.2 (by first | omega | (simp only [List.length_append,List.length_take,List.length_drop,List.length_cons,List.length_nil,List.length_set]; omega) | (simp; omega))) OL8
 replace le:=((le.t lc17).t lb18).ap o1 q20 (by omega)
 replace o1:=ow20
 obtain ⟨A21,n21,c21,rfl⟩:=o1.frm
 refine aB aC<|aD ?_
 refine aF (ah1 4) fun r=>?_
 refine hw_rr ?_
 refine aQ rfl (.cons aU .nil) ?_
 have hr:gM rows c = rows.map oQ ++ [⟨[67],eE c⟩]:=if_pos g9
 exact ⟨le,(o1.wk (by omega)).cast (by first | rfl | (rw [hr]; first | rfl | (rw [e1]; rfl) | (rw [← e1]; rfl) | simp [e1]))⟩
set_option maxHeartbeats 1000000 in
theorem aCY {w0:World} {h:Heap} {O:Nat → Prop} {l:List Named} {k0v:Value} {n:Str} (k0:Rs h O k0v l) (OB0:OB h O) (s0:SB n:=by first | assumption | omega | (simp; done) | (simp; omega)):HC (XM PP) w0 96 [k0v,vs n].toArray h (fun rv h'=>rv = .tuple #[.agg #[vi (((cH l n).1).kind),vs (((cH l n).1).key),vs (((cH l n).1).hi),vi (((cH l n).1).num)],vb ((cH l n).2)]∧Le h h' ∧ (SB (cH l n).1.key∧SB (cH l n).1.hi)):=by
 obtain ⟨Ak0,nk0,ck0,rfl⟩:=k0.frm
 replace le:=Le.refl h
 have OBe:=OB0
 have hl:=k0.len
 refine aV 26 [(0,(.slice Ak0 nk0 ck0)),(1,vs n)] Tryz.func96 (fun r=>?_)
 refine hw_sr (bE aY (fun v1 h1 q1=>?_))
 obtain ⟨b1,O1,rfl,eb1,sb1,lb1,B1,hO1⟩:=q1.ox O
 refine aB aC<|aD ?_
 refine aI ?_
 refine hw_sr (aB aC<|aD ?_)
 refine cT (fun (k:Nat)=>[(0,(.slice Ak0 nk0 ck0)),(1,vs n),(4,.pointer (some ⟨b1,0,none⟩)),(6,vi (k:Int))]) (fun (k:Nat) (h' : Heap)=>Le h1 h' ∧ cH l n = (⟨0,[],[],0⟩,false)) (aX (cK (fun (k:Nat)=>[(0,(.slice Ak0 nk0 ck0)),(1,vs n),(4,.pointer (some ⟨b1,0,none⟩)),(6,vi (k:Int))]) (fun (k:Nat) (h' : Heap)=>Le h1 h' ∧ cH l n = cH (l.drop k) n∧k ≤ l.length) (fun (k:Nat)=>l.length - k) (0) ag4 ⟨Le.refl _,by exact ⟨rfl,by omega⟩⟩ ?_)) ?_
 rintro k r hl2 ⟨lp2,e1,e2⟩
 have zl2:=lp2.1
 replace lr2:=lp2
 refine aI ?_
 refine hw_sr (aB y_move<|aB y_move<|aB (y_lenA k0.1)<|aB dB<|aD ?_)
 refine aF (ah5 0 1 4 6 10) fun r=>?_
 refine aZ (fun g10=>?_) (fun g10=>?_)
 refine aM ?_
 refine aI ?_
 refine aX ?_
 refine hw_sr (aB y_move<|aB y_move<|?_)
 obtain ⟨x1,hx1⟩:∃ x,l[k]? = some x:=⟨_,List.getElem?_eq_getElem (by omega)⟩
 obtain ⟨sx1_0,sx1_1,sx1_2⟩:SB x1.name∧SB x1.ask.key∧SB x1.ask.hi:=k0.2.at hx1
 refine aB (y_idxA k0.1)<|aB y_fieldAddr<|?_
 replace k0:=(k0.nb lb1 hO1 eb1).le lp2
 refine aB (y_load (RdF.cell k0.1 hx1 rfl))<|aB y_move<|aB y_seql<|aD ?_
 refine aF (ah5 0 1 4 6 19) fun r=>?_
 refine aZ (fun g19=>?_) (fun g19=>?_)
 refine hw_sr (aB y_move<|aB y_move<|aB (y_idxA k0.1)<|aB y_fieldAddr<|aB (aBV k0.1 hx1 1 _)<|?_)
 replace B1:=B1.le lp2
 refine bO (aK aP B1) (fun v3 h3 q3=>?_)
 obtain ⟨rfl,q3⟩:=q3
 have z3:=q3.1
 replace B1:=q3.2.2
 refine aB aC<|aD ?_
 refine aF (ah5 0 1 4 5 6) fun r=>?_
 refine hw_rr ?_
 refine aQ rfl (.cons (bT B1) (.cons aU .nil)) ?_
 have hr:cH l n = (x1.ask,true):=by rw [e1,nV hx1,if_pos g19]
 replace le:=((le.t lb1).t lp2).s q3
 exact ⟨by first | rfl | (rw [hr] <;> rfl),le,by rw [hr]; exact ⟨by assumption,by assumption⟩⟩
 refine aM ?_
 refine aE (aB y_move<|aB bI<|aB aC<|aD ?_)
 exact ⟨k + 1,ag4,⟨lr2,by exact ⟨by rw [e1,nV hx1,if_neg g19],by omega⟩⟩,by first | omega | (dsimp only; omega)⟩
 refine cI ?_
 exact ⟨k,ag4,⟨lr2,by rw [e1,vH (by omega)]⟩⟩
 rintro k r hl2 ⟨lp2,e1⟩
 have zl2:=lp2.1
 refine hw_sr (aB (y_build rfl rfl)<|?_)
 replace B1:=B1.le lp2
 refine bO (aK aP B1) (fun v4 h4 q4=>?_)
 obtain ⟨rfl,q4⟩:=q4
 have z4:=q4.1
 replace B1:=q4.2.2
 refine aB aC<|aD ?_
 refine hw_rr ?_
 refine aQ rfl (.cons (bT B1) (.cons aU .nil)) ?_
 have hr:=e1
 replace le:=((le.t lb1).t lp2).s q4
 exact ⟨by first | rfl | (rw [hr] <;> rfl),le,by rw [hr]; exact ⟨by decide,by decide⟩⟩
set_option maxHeartbeats 1000000 in
theorem l6Put_c {w0:World} {h:Heap} {O:Nat → Prop} {l:List Named} {k0v:Value} {x:Named} (k0:Rs h O k0v l) (OB0:OB h O) (s0:SB x.name:=by first | assumption | omega | (simp; done) | (simp; omega)) (s1:SB x.ask.key:=by first | assumption | omega | (simp; done) | (simp; omega)) (s2:SB x.ask.hi:=by first | assumption | omega | (simp; done) | (simp; omega)) (hl1:l.length ≤ 1000000:=by first | omega | (simp; omega)):HC (XM PP) w0 106 [k0v,.agg #[vs x.name,vi x.ask.kind,vs x.ask.key,vs x.ask.hi,vi x.ask.num]].toArray h (fun rv h'=>Le h h' ∧ Ow h' h.size rv (kS l x) 121):=by
 obtain ⟨Ak0,nk0,ck0,rfl⟩:=k0.frm
 replace le:=Le.refl h
 have OBe:=OB0
 have hl:=k0.len
 refine aV 53 [(0,(.slice Ak0 nk0 ck0)),(1,.agg #[vs x.name,vi x.ask.kind,vs x.ask.key,vs x.ask.hi,vi x.ask.num])] Tryz.func106 (fun r=>?_)
 refine hw_sr (bE cW (fun v1 h1 q1=>?_))
 obtain ⟨b1,O1,rfl,eb1,sb1,lb1,B1,hO1⟩:=q1.ox O
 refine aB aC<|aD ?_
 refine hw_sr (?_)
 refine bE (bA (l:=([]:List Named))) (fun v2 h2 q2=>?_)
 obtain ⟨lb2,ow2,sb2⟩:=q2
 have z2:=lb2.1
 obtain ⟨O2,hO2⟩:=mkO (fun x=>O1 x ∨ vblk v2 x)
 replace sp_o2_B1:¬ vblk v2 b1:=fun hv=>by have:=ow2.vb hv; omega
 replace o2:Ow _ _ _ _ _:=⟨ow2,OkL.nil⟩
 obtain ⟨A3,n3,c3,rfl⟩:=o2.frm
 refine aB aC<|aD ?_
 refine hw_sr (aB aC<|aD ?_)
 refine aI ?_
 refine hw_sr (aB aC<|aD ?_)
 replace le:=(le.t lb1).t lb2
 replace OB0:=(OB0.newB sb1 hO1 eb1).newS lb2.1 hO2 (fun x hv=>(ow2.vb hv).2)
 replace B1:=B1.le lb2
 refine cT (fun (gx:Nat × (List Named) × Bool × (Nat → Prop) × Value)=>match gx with | (k,m,d,OL4,ov)=>[(0,(.slice Ak0 nk0 ck0)),(3,.pointer (some ⟨b1,0,none⟩)),(5,ov),(6,vb d),(7,vi (k:Int))]) (fun (gx:Nat × (List Named) × Bool × (Nat → Prop) × Value) (h' : Heap)=>match gx with | (k,m,d,OL4,ov)=>Le h h' ∧ Mod O2 h2 h' ∧ (∀ x,OL4 x → O2 x ∨ h2.size ≤ x)∧(∀ x,O2 x → OL4 x)∧OB h' OL4∧Blk h' b1 [vs x.name,vi x.ask.kind,vs x.ask.key,vs x.ask.hi,vi x.ask.num] 121∧OL4 b1∧Ow h' h.size ov m 121∧(∀ x,vblk ov x → OL4 x)∧(¬ vblk ov b1)∧(m,d) = l.foldl (gV x) ([],false)) (aX (cK (fun (gx:Nat × (List Named) × Bool × (Nat → Prop) × Value)=>match gx with | (k,m,d,OL4,ov)=>[(0,(.slice Ak0 nk0 ck0)),(3,.pointer (some ⟨b1,0,none⟩)),(5,ov),(6,vb d),(7,vi (k:Int))]) (fun (gx:Nat × (List Named) × Bool × (Nat → Prop) × Value) (h' : Heap)=>match gx with | (k,m,d,OL4,ov)=>Le h h' ∧ Mod O2 h2 h' ∧ (∀ x,OL4 x → O2 x ∨ h2.size ≤ x)∧(∀ x,O2 x → OL4 x)∧OB h' OL4∧Blk h' b1 [vs x.name,vi x.ask.kind,vs x.ask.key,vs x.ask.hi,vi x.ask.num] 121∧OL4 b1∧Ow h' h.size ov m 121∧(∀ x,vblk ov x → OL4 x)∧(¬ vblk ov b1)∧k ≤ l.length∧(m,d) = (l.take k).foldl (gV x) ([],false)∧m.length ≤ 2 * k) (fun (gx:Nat × (List Named) × Bool × (Nat → Prop) × Value)=>match gx with | (k,m,d,OL4,ov)=>l.length - k) (0,[],false,O2,(.slice A3 n3 c3)) ag5 ⟨le,Mod.refl _,fun x hx=>.inl hx,fun x hx=>hx,OB0,B1,(il hO2 (ir hO1)),o2.wk (by omega),(fun x hv=>(hO2 x).2 (.inr hv)),sp_o2_B1,by exact ⟨by omega,rfl,by simp⟩⟩ ?_)) ?_
 rintro ⟨k,m,d,OL4,ov⟩ r hl4 ⟨le,lp4,la4,lb4,lo4,B1,mB1,o2,mo2,sp_o2_B1,e1,e2,e3⟩
 obtain ⟨A5,n5,c5,rfl⟩:=o2.frm
 have zl4:=lp4.1
 replace lr4:=lp4
 replace lx4:=la4
 refine aI ?_
 refine hw_sr (aB y_move<|aB y_move<|aB (y_lenA k0.1)<|aB dB<|aD ?_)
 refine aF (ah6 0 3 5 6 7 12) fun r=>?_
 refine aZ (fun g12=>?_) (fun g12=>?_)
 refine aM ?_
 refine aI ?_
 refine aX ?_
 refine aI ?_
 refine aI ?_
 refine fR (bN y_move<|bN dG<|bN y_move<|?_)
 refine mJ 9 [(0,(.slice Ak0 nk0 ck0)),(3,.pointer (some ⟨b1,0,none⟩)),(5,(.slice A5 n5 c5)),(6,vb d),(7,vi (k:Int)),(26,vb ((!d) && ((l[k]?).any (fun y=>(!(Op.bytesLess y.name x.name))))))] (fun r=>?_) (fun jn=>?_)
 refine gO ?_
 refine bF (fun g26=>?_) (fun g26=>?_)
 have g26':=g26
 simp at g26'
 refine hw_sr (aB y_move<|aB (y_loadB B1 0 _)<|?_)
 replace OB0:=lo4
 refine bE (bA (l:=([x]:List Named))) (fun v6 h6 q6=>?_)
 obtain ⟨lb6,ow6,sb6⟩:=q6
 have z6:=lb6.1
 replace k6:Rs _ OL4 _ _:=Ow.end ⟨ow6,ok1⟩ OB0
 obtain ⟨A7,n7,c7,rfl⟩:=k6.frm
 replace o2:=o2.le lb6
 refine bE (bW aP o2.1 k6.1 (by omega) (Nat.add_le_add o2.2.len k6.2.len)) (fun v8 h8 q8=>?_)
 have L1:=o2.2.len
 have L2:=k6.2.len
 obtain ⟨O8,hO8,z8,ow8⟩:=q8.ow (OkL.app o2.2 k6.2 (by first | omega | (simp only [List.length_append,List.length_take,List.length_drop,List.length_cons,List.length_nil,List.length_set]; omega) | (simp; omega))) OL4
 replace k0:=((k0.nb lb1 hO1 eb1).ns lb2 hO2 (fun x hv=>(ow2.vb hv).1)).lp lp4 la4
 replace sp_o2_B1q:=fun hv=>(q8.2.2 _ hv).elim sp_o2_B1 (fun e=>by omega)
 replace B1:=(B1.le lb6).app q8 sp_o2_B1
 replace sp_o2_B1:=sp_o2_B1q
 replace lr4:=(lr4.tl lb6).apO q8 (fun x hv=>lx4 x (mo2 x hv))
 replace lx4:=laA lx4 hO8 q8 mo2 (by omega)
 replace le:=(le.t lb6).ap o2 q8 (by omega)
 replace o2:=ow8
 obtain ⟨A9,n9,c9,rfl⟩:=o2.frm
 refine aB aC<|aD ?_
 refine aF (ah5 0 3 5 6 7) fun r=>?_
 refine aE (aB aC<|aD ?_)
 refine aI ?_
 refine fR (bN y_move<|bN y_move<|?_)
 obtain ⟨x1,hx1⟩:∃ x,l[k]? = some x:=⟨_,List.getElem?_eq_getElem (by omega)⟩
 obtain ⟨sx1_0,sx1_1,sx1_2⟩:SB x1.name∧SB x1.ask.key∧SB x1.ask.hi:=k0.2.at hx1
 refine bN (y_idxA k0.1)<|bN y_fieldAddr<|?_
 replace k0:=(k0.le lb6).ap q8 mo2 hO8
 refine bN (y_load (RdF.cell k0.1 hx1 rfl))<|bN y_fieldAddr<|bN (y_load (Blk.at B1 rfl rfl))<|bN jO<|gO ?_
 refine aF (ah6 0 3 5 6 7 38) fun r=>?_
 refine fH (fun g38=>?_) (fun g38=>?_)
 refine aE (aB y_move<|aB y_move<|aB y_move<|aB (y_idxA k0.1)<|aB (y_loadEl k0.1 hx1)<|?_)
 refine bE (bA (l:=([x1]:List Named))) (fun v10 h10 q10=>?_)
 obtain ⟨lb10,ow10,sb10⟩:=q10
 have z10:=lb10.1
 replace OB0:=(OB0.leO lb6.1).app q8 hO8
 replace k10:Rs _ O8 _ _:=Ow.end ⟨ow10,ok1⟩ OB0
 obtain ⟨A11,n11,c11,rfl⟩:=k10.frm
 replace o2:=o2.le lb10
 refine bE (bW aP o2.1 k10.1 (by omega) (Nat.add_le_add o2.2.len k10.2.len)) (fun v12 h12 q12=>?_)
 have L1:=o2.2.len
 have L2:=k10.2.len
 obtain ⟨O12,hO12,z12,ow12⟩:=q12.ow (OkL.app o2.2 k10.2 (by first | omega | (simp only [List.length_append,List.length_take,List.length_drop,List.length_cons,List.length_nil,List.length_set]; omega) | (simp; omega))) O8
 replace sp_o2_B1q:=fun hv=>(q12.2.2 _ hv).elim sp_o2_B1 (fun e=>by omega)
 replace B1:=(B1.le lb10).app q12 sp_o2_B1
 replace sp_o2_B1:=sp_o2_B1q
 replace lr4:=(lr4.tl lb10).apO q12 (fun x hv=>lx4 x ((fun x hv=>(hO8 x).2 (.inr hv)) x hv))
 replace lx4:=laA lx4 hO12 q12 (fun x hv=>(hO8 x).2 (.inr hv)) (by omega)
 replace le:=(le.t lb10).ap o2 q12 (by omega)
 replace o2:=ow12
 obtain ⟨A13,n13,c13,rfl⟩:=o2.frm
 refine aB aC<|aD ?_
 refine aF (ah5 0 3 5 6 7) fun r=>?_
 refine aE (aB y_move<|aB bI<|aB aC<|aD ?_)
 replace OB0:=(OB0.leO lb10.1).app q12 hO12
 exact ⟨(k + 1,((m ++ ([x]:List Named)) ++ ([x1]:List Named)),true,O12,(.slice A13 n13 c13)),ag5,⟨le,lr4,lx4,fun x hx=>(il hO12 (il hO8 (lb4 _ hx))),OB0,B1,(il hO12 (il hO8 mB1)),o2.wk (by omega),(fun x hv=>(hO12 x).2 (.inr hv)),sp_o2_B1,by exact ⟨by omega,by rw [dK hx1,← e2]; clear e2; cases d <;> simp_all [gV],by first | omega | (simp; omega)⟩⟩,by first | omega | (dsimp only; omega)⟩
 refine aM ?_
 refine aE (aB y_move<|aB bI<|aB aC<|aD ?_)
 replace OB0:=(OB0.leO lb6.1).app q8 hO8
 exact ⟨(k + 1,(m ++ ([x]:List Named)),true,O8,(.slice A9 n9 c9)),ag5,⟨le,lr4,lx4,fun x hx=>(il hO8 (lb4 _ hx)),OB0,B1,(il hO8 mB1),o2.wk (by omega),(fun x hv=>(hO8 x).2 (.inr hv)),sp_o2_B1,by exact ⟨by omega,by rw [dK hx1,← e2]; clear e2; cases d <;> simp_all [gV],by first | omega | (simp; omega)⟩⟩,by first | omega | (dsimp only; omega)⟩
 have g26':=g26
 simp at g26'
 refine aM ?_
 refine aI ?_
 refine fR (bN y_move<|bN y_move<|?_)
 replace k0:=((k0.nb lb1 hO1 eb1).ns lb2 hO2 (fun x hv=>(ow2.vb hv).1)).lp lp4 la4
 obtain ⟨x1,hx1⟩:∃ x,l[k]? = some x:=⟨_,List.getElem?_eq_getElem (by omega)⟩
 obtain ⟨sx1_0,sx1_1,sx1_2⟩:SB x1.name∧SB x1.ask.key∧SB x1.ask.hi:=k0.2.at hx1
 refine bN (y_idxA k0.1)<|bN y_fieldAddr<|bN (y_load (RdF.cell k0.1 hx1 rfl))<|bN y_fieldAddr<|bN (y_load (Blk.at B1 rfl rfl))<|bN jO<|gO ?_
 refine aF (ah6 0 3 5 6 7 38) fun r=>?_
 refine fH (fun g38=>?_) (fun g38=>?_)
 refine aE (aB y_move<|aB y_move<|aB y_move<|aB (y_idxA k0.1)<|aB (y_loadEl k0.1 hx1)<|?_)
 replace OB0:=lo4
 refine bE (bA (l:=([x1]:List Named))) (fun v14 h14 q14=>?_)
 obtain ⟨lb14,ow14,sb14⟩:=q14
 have z14:=lb14.1
 replace k14:Rs _ OL4 _ _:=Ow.end ⟨ow14,ok1⟩ OB0
 obtain ⟨A15,n15,c15,rfl⟩:=k14.frm
 replace o2:=o2.le lb14
 refine bE (bW aP o2.1 k14.1 (by omega) (Nat.add_le_add o2.2.len k14.2.len)) (fun v16 h16 q16=>?_)
 have L1:=o2.2.len
 have L2:=k14.2.len
 obtain ⟨O16,hO16,z16,ow16⟩:=q16.ow (OkL.app o2.2 k14.2 (by first | omega | (simp only [List.length_append,List.length_take,List.length_drop,List.length_cons,List.length_nil,List.length_set]; omega) | (simp; omega))) OL4
 replace sp_o2_B1q:=fun hv=>(q16.2.2 _ hv).elim sp_o2_B1 (fun e=>by omega)
 replace B1:=(B1.le lb14).app q16 sp_o2_B1
 replace sp_o2_B1:=sp_o2_B1q
 replace lr4:=(lr4.tl lb14).apO q16 (fun x hv=>lx4 x (mo2 x hv))
 replace lx4:=laA lx4 hO16 q16 mo2 (by omega)
 replace le:=(le.t lb14).ap o2 q16 (by omega)
 replace o2:=ow16
 obtain ⟨A17,n17,c17,rfl⟩:=o2.frm
 refine aB aC<|aD ?_
 refine aF (ah5 0 3 5 6 7) fun r=>?_
 refine aE (aB y_move<|aB bI<|aB aC<|aD ?_)
 replace OB0:=(OB0.leO lb14.1).app q16 hO16
 exact ⟨(k + 1,(m ++ ([x1]:List Named)),d,O16,(.slice A17 n17 c17)),ag5,⟨le,lr4,lx4,fun x hx=>(il hO16 (lb4 _ hx)),OB0,B1,(il hO16 mB1),o2.wk (by omega),(fun x hv=>(hO16 x).2 (.inr hv)),sp_o2_B1,by exact ⟨by omega,by rw [dK hx1,← e2]; clear e2; cases d <;> simp_all [gV],by first | omega | (simp; omega)⟩⟩,by first | omega | (dsimp only; omega)⟩
 refine aM ?_
 refine aE (aB y_move<|aB bI<|aB aC<|aD ?_)
 replace OB0:=lo4
 exact ⟨(k + 1,m,d,OL4,(.slice A5 n5 c5)),ag5,⟨le,lr4,lx4,fun x hx=>(lb4 _ hx),OB0,B1,mB1,o2.wk (by omega),mo2,sp_o2_B1,by exact ⟨by omega,by rw [dK hx1,← e2]; clear e2; cases d <;> simp_all [gV],by first | omega | (simp; omega)⟩⟩,by first | omega | (dsimp only; omega)⟩
 refine eT (b:=d) (fun g17=>?_) (fun g17=>?_)
 refine dI (neF (nT g17))<|dI (neF (nT g17))<|dI (neF (nT g17))<|dI (neF (nT g17))<|dI (neF (nT g17))<|dI (neF (nT g17))<|dI (neF (nT g17))<|dI (neF (nT g17))<|bN (aR (nT g17))<|?_
 exact jn _ (aA (aA (aA (aA (aA (aA aJ (by simp only [aH,reduceIte,Nat.reduceEqDiff,reduceCtorEq,(nT g17),bb] <;> rfl)))))))
 refine dJ (nF g17) y_move<|dJ (nF g17) y_move<|?_
 replace k0:=((k0.nb lb1 hO1 eb1).ns lb2 hO2 (fun x hv=>(ow2.vb hv).1)).lp lp4 la4
 obtain ⟨x1,hx1⟩:∃ x,l[k]? = some x:=⟨_,List.getElem?_eq_getElem (by omega)⟩
 obtain ⟨sx1_0,sx1_1,sx1_2⟩:SB x1.name∧SB x1.ask.key∧SB x1.ask.hi:=k0.2.at hx1
 refine dJ (nF g17) (y_idxA k0.1)<|dJ (nF g17) y_fieldAddr<|dJ (nF g17) (y_load (RdF.cell k0.1 hx1 rfl))<|dJ (nF g17) y_fieldAddr<|dJ (nF g17) (y_load (Blk.at B1 rfl rfl))<|dJ (nF g17) rA<|bN (y_pickT (nF g17))<|?_
 exact jn _ (aA (aA (aA (aA (aA (aA aJ (by first | (simp only [aH,reduceIte,Nat.reduceEqDiff,reduceCtorEq,(nF g17),hx1,bb]; done) | (simp only [aH,reduceIte,Nat.reduceEqDiff,reduceCtorEq]; try simp only [(nF g17),bb]; try simp only [hx1,bb]; done) | (simp only [aH,reduceIte,Nat.reduceEqDiff,reduceCtorEq,(nF g17),hx1,bb]; rfl))))))))
 refine cI ?_
 replace OB0:=lo4
 exact ⟨(k,m,d,OL4,(.slice A5 n5 c5)),ag5,⟨le,lr4,lx4,fun x hx=>(lb4 _ hx),OB0,B1,mB1,o2.wk (by omega),mo2,sp_o2_B1,by rw [e2,List.take_of_length_le (by omega)]⟩⟩
 rintro ⟨k,m,d,OL4,ov⟩ r hl4 ⟨le,lp4,la4,lb4,lo4,B1,mB1,o2,mo2,sp_o2_B1,e1⟩
 obtain ⟨A18,n18,c18,rfl⟩:=o2.frm
 have zl4:=lp4.1
 have hm:m.length ≤ 2 * l.length:=by have:=sB x l ([],false); rw [← e1] at this; simpa using this
 refine aI ?_
 refine hw_sr (aB y_move<|aB dG<|aD ?_)
 refine dS (fun g47=>?_) (fun g47=>?_)
 refine aE (aB y_move<|aB (y_loadB B1 0 _)<|?_)
 replace OB0:=lo4
 refine bE (bA (l:=([x]:List Named))) (fun v19 h19 q19=>?_)
 obtain ⟨lb19,ow19,sb19⟩:=q19
 have z19:=lb19.1
 replace k19:Rs _ OL4 _ _:=Ow.end ⟨ow19,ok1⟩ OB0
 obtain ⟨A20,n20,c20,rfl⟩:=k19.frm
 replace o2:=o2.le lb19
 refine bE (bW aP o2.1 k19.1 (by omega) (Nat.add_le_add o2.2.len k19.2.len)) (fun v21 h21 q21=>?_)
 have L1:=o2.2.len
 have L2:=k19.2.len
 obtain ⟨O21,hO21,z21,ow21⟩:=q21.ow (OkL.app o2.2 k19.2 (by first | omega | (simp only [List.length_append,List.length_take,List.length_drop,List.length_cons,List.length_nil,List.length_set]; omega) | (simp; omega))) OL4
 replace sp_o2_B1q:=fun hv=>(q21.2.2 _ hv).elim sp_o2_B1 (fun e=>by omega)
 replace B1:=(B1.le lb19).app q21 sp_o2_B1
 replace sp_o2_B1:=sp_o2_B1q
 replace le:=(le.t lb19).ap o2 q21 (by omega)
 replace o2:=ow21
 obtain ⟨A22,n22,c22,rfl⟩:=o2.frm
 refine aB aC<|aD ?_
 refine aF (ah1 5) fun r=>?_
 refine hw_sr (aB y_move<|aB aC<|aD ?_)
 refine hw_rr ?_
 refine aQ rfl (.cons aU .nil) ?_
 exact ⟨le,(o2.wk (by omega)).cast (by first | rfl | (simp only [kS]; rw [← e1]; simp_all))⟩
 refine aM ?_
 refine hw_sr (aB y_move<|aB aC<|aD ?_)
 refine hw_rr ?_
 refine aQ rfl (.cons aU .nil) ?_
 exact ⟨le,(o2.wk (by omega)).cast (by first | rfl | (simp only [kS]; rw [← e1]; simp_all))⟩
set_option maxHeartbeats 1000000 in
theorem aB8 {w0:World} {h:Heap} {O:Nat → Prop}   (OB0:OB h O)  : HC (XM PP) w0 98 [].toArray h (fun rv h'=>∃ (s1 s2:Value),rv = .tuple #[.agg #[vb bX.seat.on,vb bX.seat.bad,vi bX.seat.work.at',s1,s2,vb bX.skip,vb bX.gone,vs bX.inn],.agg #[vs eL.sign,vs eL.body]]∧Le h h' ∧ Rs h' O s1 bX.seat.work.writes∧Rs h' O s2 bX.names):=by
 replace le:=Le.refl h
 have OBe:=OB0
 refine aV 4 [] Tryz.func98 (fun r=>?_)
 refine hw_sr (bE aY (fun v1 h1 q1=>?_))
 obtain ⟨b1,O1,rfl,eb1,sb1,lb1,B1,hO1⟩:=q1.ox O
 refine bE aY (fun v2 h2 q2=>?_)
 obtain ⟨b2,O2,rfl,eb2,sb2,lb2,B2,hO2⟩:=q2.ox O1
 refine aD ?_
 refine hw_sr (aB (y_build rfl rfl)<|aB (y_build rfl rfl)<|?_)
 replace B1:=B1.le lb2
 refine bO (aK aP B1) (fun v3 h3 q3=>?_)
 obtain ⟨rfl,q3⟩:=q3
 have z3:=q3.1
 replace B1:=q3.2.2
 replace B2:=B2.s q3
 refine bO (aK aP B2) (fun v4 h4 q4=>?_)
 obtain ⟨rfl,q4⟩:=q4
 have z4:=q4.1
 replace B2:=q4.2.2
 refine aD ?_
 refine hw_rr ?_
 replace B1:=B1.s q4
 refine aQ rfl (.cons (bT B1) (.cons (bT B2) .nil)) ?_
 replace le:=(((le.t lb1).t lb2).s q3).s q4
 exact ⟨_,_,by first | rfl | (simp_all [oneOf] <;> omega),le,Rs.nil.cast (by first | rfl | (simp_all [oneOf] <;> omega)),Rs.nil.cast (by first | rfl | (simp_all [oneOf] <;> omega))⟩
set_option maxHeartbeats 1000000 in
theorem zP {w0:World} {h:Heap} {O:Nat → Prop} {t:cS} {k0v:Value} {k1v:Value} {s:Str} (k0:Rs h O k0v t.seat.work.writes) (k1:Rs h O k1v t.names) (OB0:OB h O) (s0:SB t.inn:=by first | assumption | omega | (simp; done) | (simp; omega)) (s1:SB s:=by first | assumption | omega | (simp; done) | (simp; omega)) (hn:t.names.length ≤ 100000:=by first | omega | assumption) (hl:s.length ≤ 1000000:=by first | omega | assumption):HC (XM PP) w0 92 [.agg #[vb t.seat.on,vb t.seat.bad,vi t.seat.work.at',k0v,k1v,vb t.skip,vb t.gone,vs t.inn],vs s].toArray h (fun rv h'=>∃ (s1 s2 s3:Value),rv = .tuple #[.agg #[vb (((cR t s).1).seat.on),vb (((cR t s).1).seat.bad),vi (((cR t s).1).seat.work.at'),s1,s2,vb (((cR t s).1).skip),vb (((cR t s).1).gone),vs (((cR t s).1).inn)],s3]∧Le h h' ∧ Rs h' O s1 (((cR t s).1).seat.work.writes)∧Rs h' O s2 (((cR t s).1).names)∧Rs h' O s3 ((cR t s).2)):=by
 obtain ⟨Ak0,nk0,ck0,rfl⟩:=k0.frm
 obtain ⟨Ak1,nk1,ck1,rfl⟩:=k1.frm
 replace le:=Le.refl h
 have OBe:=OB0
 have ha:=uO (s.drop 2)
 have hp:=zK t.names ⟨s.take 1,(cX (s.drop 2)).1⟩
 refine aV 54 [(0,.agg #[vb t.seat.on,vb t.seat.bad,vi t.seat.work.at',(.slice Ak0 nk0 ck0),(.slice Ak1 nk1 ck1),vb t.skip,vb t.gone,vs t.inn]),(1,vs s)] Tryz.func92 (fun r=>?_)
 refine hw_sr (bE cW (fun v1 h1 q1=>?_))
 obtain ⟨b1,O1,rfl,eb1,sb1,lb1,B1,hO1⟩:=q1.ox O
 refine bE aY (fun v2 h2 q2=>?_)
 obtain ⟨b2,O2,rfl,eb2,sb2,lb2,B2,hO2⟩:=q2.ox O1
 refine aB aC<|aD ?_
 refine hw_sr (aB aC<|aD ?_)
 refine aI ?_
 refine hw_sr (aB y_move<|aB y_len_str<|aB cU<|aB y_move<|?_)
 refine bB 4 [(1,vs s),(2,.pointer (some ⟨b1,0,none⟩)),(4,.pointer (some ⟨b2,0,none⟩)),(6,vi 1),(17,vb ((decide ((2:Int) < (s.length:Int))) && tQ (s.take 1)))] (fun r=>?_) (fun jn=>?_)
 refine aB y_move<|?_
 refine bB 4 [(1,vs s),(2,.pointer (some ⟨b1,0,none⟩)),(4,.pointer (some ⟨b2,0,none⟩)),(6,vi 1),(22,vb (((decide ((2:Int) < (s.length:Int))) && tQ (s.take 1)) && ((s[1]?).any (fun y=>(decide ((y.toNat:Int) = 32))))))] (fun r=>?_) (fun jn=>?_)
 refine aD ?_
 refine bF (fun g22=>?_) (fun g22=>?_)
 have g22':=g22
 simp at g22'
 refine hw_sr (aB y_move<|aB hQ<|?_)
 replace OB0:=(OB0.newB sb1 hO1 eb1).newB sb2 hO2 eb2
 refine bL aG (xG OB0) (fun v3 h3 q3=>?_)
 obtain ⟨rfl,lc3⟩:=q3
 have z3:=lc3.1
 refine aB y_move<|aB aL<|aB aL<|bE aY (fun v4 h4 q4=>?_)
 obtain ⟨b4,O4,rfl,eb4,sb4,lb4,B4,hO4⟩:=q4.ox O2
 refine bO (aK aP B4) (fun v5 h5 q5=>?_)
 obtain ⟨rfl,q5⟩:=q5
 have z5:=q5.1
 replace B4:=q5.2.2
 refine aB aC<|aD ?_
 refine aF (ah6 1 2 4 6 7 8) fun r=>?_
 refine aI ?_
 replace k0:=((((k0.nb lb1 hO1 eb1).nb lb2 hO2 eb2).le lc3).nb lb4 hO4 eb4).st q5 (ir hO4)
 have Rk0:=k0
 replace k1:=((((k1.nb lb1 hO1 eb1).nb lb2 hO2 eb2).le lc3).nb lb4 hO4 eb4).st q5 (ir hO4)
 have Rk1:=k1
 obtain ⟨S6,hS6⟩:=mkO (fun b=>h5.size ≤ b)
 replace mR6:Mod S6 h5 h5:=Mod.refl _
 have hd6:∀ b,b < h5.size∧¬ O4 b → ¬ S6 b:=fun b hb hs=>(fun hs=>absurd hb.1 (Nat.not_lt.2 hs)) ((hS6 b).1 hs)
 replace B1:=(((B1.le lb2).le lc3).le lb4).s q5
 refine bH 8 S6 bC (ha2_p 0 rfl (fun _=>y_fieldAddr)<|ha2_y 1 rfl (fun _ mm=>(y_load (Blk.at (Blk.mod B1 mm (fun hs=>by rcases (hS6 _).1 hs with hs <;> first | omega)) rfl rfl)))<|ha2_p 2 rfl (fun _=>y_move)<|?_)
 refine ha2_y 3 rfl (fun _ _=>iY)<|ha2_y 4 rfl (fun _ mm=>(y_loadB (Blk.mod B4 mm (fun hs=>by rcases (hS6 _).1 hs with hs <;> first | omega)) 0 _))<|ha2_p 5 rfl (fun _=>(y_build rfl rfl))<|?_
 replace OB0:=((OB0.leO lc3.1).newB sb4 hO4 eb4).leO (Nat.le_of_eq q5.1.symm)
 refine aW 6 (cC rfl aG (l6Put_c (x:=(⟨(s.take 1),((cX (s.drop 2)).1)⟩:Named)) k1 OB0) (fun v7 h7 q7=>?_))
 obtain ⟨lc7,k7_1⟩:=q7
 have z7:=lc7.1
 refine ⟨Le.mod lc7,?_⟩
 replace k7_1:=k7_1.end OB0
 obtain ⟨A8,n8,c8,rfl⟩:=k7_1.frm
 refine bG 7 rfl (fun _=>aC)<|bD ?_
 refine aF (ah5 2 4 6 8 9) fun r=>?_
 refine aX ?_
 refine hw_sr (aB y_move<|aB y_move<|?_)
 refine bB 4 [(2,.pointer (some ⟨b1,0,none⟩)),(4,.pointer (some ⟨b2,0,none⟩)),(6,vi 1),(8,vb ((cX (s.drop 2)).2)),(9,(.slice A8 n8 c8)),(42,vb ((cX (s.drop 2)).2 && (decide ((3:Int) < ((kS t.names (⟨(s.take 1),((cX (s.drop 2)).1)⟩:Named)).length:Int)))))] (fun r=>?_) (fun jn=>?_)
 refine aB aC<|aD ?_
 refine bF (fun g36=>?_) (fun g36=>?_)
 have g36':=g36
 simp at g36'
 refine aE (aB aC<|aD ?_)
 refine aI ?_
 replace B1:=B1.le lc7
 refine aE (aB y_fieldAddr<|bO (aK aP B1) (fun v9 h9 q9=>?_))
 obtain ⟨rfl,q9⟩:=q9
 have z9:=q9.1
 replace B1:=q9.2.2
 refine aD ?_
 refine aI ?_
 replace k0:=(k0.le lc7).st q9 (il hO4 (il hO2 (ir hO1)))
 have Rk0:=k0
 replace k1:=(k1.le lc7).st q9 (il hO4 (il hO2 (ir hO1)))
 have Rk1:=k1
 obtain ⟨S10,hS10⟩:=mkO (fun b=>h9.size ≤ b ∨ b = b2)
 replace mR10:Mod S10 h9 h9:=Mod.refl _
 have hd10:∀ b,b < h9.size∧¬ O4 b → ¬ S10 b:=fun b hb hs=>(fun hs=>hs.elim (fun hs=>absurd hb.1 (Nat.not_lt.2 hs)) (fun hs=>hb.2 (hs ▸ (il hO4 (ir hO2))))) ((hS10 b).1 hs)
 refine bH 5 S10 bC (ha2_y 0 rfl (fun _ mm=>(y_loadB (Blk.mod B1 mm (fun hs=>by rcases (hS10 _).1 hs with hs | hs <;> first | omega)) 0 _))<|ha2_p 1 rfl (fun _=>y_move)<|?_)
 replace OB0:=OB0.leO (h':=h9) (by omega)
 refine aW 2 (cC rfl aG (mG Rs.nil OB0) (fun v11 h11 q11=>?_))
 obtain ⟨lc11,k11_1⟩:=q11
 have z11:=lc11.1
 refine ⟨Le.mod lc11,?_⟩
 replace k11_1:=k11_1.end OB0
 obtain ⟨A12,n12,c12,rfl⟩:=k11_1.frm
 replace B2:=(((((B2.le lc3).le lb4).s q5).le lc7).s q9).le lc11
 refine aW 3 (cY rfl (aK aP B2) (fun v13 h13 q13=>?_))
 obtain ⟨rfl,q13⟩:=q13
 have z13:=q13.1
 have ms:=mm hS10 q13.2.1
 refine ⟨ms,?_⟩
 replace B2:=q13.2.2
 refine bG 4 rfl (fun _=>aC)<|bD ?_
 refine aF (ah2 4 5) fun r=>?_
 refine hw_rr ?_
 refine aQ rfl (.cons (bT B2) (.cons aU .nil)) ?_
 have hr:cR t s = _:=(if_pos (show zD s = true from g22)).trans (if_pos g36)
 replace le:=((((((((le.t lb1).t lb2).t lc3).t lb4).s q5).t lc7).s q9).t lc11).s q13
 replace k0:=(k0.le lc11).st q13 (il hO4 (ir hO2))
 replace k1:=(k1.le lc11).st q13 (il hO4 (ir hO2))
 replace k11_1:=k11_1.st q13 (il hO4 (ir hO2))
 exact ⟨_,_,_,by first | rfl | (rw [hr] <;> rfl),le,(k0.wk (fun x hx=>(il hO4 (il hO2 (il hO1 hx))))).cast (by first | rfl | (rw [hr] <;> rfl)),(k1.wk (fun x hx=>(il hO4 (il hO2 (il hO1 hx))))).cast (by first | rfl | (rw [hr] <;> rfl)),(k11_1.wk (fun x hx=>(il hO4 (il hO2 (il hO1 hx))))).cast (by first | rfl | (rw [hr] <;> rfl))⟩
 have g36':=g36
 simp at g36'
 refine hw_sr (aB y_move<|aB aC<|aD ?_)
 refine bF (fun g43=>?_) (fun g43=>?_)
 refine aI ?_
 replace B1:=B1.le lc7
 refine aE (aB y_move<|aB y_fieldAddr<|bO (aK aP B1) (fun v14 h14 q14=>?_))
 obtain ⟨rfl,q14⟩:=q14
 have z14:=q14.1
 replace B1:=q14.2.2
 refine aD ?_
 refine aF (ah2 2 4) fun r=>?_
 refine hw_sr (aB (y_loadB B1 0 _)<|aB (y_build rfl rfl)<|?_)
 refine bE (bA (l:=([(⟨[49],[]⟩:Letter)]:List Letter))) (fun v15 h15 q15=>?_)
 obtain ⟨lb15,ow15,sb15⟩:=q15
 have z15:=lb15.1
 replace OB0:=OB0.leO (h':=h14) (by omega)
 replace k15:Rs _ O4 _ _:=Ow.end ⟨ow15,ok1⟩ OB0
 obtain ⟨A16,n16,c16,rfl⟩:=k15.frm
 replace B2:=(((((B2.le lc3).le lb4).s q5).le lc7).s q14).le lb15
 refine bO (aK aP B2) (fun v17 h17 q17=>?_)
 obtain ⟨rfl,q17⟩:=q17
 have z17:=q17.1
 replace B2:=q17.2.2
 refine aB aC<|aD ?_
 refine aF (ah2 4 5) fun r=>?_
 refine hw_rr ?_
 refine aQ rfl (.cons (bT B2) (.cons aU .nil)) ?_
 have hr:cR t s = _:=(if_pos (show zD s = true from g22)).trans ((if_neg (neF g36)).trans (if_pos g43))
 replace le:=((((((((le.t lb1).t lb2).t lc3).t lb4).s q5).t lc7).s q14).t lb15).s q17
 replace k0:=(((k0.le lc7).st q14 (il hO4 (il hO2 (ir hO1)))).le lb15).st q17 (il hO4 (ir hO2))
 replace k7_1:=((k7_1.st q14 (il hO4 (il hO2 (ir hO1)))).le lb15).st q17 (il hO4 (ir hO2))
 replace k15:=k15.st q17 (il hO4 (ir hO2))
 exact ⟨_,_,_,by first | rfl | (rw [hr] <;> rfl),le,(k0.wk (fun x hx=>(il hO4 (il hO2 (il hO1 hx))))).cast (by first | rfl | (rw [hr] <;> rfl)),(k7_1.wk (fun x hx=>(il hO4 (il hO2 (il hO1 hx))))).cast (by first | rfl | (rw [hr] <;> rfl)),(k15.wk (fun x hx=>(il hO4 (il hO2 (il hO1 hx))))).cast (by first | rfl | (rw [hr] <;> rfl))⟩
 refine aM ?_
 refine aI ?_
 replace B1:=B1.le lc7
 refine aE (aB y_fieldAddr<|bO (aK aP B1) (fun v18 h18 q18=>?_))
 obtain ⟨rfl,q18⟩:=q18
 have z18:=q18.1
 replace B1:=q18.2.2
 refine aD ?_
 refine aI ?_
 replace k0:=(k0.le lc7).st q18 (il hO4 (il hO2 (ir hO1)))
 have Rk0:=k0
 replace k1:=(k1.le lc7).st q18 (il hO4 (il hO2 (ir hO1)))
 have Rk1:=k1
 obtain ⟨S19,hS19⟩:=mkO (fun b=>h18.size ≤ b ∨ b = b2)
 replace mR19:Mod S19 h18 h18:=Mod.refl _
 have hd19:∀ b,b < h18.size∧¬ O4 b → ¬ S19 b:=fun b hb hs=>(fun hs=>hs.elim (fun hs=>absurd hb.1 (Nat.not_lt.2 hs)) (fun hs=>hb.2 (hs ▸ (il hO4 (ir hO2))))) ((hS19 b).1 hs)
 refine bH 5 S19 bC (ha2_y 0 rfl (fun _ mm=>(y_loadB (Blk.mod B1 mm (fun hs=>by rcases (hS19 _).1 hs with hs | hs <;> first | omega)) 0 _))<|ha2_p 1 rfl (fun _=>y_move)<|?_)
 replace OB0:=OB0.leO (h':=h18) (by omega)
 refine aW 2 (cC rfl aG (mG Rs.nil OB0) (fun v20 h20 q20=>?_))
 obtain ⟨lc20,k20_1⟩:=q20
 have z20:=lc20.1
 refine ⟨Le.mod lc20,?_⟩
 replace k20_1:=k20_1.end OB0
 obtain ⟨A21,n21,c21,rfl⟩:=k20_1.frm
 replace B2:=(((((B2.le lc3).le lb4).s q5).le lc7).s q18).le lc20
 refine aW 3 (cY rfl (aK aP B2) (fun v22 h22 q22=>?_))
 obtain ⟨rfl,q22⟩:=q22
 have z22:=q22.1
 have ms:=mm hS19 q22.2.1
 refine ⟨ms,?_⟩
 replace B2:=q22.2.2
 refine bG 4 rfl (fun _=>aC)<|bD ?_
 refine aF (ah2 4 5) fun r=>?_
 refine hw_rr ?_
 refine aQ rfl (.cons (bT B2) (.cons aU .nil)) ?_
 have hr:cR t s = _:=(if_pos (show zD s = true from g22)).trans ((if_neg (neF g36)).trans (if_neg (neF g43)))
 replace le:=((((((((le.t lb1).t lb2).t lc3).t lb4).s q5).t lc7).s q18).t lc20).s q22
 replace k0:=(k0.le lc20).st q22 (il hO4 (ir hO2))
 replace k1:=(k1.le lc20).st q22 (il hO4 (ir hO2))
 replace k20_1:=k20_1.st q22 (il hO4 (ir hO2))
 exact ⟨_,_,_,by first | rfl | (rw [hr] <;> rfl),le,(k0.wk (fun x hx=>(il hO4 (il hO2 (il hO1 hx))))).cast (by first | rfl | (rw [hr] <;> rfl)),(k1.wk (fun x hx=>(il hO4 (il hO2 (il hO1 hx))))).cast (by first | rfl | (rw [hr] <;> rfl)),(k20_1.wk (fun x hx=>(il hO4 (il hO2 (il hO1 hx))))).cast (by first | rfl | (rw [hr] <;> rfl))⟩
 refine eT (b:=(cX (s.drop 2)).2) (fun g38=>?_) (fun g38=>?_)
 refine aO g38 y_move<|aO g38 (y_lenA k7_1.1)<|aO g38 cU<|aB (y_pickT g38)<|?_
 exact jn _ (aA (aA (aA (aA (aA (aA aJ (by simp only [aH,reduceIte,Nat.reduceEqDiff,reduceCtorEq,g38,bb] <;> rfl)))))))
 refine aN (neF g38)<|aN (neF g38)<|aN (neF g38)<|aB (aR g38)<|?_
 exact jn _ (aA (aA (aA (aA (aA (aA aJ (by simp only [aH,reduceIte,Nat.reduceEqDiff,reduceCtorEq,g38,bb] <;> rfl)))))))
 have g22':=g22
 simp at g22'
 refine aM ?_
 refine aI ?_
 replace B1:=B1.le lb2
 refine aE (aB y_fieldAddr<|bO (aK aP B1) (fun v23 h23 q23=>?_))
 obtain ⟨rfl,q23⟩:=q23
 have z23:=q23.1
 replace B1:=q23.2.2
 refine aD ?_
 refine aI ?_
 replace k0:=((k0.nb lb1 hO1 eb1).nb lb2 hO2 eb2).st q23 (il hO2 (ir hO1))
 have Rk0:=k0
 replace k1:=((k1.nb lb1 hO1 eb1).nb lb2 hO2 eb2).st q23 (il hO2 (ir hO1))
 have Rk1:=k1
 obtain ⟨S24,hS24⟩:=mkO (fun b=>h23.size ≤ b ∨ b = b2)
 replace mR24:Mod S24 h23 h23:=Mod.refl _
 have hd24:∀ b,b < h23.size∧¬ O2 b → ¬ S24 b:=fun b hb hs=>(fun hs=>hs.elim (fun hs=>absurd hb.1 (Nat.not_lt.2 hs)) (fun hs=>hb.2 (hs ▸ (ir hO2)))) ((hS24 b).1 hs)
 refine bH 5 S24 bC (ha2_y 0 rfl (fun _ mm=>(y_loadB (Blk.mod B1 mm (fun hs=>by rcases (hS24 _).1 hs with hs | hs <;> first | omega)) 0 _))<|ha2_p 1 rfl (fun _=>y_move)<|?_)
 replace OB0:=((OB0.newB sb1 hO1 eb1).newB sb2 hO2 eb2).leO (Nat.le_of_eq q23.1.symm)
 refine aW 2 (cC rfl aG (mG Rs.nil OB0) (fun v25 h25 q25=>?_))
 obtain ⟨lc25,k25_1⟩:=q25
 have z25:=lc25.1
 refine ⟨Le.mod lc25,?_⟩
 replace k25_1:=k25_1.end OB0
 obtain ⟨A26,n26,c26,rfl⟩:=k25_1.frm
 replace B2:=(B2.s q23).le lc25
 refine aW 3 (cY rfl (aK aP B2) (fun v27 h27 q27=>?_))
 obtain ⟨rfl,q27⟩:=q27
 have z27:=q27.1
 have ms:=mm hS24 q27.2.1
 refine ⟨ms,?_⟩
 replace B2:=q27.2.2
 refine bG 4 rfl (fun _=>aC)<|bD ?_
 refine aF (ah2 4 5) fun r=>?_
 refine hw_rr ?_
 refine aQ rfl (.cons (bT B2) (.cons aU .nil)) ?_
 have hr:cR t s = _:=if_neg (neF (show zD s = false from g22))
 replace le:=((((le.t lb1).t lb2).s q23).t lc25).s q27
 replace k0:=(k0.le lc25).st q27 (ir hO2)
 replace k1:=(k1.le lc25).st q27 (ir hO2)
 replace k25_1:=k25_1.st q27 (ir hO2)
 exact ⟨_,_,_,by first | rfl | (rw [hr] <;> rfl),le,(k0.wk (fun x hx=>(il hO2 (il hO1 hx)))).cast (by first | rfl | (rw [hr] <;> rfl)),(k1.wk (fun x hx=>(il hO2 (il hO1 hx)))).cast (by first | rfl | (rw [hr] <;> rfl)),(k25_1.wk (fun x hx=>(il hO2 (il hO1 hx)))).cast (by first | rfl | (rw [hr] <;> rfl))⟩
 refine eT (b:=((decide ((2:Int) < (s.length:Int))) && tQ (s.take 1))) (fun g18=>?_) (fun g18=>?_)
 have g18':=g18
 simp at g18'
 refine aO g18 y_move<|?_
 obtain ⟨x1,hx1⟩:∃ c,s[1]? = some c:=⟨_,List.getElem?_eq_getElem (by omega)⟩
 refine aO g18 (bV hx1)<|aO g18 bM<|aB (y_pickT g18)<|?_
 exact jn _ (aA (aA (aA (aA (aA aJ (by first | (simp only [aH,reduceIte,Nat.reduceEqDiff,reduceCtorEq,g18,hx1,bb]; done) | (simp only [aH,reduceIte,Nat.reduceEqDiff,reduceCtorEq]; try simp only [g18,bb]; try simp only [hx1,bb]; done) | (simp only [aH,reduceIte,Nat.reduceEqDiff,reduceCtorEq,g18,hx1,bb]; rfl)))))))
 have g18':=g18
 simp at g18'
 refine aN (neF g18)<|aN (neF g18)<|aN (neF g18)<|aB (aR g18)<|?_
 exact jn _ (aA (aA (aA (aA (aA aJ (by simp only [aH,reduceIte,Nat.reduceEqDiff,reduceCtorEq,g18,bb] <;> rfl))))))
 refine dA ((2:Int) < (s.length:Int)) (fun g13=>?_) (fun g13=>?_)
 refine aO (dT g13) y_move<|aO (dT g13) iY<|gH (dT g13) aG aCX<|aB (y_pickT (dT g13))<|?_
 exact jn _ (aA (aA (aA (aA (aA aJ (by simp only [aH,reduceIte,Nat.reduceEqDiff,reduceCtorEq,(dT g13),bb] <;> rfl))))))
 refine aN (neF (dF g13))<|aN (neF (dF g13))<|aN (neF (dF g13))<|aB (aR (dF g13))<|?_
 exact jn _ (aA (aA (aA (aA (aA aJ (by simp only [aH,reduceIte,Nat.reduceEqDiff,reduceCtorEq,(dF g13),bb] <;> rfl))))))
end
end Go.Proofs.YtlpdccnjhpclbaaGreatDoor
