/-
  Part 4 of the walks: the judgement, its rules, the functions one by one.
-/
import Derived.Test.YtlpdccnjhpclbaaGreatDoorZC
namespace Go.Proofs.YtlpdccnjhpclbaaGreatDoor
section
open Go.Conc
theorem aDu:OkL ([⟨[69],eE 1⟩,eL]:List Letter):=by
  refine ⟨by simp,fun x hx=>?_⟩
  have h1:=qS 1
  rcases List.mem_cons.1 hx with rfl | hx
  · exact ⟨by show ([69]:Str).length ≤ 4294967296; decide,by show (eE 1).length ≤ 4294967296; omega⟩
  · obtain rfl:=List.mem_singleton.1 hx
    exact ⟨by show ([66]:Str).length ≤ 4294967296; decide,by show ([]:Str).length ≤ 4294967296; decide⟩
theorem qC (v:cD) (w:kU):0 ≤ (workEnd v w).2∧(workEnd v w).2 ≤ 3:=by
  unfold workEnd
  repeat' split
  all_goals (dsimp only; omega)
theorem xJ (v:cD) (w:kU) (x:Write):0 ≤ (workPut v w x).2∧(workPut v w x).2 ≤ 3:=by
  unfold workPut
  repeat' split
  all_goals (dsimp only; omega)
theorem vP (rows:List Row) (a:Ask):0 ≤ (bQ rows a).2∧(bQ rows a).2 ≤ 6:=by
  unfold bQ
  repeat' split
  all_goals (dsimp only; omega)
theorem yD (rows:List Row) (a:Ask):0 ≤ (askTold rows a).2∧(askTold rows a).2 ≤ 4:=by
  unfold askTold
  repeat' split
  all_goals (dsimp only; omega)
theorem vB (v:cD) (s:iX) (a:Ask):0 ≤ (dR v s a).2.2∧(dR v s a).2.2 ≤ 6:=by
  have h1:=vP (cE v (dL v s)) a
  have h2:=xJ v (dL v s) (bQ (cE v (dL v s)) a).1
  have h3:=qC v (workPut v (dL v s) (bQ (cE v (dL v s)) a).1).1
  unfold dR
  repeat' split
  all_goals (dsimp only; omega)
theorem vC (v:cD) (s:iX) (k:Int):0 ≤ (seatEnds v s k).2.2∧(seatEnds v s k).2.2 ≤ 6:=by
  have h3:=qC v s.work
  unfold seatEnds
  repeat' split
  all_goals (dsimp only; omega)
theorem uP (v:cD) (s:iX) (a:Ask):0 ≤ (eF v s a).2.2.2∧(eF v s a).2.2.2 ≤ 6:=by
  have h1:=vC v s a.kind
  have h2:=vB v s a
  have h3:=yD (oZ v s) a
  unfold eF oJ
  repeat' split
  all_goals (dsimp only; omega)
theorem sum_bd (l:List Row) (h:∀ x ∈ l,-999 ≤ x.num∧x.num ≤ 999):∀ n:Int,n - 999 * (l.length:Int) ≤ l.foldl (fun n x=>n + x.num) n∧l.foldl (fun n x=>n + x.num) n ≤ n + 999 * (l.length:Int):=by
  induction l with
  | nil=>intro n; simp
  | cons x l ih =>
    intro n
    have h1:=h x List.mem_cons_self
    have h2:=ih (fun y hy=>h y (List.mem_cons_of_mem _ hy)) (n + x.num)
    rw [List.foldl_cons,List.length_cons]
    omega
theorem tK {l:List Row} (h:fE l = true) {x:Row} (hx:x ∈ l):RowB x∧-999 ≤ x.num∧x.num ≤ 999:=by
  simp only [fE,Bool.and_eq_true] at h
  have h1:=tM h.1 x hx
  have h2:=zI h1.1
  have h3:=rF h1.2
  exact ⟨⟨h3.2,by omega,by omega⟩,h2⟩
theorem aAR (l:List Row) : -9990 ≤ kR l∧kR l ≤ 9990:=by
  unfold kR
  split
  · rename_i h
    have h1:=sum_bd l (fun x hx=>(tK h hx).2) 0
    have h2:=pP h
    omega
  · omega
theorem aB1 (l:List Row) (a b:Str):mO (mT l a b)∧(mT l a b).length ≤ 10:=by
  unfold mT
  split
  · rename_i h
    exact ⟨fun x hx=>(tK h (List.mem_filter.1 hx).1).1,Nat.le_trans (List.length_filter_le _ _) (pP h)⟩
  · exact ⟨mO.nil,by simp⟩
theorem yC {rows:List Row} {a:Ask} (h:pL a = true):mO (askTold rows a).1∧(askTold rows a).1.length ≤ 10:=by
  have hb:=oI h
  have one:∀ n:Int,-9990 ≤ n∧n ≤ 9990 → mO [⟨a.key,n⟩]:=fun n hn x hx=>by
    obtain rfl:=List.mem_singleton.1 hx
    exact ⟨hb.2.1,hn.1,hn.2⟩
  unfold askTold
  repeat' split
  · exact aB1 _ _ _
  · exact ⟨one _ (aAR _),by simp⟩
  · exact ⟨one _ (by have:=tL (l:=rows) (key:=a.key); omega),by simp⟩
  · exact ⟨mO.nil,by simp⟩
theorem nD (v:cD) (s:iX) (a:Ask):mO (eF v s a).2.2.1∧(eF v s a).2.2.1.length ≤ 10:=by
  unfold eF oJ
  repeat' split
  all_goals first | exact ⟨mO.nil,by simp⟩ | exact yC (by assumption)
def eO (v:cD) (t:cS) (l:Letter):cD × cS × List Letter :=
  if l.sign = [83] then (v,t,[dN t])
  else if l.sign = [80] then (v,(cR t l.body).1,(cR t l.body).2)
  else if l.sign = [81] then ((eF v t.seat (cX l.body).1).1,⟨(eF v t.seat (cX l.body).1).2.1,t.names,t.skip,t.gone,t.inn⟩,
    gM (eF v t.seat (cX l.body).1).2.2.1 (eF v t.seat (cX l.body).1).2.2.2 ++ [dN ⟨(eF v t.seat (cX l.body).1).2.1,t.names,t.skip,t.gone,t.inn⟩])
  else if l.sign = [69] then
    if (cH t.names l.body).2 then ((eF v t.seat (cH t.names l.body).1).1,⟨(eF v t.seat (cH t.names l.body).1).2.1,t.names,!decide ((eF v t.seat (cH t.names l.body).1).2.2.2 = 0),t.gone,t.inn⟩,
      gM (eF v t.seat (cH t.names l.body).1).2.2.1 (eF v t.seat (cH t.names l.body).1).2.2.2)
    else (v,⟨fL t.seat,t.names,!decide ((4:Int) = 0),t.gone,t.inn⟩,gM [] 4)
  else if l.sign = [88] then (v,bX,[eL]) else (v,bX,[⟨[69],eE 1⟩,eL])
def aCH (t:cS) (l:Letter):Bool:=t.gone || ((t.skip && !decide (l.sign = [83])) && !decide (l.sign = [88]))
def bJ (v:cD) (t:cS) (l:Letter):cD × cS × List Letter :=
  if aCH t l then (v,t,[]) else if l.sign = [83] then eO v ⟨t.seat,t.names,false,t.gone,t.inn⟩ l else eO v t l
theorem gU (rows:List Row) (c:Int):(gM rows c).length ≤ rows.length + 1:=by
  unfold gM; split <;> simp
theorem tD (t:cS) (s:Str):(cR t s).2.length ≤ 1∧(cR t s).1.inn = t.inn∧((cR t s).1.names.length ≤ t.names.length ∨ (cR t s).1.names.length ≤ 3):=by
  have h1:=gU [] 1
  have h3:=gU [] 3
  simp only [List.length_nil] at h1 h3
  unfold cR
  split
  · split
    · exact ⟨h3,rfl,.inl (Nat.le_refl _)⟩
    · split
      · rename_i g1 g2
        simp only [g2,Bool.true_and,decide_eq_true_eq] at g1
        exact ⟨by simp,rfl,.inr (by dsimp only; omega)⟩
      · exact ⟨h1,rfl,.inl (Nat.le_refl _)⟩
  · exact ⟨h1,rfl,.inl (Nat.le_refl _)⟩
theorem vY (v:cD) (t:cS) (l:Letter):(eO v t l).2.2.length ≤ 12∧(eO v t l).2.1.inn.length ≤ t.inn.length∧((eO v t l).2.1.names.length ≤ t.names.length ∨ (eO v t l).2.1.names.length ≤ 3):=by
  have hp:=tD t l.body
  have r1:=(nD v t.seat (cX l.body).1).2
  have r2:=(nD v t.seat (cH t.names l.body).1).2
  have d1:=gU (eF v t.seat (cX l.body).1).2.2.1 (eF v t.seat (cX l.body).1).2.2.2
  have d2:=gU (eF v t.seat (cH t.names l.body).1).2.2.1 (eF v t.seat (cH t.names l.body).1).2.2.2
  have d3:=gU [] 4
  simp only [List.length_nil] at d3
  unfold eO
  split
  · exact ⟨by simp,Nat.le_refl _,.inl (Nat.le_refl _)⟩
  split
  · exact ⟨by dsimp only; omega,by dsimp only; rw [hp.2.1]; exact Nat.le_refl _,hp.2.2⟩
  split
  · exact ⟨by dsimp only; rw [List.length_append,List.length_singleton]; omega,Nat.le_refl _,.inl (Nat.le_refl _)⟩
  split
  · split
    · exact ⟨by dsimp only; omega,Nat.le_refl _,.inl (Nat.le_refl _)⟩
    · exact ⟨by dsimp only; omega,Nat.le_refl _,.inl (Nat.le_refl _)⟩
  split
  · exact ⟨by simp,by simp [bX],.inr (by simp [bX])⟩
  · exact ⟨by simp,by simp [bX],.inr (by simp [bX])⟩
theorem jX (v:cD) (t:cS) (l:Letter):(bJ v t l).2.2.length ≤ 12∧(bJ v t l).2.1.inn.length ≤ t.inn.length∧((bJ v t l).2.1.names.length ≤ t.names.length ∨ (bJ v t l).2.1.names.length ≤ 3):=by
  unfold bJ
  split
  · exact ⟨by simp,Nat.le_refl _,.inl (Nat.le_refl _)⟩
  split
  · exact vY _ _ _
  · exact vY _ _ _
def iB (p:cD × cS × List Letter) (l:Letter):cD × cS × List Letter:=((bJ p.1 p.2.1 l).1,(bJ p.1 p.2.1 l).2.1,p.2.2 ++ (bJ p.1 p.2.1 l).2.2)
def cJ (v:cD) (t:cS) (list:List Letter):cD × cS × List Letter:=list.foldl iB (v,t,[])
set_option maxHeartbeats 20000000 in
theorem aCZ {w0:World} {h:Heap} {O:Nat → Prop} {v:cD} {k0v:Value} {t:cS} {k1v:Value} {k2v:Value} {l:Letter} (k0:Rs h O k0v v.list) (k1:Rs h O k1v t.seat.work.writes) (k2:Rs h O k2v t.names) (OB0:OB h O) (s0:SB t.inn:=by first | assumption | omega | (simp; done) | (simp; omega)) (s1:SB l.sign:=by first | assumption | omega | (simp; done) | (simp; omega)) (s2:SB l.body:=by first | assumption | omega | (simp; done) | (simp; omega)) (hn:t.names.length ≤ 100000:=by first | assumption | omega | (dsimp only; omega)) (hl:l.body.length ≤ 1000000:=by first | assumption | omega | (dsimp only; omega)):HC (XM PP) w0 75 [.agg #[vi v.now,k0v],.agg #[vb t.seat.on,vb t.seat.bad,vi t.seat.work.at',k1v,k2v,vb t.skip,vb t.gone,vs t.inn],.agg #[vs l.sign,vs l.body]].toArray h (fun rv h'=>∃ (s1 s2 s3 s4:Value),rv = .tuple #[.agg #[vi (((eO v t l).1).now),s1],.agg #[vb (((eO v t l).2.1).seat.on),vb (((eO v t l).2.1).seat.bad),vi (((eO v t l).2.1).seat.work.at'),s2,s3,vb (((eO v t l).2.1).skip),vb (((eO v t l).2.1).gone),vs (((eO v t l).2.1).inn)],s4]∧Le h h' ∧ Rs h' O s1 (((eO v t l).1).list)∧Rs h' O s2 (((eO v t l).2.1).seat.work.writes)∧Rs h' O s3 (((eO v t l).2.1).names)∧Rs h' O s4 ((eO v t l).2.2)):=by
 obtain ⟨Ak0,nk0,ck0,rfl⟩:=k0.frm
 obtain ⟨Ak1,nk1,ck1,rfl⟩:=k1.frm
 obtain ⟨Ak2,nk2,ck2,rfl⟩:=k2.frm
 replace le:=Le.refl h
 have OBe:=OB0
 refine aV 129 [(0,.agg #[vi v.now,(.slice Ak0 nk0 ck0)]),(1,.agg #[vb t.seat.on,vb t.seat.bad,vi t.seat.work.at',(.slice Ak1 nk1 ck1),(.slice Ak2 nk2 ck2),vb t.skip,vb t.gone,vs t.inn]),(2,.agg #[vs l.sign,vs l.body])] Tryz.func75 (fun r=>?_)
 refine hw_sr (bE cW (fun v1 h1 q1=>?_))
 obtain ⟨b1,O1,rfl,eb1,sb1,lb1,B1,hO1⟩:=q1.ox O
 refine bE cW (fun v2 h2 q2=>?_)
 obtain ⟨b2,O2,rfl,eb2,sb2,lb2,B2,hO2⟩:=q2.ox O1
 refine bE cW (fun v3 h3 q3=>?_)
 obtain ⟨b3,O3,rfl,eb3,sb3,lb3,B3,hO3⟩:=q3.ox O2
 refine bE aY (fun v4 h4 q4=>?_)
 obtain ⟨b4,O4,rfl,eb4,sb4,lb4,B4,hO4⟩:=q4.ox O3
 refine bE aY (fun v5 h5 q5=>?_)
 obtain ⟨b5,O5,rfl,eb5,sb5,lb5,B5,hO5⟩:=q5.ox O4
 refine aB aC<|aD ?_
 refine aF (ah5 3 4 5 6 7) fun r=>?_
 refine aI ?_
 refine aI ?_
 replace B3:=(B3.le lb4).le lb5
 refine aE (aB y_fieldAddr<|aB (y_load (Blk.at B3 rfl rfl))<|aD ?_)
 refine aX ?_
 refine hw_sr (aB y_seql<|aB aC<|aD ?_)
 refine aZ (fun g27=>?_) (fun g27=>?_)
 refine dH (fun (gx:(Nat → Prop) × Value)=>match gx with | (OL7,js6)=>[(6,.pointer (some ⟨b4,0,none⟩)),(7,.pointer (some ⟨b5,0,none⟩)),(8,js6)]) (fun (gx:(Nat → Prop) × Value) (h' : Heap)=>match gx with | (OL7,js6)=>Le h h' ∧ Mod O5 h5 h' ∧ (∀ x,OL7 x → O5 x ∨ h5.size ≤ x)∧(∀ x,O5 x → OL7 x)∧OB h' OL7∧Blk h' b1 [vi v.now,(.slice Ak0 nk0 ck0)] 52∧OL7 b1∧Blk h' b2 [vb t.seat.on,vb t.seat.bad,vi t.seat.work.at',(.slice Ak1 nk1 ck1),(.slice Ak2 nk2 ck2),vb t.skip,vb t.gone,vs t.inn] 60∧OL7 b2∧Blk h' b4 [vi v.now,(.slice Ak0 nk0 ck0)] 52∧OL7 b4∧Blk h' b5 [vb t.seat.on,vb t.seat.bad,vi t.seat.work.at',(.slice Ak1 nk1 ck1),(.slice Ak2 nk2 ck2),vb t.skip,vb t.gone,vs t.inn] 60∧OL7 b5∧Rs h' OL7 js6 ([(dN t)]:List Letter)) ?_ ?_
 replace lr7:=Mod.refl (S:=O5) h5
 replace lx7:∀ x,O5 x → O5 x ∨ h5.size ≤ x:=fun x hx=>.inl hx
 replace k0:=((((k0.nb lb1 hO1 eb1).nb lb2 hO2 eb2).nb lb3 hO3 eb3).nb lb4 hO4 eb4).nb lb5 hO5 eb5
 have Rk0:=k0
 replace k1:=((((k1.nb lb1 hO1 eb1).nb lb2 hO2 eb2).nb lb3 hO3 eb3).nb lb4 hO4 eb4).nb lb5 hO5 eb5
 have Rk1:=k1
 replace k2:=((((k2.nb lb1 hO1 eb1).nb lb2 hO2 eb2).nb lb3 hO3 eb3).nb lb4 hO4 eb4).nb lb5 hO5 eb5
 have Rk2:=k2
 obtain ⟨S8,hS8⟩:=mkO (fun b=>h5.size ≤ b ∨ b = b4 ∨ b = b5)
 replace mR8:Mod S8 h5 h5:=Mod.refl _
 have hd8:∀ b,b < h5.size∧¬ O5 b → ¬ S8 b:=fun b hb hs=>(fun hs=>hs.elim (fun hs=>absurd hb.1 (Nat.not_lt.2 hs)) (fun hs=>hs.elim (fun hs=>hb.2 (hs ▸ (il hO5 (ir hO4)))) (fun hs=>hb.2 (hs ▸ (ir hO5))))) ((hS8 b).1 hs)
 replace B1:=(((B1.le lb2).le lb3).le lb4).le lb5
 replace B2:=((B2.le lb3).le lb4).le lb5
 refine bH 8 S8 bC (ha2_y 0 rfl (fun _ mm=>(y_loadB (Blk.mod B1 mm (fun hs=>by rcases (hS8 _).1 hs with hs | hs | hs <;> first | omega)) 0 _))<|ha2_y 1 rfl (fun _ mm=>(y_loadB (Blk.mod B2 mm (fun hs=>by rcases (hS8 _).1 hs with hs | hs | hs <;> first | omega)) 0 _))<|ha2_y 2 rfl (fun _ mm=>(y_loadB (Blk.mod B2 mm (fun hs=>by rcases (hS8 _).1 hs with hs | hs | hs <;> first | omega)) 0 _))<|?_)
 replace OB0:=((((OB0.newB sb1 hO1 eb1).newB sb2 hO2 eb2).newB sb3 hO3 eb3).newB sb4 hO4 eb4).newB sb5 hO5 eb5
 refine aW 3 (cC rfl aG (wL (t:=t) k1 k2 OB0) (fun v9 h9 q9=>?_))
 obtain ⟨rfl,lc9,pr9⟩:=q9
 have z9:=lc9.1
 refine ⟨Le.mod lc9,?_⟩
 obtain ⟨_,_⟩:=pr9
 refine dU 4 5 ?_ ?_
 refine cB rfl (bA (l:=([(dN t)]:List Letter))) (fun v10 h10 q10=>?_)
 obtain ⟨lb10,ow10,sb10⟩:=q10
 have z10:=lb10.1
 refine ⟨Le.mod lb10,?_⟩
 replace OB0:=OB0.leO lc9.1
 replace k10:Rs _ O5 _ _:=Ow.end ⟨ow10,ok1⟩ OB0
 obtain ⟨A11,n11,c11,rfl⟩:=k10.frm
 replace B4:=((B4.le lb5).le lc9).le lb10
 refine aW 5 (cY rfl (aK aP B4) (fun v12 h12 q12=>?_))
 obtain ⟨rfl,q12⟩:=q12
 have z12:=q12.1
 have ms:=mm hS8 q12.2.1
 refine ⟨ms,?_⟩
 replace B4:=q12.2.2
 replace B5:=((B5.le lc9).le lb10).s q12
 refine aW 6 (cY rfl (aK aP B5) (fun v13 h13 q13=>?_))
 replace lr7:=((lr7.tl lc9).tl lb10).stO q12 (il hO5 (ir hO4))
 obtain ⟨rfl,q13⟩:=q13
 have z13:=q13.1
 replace mR8:=((mR8.tl lc9).tl lb10).t ms
 have ms:=mm hS8 q13.2.1
 refine ⟨ms,?_⟩
 replace B5:=q13.2.2
 replace lr7:=lr7.stO q13 (ir hO5)
 refine bG 7 rfl (fun _=>aC)<|bD ?_
 replace le:=((((((((le.t lb1).t lb2).t lb3).t lb4).t lb5).t lc9).t lb10).s q12).s q13
 replace B1:=(((B1.le lc9).le lb10).s q12).s q13
 replace B2:=(((B2.le lc9).le lb10).s q12).s q13
 replace B4:=B4.s q13
 replace k10:=(k10.st q12 (il hO5 (ir hO4))).st q13 (ir hO5)
 replace OB0:=OB0.leO (h':=h13) (by omega)
 exact ⟨(O5,(.slice A11 n11 c11)),ag3,⟨le,lr7,lx7,fun x hx=>hx,OB0,B1,(il hO5 (il hO4 (il hO3 (il hO2 (ir hO1))))),B2,(il hO5 (il hO4 (il hO3 (ir hO2)))),B4,(il hO5 (ir hO4)),B5,(ir hO5),k10.cast (by first | rfl | simp_all)⟩⟩
 replace B4:=(B4.le lb5).le lc9
 refine cY rfl (aK aP B4) (fun v14 h14 q14=>?_)
 obtain ⟨rfl,q14⟩:=q14
 have z14:=q14.1
 have ms:=mm hS8 q14.2.1
 refine ⟨ms,?_⟩
 replace B4:=q14.2.2
 refine dU 4 6 ?_ ?_
 refine cB rfl (bA (l:=([(dN t)]:List Letter))) (fun v15 h15 q15=>?_)
 obtain ⟨lb15,ow15,sb15⟩:=q15
 have z15:=lb15.1
 refine ⟨Le.mod lb15,?_⟩
 replace OB0:=OB0.leO (h':=h14) (by omega)
 replace k15:Rs _ O5 _ _:=Ow.end ⟨ow15,ok1⟩ OB0
 replace lr7:=((lr7.tl lc9).stO q14 (il hO5 (ir hO4))).tl lb15
 obtain ⟨A16,n16,c16,rfl⟩:=k15.frm
 replace B5:=((B5.le lc9).s q14).le lb15
 refine aW 6 (cY rfl (aK aP B5) (fun v17 h17 q17=>?_))
 obtain ⟨rfl,q17⟩:=q17
 have z17:=q17.1
 replace mR8:=((mR8.tl lc9).t ms).tl lb15
 have ms:=mm hS8 q17.2.1
 refine ⟨ms,?_⟩
 replace B5:=q17.2.2
 replace lr7:=lr7.stO q17 (ir hO5)
 refine bG 7 rfl (fun _=>aC)<|bD ?_
 replace le:=((((((((le.t lb1).t lb2).t lb3).t lb4).t lb5).t lc9).s q14).t lb15).s q17
 replace B1:=(((B1.le lc9).s q14).le lb15).s q17
 replace B2:=(((B2.le lc9).s q14).le lb15).s q17
 replace B4:=(B4.le lb15).s q17
 replace k15:=k15.st q17 (ir hO5)
 replace OB0:=OB0.leO (h':=h17) (by omega)
 exact ⟨(O5,(.slice A16 n16 c16)),ag3,⟨le,lr7,lx7,fun x hx=>hx,OB0,B1,(il hO5 (il hO4 (il hO3 (il hO2 (ir hO1))))),B2,(il hO5 (il hO4 (il hO3 (ir hO2)))),B4,(il hO5 (ir hO4)),B5,(ir hO5),k15.cast (by first | rfl | simp_all)⟩⟩
 replace B5:=(B5.le lc9).s q14
 refine cY rfl (aK aP B5) (fun v18 h18 q18=>?_)
 replace lr7:=(lr7.tl lc9).stO q14 (il hO5 (ir hO4))
 obtain ⟨rfl,q18⟩:=q18
 have z18:=q18.1
 replace mR8:=(mR8.tl lc9).t ms
 have ms:=mm hS8 q18.2.1
 refine ⟨ms,?_⟩
 replace B5:=q18.2.2
 refine aW 4 (?_)
 refine cB rfl (bA (l:=([(dN t)]:List Letter))) (fun v19 h19 q19=>?_)
 obtain ⟨lb19,ow19,sb19⟩:=q19
 have z19:=lb19.1
 refine ⟨Le.mod lb19,?_⟩
 replace OB0:=OB0.leO (h':=h18) (by omega)
 replace k19:Rs _ O5 _ _:=Ow.end ⟨ow19,ok1⟩ OB0
 replace lr7:=(lr7.stO q18 (ir hO5)).tl lb19
 obtain ⟨A20,n20,c20,rfl⟩:=k19.frm
 refine bG 7 rfl (fun _=>aC)<|bD ?_
 replace le:=((((((((le.t lb1).t lb2).t lb3).t lb4).t lb5).t lc9).s q14).s q18).t lb19
 replace B1:=(((B1.le lc9).s q14).s q18).le lb19
 replace B2:=(((B2.le lc9).s q14).s q18).le lb19
 replace B4:=(B4.s q18).le lb19
 replace B5:=B5.le lb19
 replace OB0:=OB0.leO lb19.1
 exact ⟨(O5,(.slice A20 n20 c20)),ag3,⟨le,lr7,lx7,fun x hx=>hx,OB0,B1,(il hO5 (il hO4 (il hO3 (il hO2 (ir hO1))))),B2,(il hO5 (il hO4 (il hO3 (ir hO2)))),B4,(il hO5 (ir hO4)),B5,(ir hO5),k19.cast (by first | rfl | simp_all)⟩⟩
 replace le:=((((le.t lb1).t lb2).t lb3).t lb4).t lb5
 replace B1:=(((B1.le lb2).le lb3).le lb4).le lb5
 replace B2:=((B2.le lb3).le lb4).le lb5
 replace B4:=B4.le lb5
 rintro ⟨OL7,js6⟩ r hl7 ⟨le,lp7,la7,lb7,lo7,B1,mB1,B2,mB2,B4,mB4,B5,mB5,kjs6⟩
 obtain ⟨A21,n21,c21,rfl⟩:=kjs6.frm
 have zl7:=lp7.1
 refine hw_rr ?_
 refine aQ rfl (.cons (bT B4) (.cons (bT B5) (.cons aU .nil))) ?_
 have hr:eO v t l = _:=((if_pos g27))
 replace k0:=(((((k0.nb lb1 hO1 eb1).nb lb2 hO2 eb2).nb lb3 hO3 eb3).nb lb4 hO4 eb4).nb lb5 hO5 eb5).lp lp7 la7
 replace k1:=(((((k1.nb lb1 hO1 eb1).nb lb2 hO2 eb2).nb lb3 hO3 eb3).nb lb4 hO4 eb4).nb lb5 hO5 eb5).lp lp7 la7
 replace k2:=(((((k2.nb lb1 hO1 eb1).nb lb2 hO2 eb2).nb lb3 hO3 eb3).nb lb4 hO4 eb4).nb lb5 hO5 eb5).lp lp7 la7
 exact ⟨_,_,_,_,by first | rfl | (rw [hr] <;> rfl),le,(k0.wk (fun x hx=>(lb7 _ (il hO5 (il hO4 (il hO3 (il hO2 (il hO1 hx)))))))).cast (by first | rfl | (rw [hr] <;> rfl)),(k1.wk (fun x hx=>(lb7 _ (il hO5 (il hO4 (il hO3 (il hO2 (il hO1 hx)))))))).cast (by first | rfl | (rw [hr] <;> rfl)),(k2.wk (fun x hx=>(lb7 _ (il hO5 (il hO4 (il hO3 (il hO2 (il hO1 hx)))))))).cast (by first | rfl | (rw [hr] <;> rfl)),(kjs6.wk (fun x hx=>(lb7 _ (il hO5 (il hO4 (il hO3 (il hO2 (il hO1 hx)))))))).cast (by first | rfl | (rw [hr] <;> rfl))⟩
 refine hw_sr (aB y_seql<|aB aC<|aD ?_)
 refine aZ (fun g34=>?_) (fun g34=>?_)
 refine aI ?_
 replace B2:=((B2.le lb3).le lb4).le lb5
 refine aE (aB (y_loadB B2 0 _)<|aB y_fieldAddr<|aB (y_load (Blk.at B3 rfl rfl))<|?_)
 replace k1:=((((k1.nb lb1 hO1 eb1).nb lb2 hO2 eb2).nb lb3 hO3 eb3).nb lb4 hO4 eb4).nb lb5 hO5 eb5
 replace k2:=((((k2.nb lb1 hO1 eb1).nb lb2 hO2 eb2).nb lb3 hO3 eb3).nb lb4 hO4 eb4).nb lb5 hO5 eb5
 replace OB0:=((((OB0.newB sb1 hO1 eb1).newB sb2 hO2 eb2).newB sb3 hO3 eb3).newB sb4 hO4 eb4).newB sb5 hO5 eb5
 refine bL aG (zP (t:=t) k1 k2 OB0) (fun v22 h22 q22=>?_)
 obtain ⟨s22_1,s22_2,s22_3,rfl,lc22,k22_1,k22_2,k22_3⟩:=q22
 have z22:=lc22.1
 obtain ⟨A23,n23,c23,rfl⟩:=k22_1.frm
 obtain ⟨A24,n24,c24,rfl⟩:=k22_2.frm
 obtain ⟨A25,n25,c25,rfl⟩:=k22_3.frm
 refine aB y_move<|aB aL<|aB aL<|bE aY (fun v26 h26 q26=>?_)
 obtain ⟨b26,O26,rfl,eb26,sb26,lb26,B26,hO26⟩:=q26.ox O5
 refine bO (aK aP B26) (fun v27 h27 q27=>?_)
 obtain ⟨rfl,q27⟩:=q27
 have z27:=q27.1
 replace B26:=q27.2.2
 refine aB aC<|aD ?_
 refine aF (ah5 3 6 7 9 10) fun r=>?_
 refine aI ?_
 replace k0:=(((((((k0.nb lb1 hO1 eb1).nb lb2 hO2 eb2).nb lb3 hO3 eb3).nb lb4 hO4 eb4).nb lb5 hO5 eb5).le lc22).nb lb26 hO26 eb26).st q27 (ir hO26)
 have Rk0:=k0
 replace k22_1:=(k22_1.nb lb26 hO26 eb26).st q27 (ir hO26)
 have Rk22_1:=k22_1
 replace k22_2:=(k22_2.nb lb26 hO26 eb26).st q27 (ir hO26)
 have Rk22_2:=k22_2
 replace k22_3:=(k22_3.nb lb26 hO26 eb26).st q27 (ir hO26)
 have Rk22_3:=k22_3
 obtain ⟨S28,hS28⟩:=mkO (fun b=>h27.size ≤ b ∨ b = b4)
 replace mR28:Mod S28 h27 h27:=Mod.refl _
 have hd28:∀ b,b < h27.size∧¬ O26 b → ¬ S28 b:=fun b hb hs=>(fun hs=>hs.elim (fun hs=>absurd hb.1 (Nat.not_lt.2 hs)) (fun hs=>hb.2 (hs ▸ (il hO26 (il hO5 (ir hO4)))))) ((hS28 b).1 hs)
 replace B1:=((((((B1.le lb2).le lb3).le lb4).le lb5).le lc22).le lb26).s q27
 refine bH 6 S28 bC (ha2_y 0 rfl (fun _ mm=>(y_loadB (Blk.mod B1 mm (fun hs=>by rcases (hS28 _).1 hs with hs | hs <;> first | omega)) 0 _))<|ha2_y 1 rfl (fun _ mm=>(y_loadB (Blk.mod B26 mm (fun hs=>by rcases (hS28 _).1 hs with hs | hs <;> first | omega)) 0 _))<|ha2_p 2 rfl (fun _=>y_move)<|?_)
 replace B4:=(((B4.le lb5).le lc22).le lb26).s q27
 refine aW 3 (cY rfl (aK aP B4) (fun v29 h29 q29=>?_))
 obtain ⟨rfl,q29⟩:=q29
 have z29:=q29.1
 have ms:=mm hS28 q29.2.1
 refine ⟨ms,?_⟩
 replace B4:=q29.2.2
 replace B5:=(((B5.le lc22).le lb26).s q27).s q29
 refine cV 4 rfl (aK aP B5) (fun v30 h30 q30=>?_)
 obtain ⟨rfl,q30⟩:=q30
 have z30:=q30.1
 replace B5:=q30.2.2
 refine bG 5 rfl (fun _=>aC)<|bD ?_
 refine aF (ah3 6 7 8) fun r=>?_
 refine hw_rr ?_
 replace B4:=B4.s q30
 refine aQ rfl (.cons (bT B4) (.cons (bT B5) (.cons aU .nil))) ?_
 have hr:eO v t l = _:=((if_neg g27).trans ((if_pos g34)))
 replace le:=(((((((((le.t lb1).t lb2).t lb3).t lb4).t lb5).t lc22).t lb26).s q27).s q29).s q30
 replace k0:=(k0.st q29 (il hO26 (il hO5 (ir hO4)))).st q30 (il hO26 (ir hO5))
 replace k22_1:=(k22_1.st q29 (il hO26 (il hO5 (ir hO4)))).st q30 (il hO26 (ir hO5))
 replace k22_2:=(k22_2.st q29 (il hO26 (il hO5 (ir hO4)))).st q30 (il hO26 (ir hO5))
 replace k22_3:=(k22_3.st q29 (il hO26 (il hO5 (ir hO4)))).st q30 (il hO26 (ir hO5))
 exact ⟨_,_,_,_,by first | rfl | (rw [hr] <;> rfl),le,(k0.wk (fun x hx=>(il hO26 (il hO5 (il hO4 (il hO3 (il hO2 (il hO1 hx)))))))).cast (by first | rfl | (rw [hr] <;> rfl)),(k22_1.wk (fun x hx=>(il hO26 (il hO5 (il hO4 (il hO3 (il hO2 (il hO1 hx)))))))).cast (by first | rfl | (rw [hr] <;> rfl)),(k22_2.wk (fun x hx=>(il hO26 (il hO5 (il hO4 (il hO3 (il hO2 (il hO1 hx)))))))).cast (by first | rfl | (rw [hr] <;> rfl)),(k22_3.wk (fun x hx=>(il hO26 (il hO5 (il hO4 (il hO3 (il hO2 (il hO1 hx)))))))).cast (by first | rfl | (rw [hr] <;> rfl))⟩
 refine hw_sr (aB y_seql<|aB aC<|aD ?_)
 refine aZ (fun g46=>?_) (fun g46=>?_)
 have ha:=uO l.body
 have hc:=uP v t.seat (cX l.body).1
 obtain ⟨hR,hrl⟩:=nD v t.seat (cX l.body).1
 have hd:=gU (eF v t.seat (cX l.body).1).2.2.1 (eF v t.seat (cX l.body).1).2.2.2
 obtain ⟨_,_⟩:=jD ⟨(eF v t.seat (cX l.body).1).2.1,t.names,t.skip,t.gone,t.inn⟩
 refine hw_sr (aB y_fieldAddr<|aB (y_load (Blk.at B3 rfl rfl))<|?_)
 replace OB0:=((((OB0.newB sb1 hO1 eb1).newB sb2 hO2 eb2).newB sb3 hO3 eb3).newB sb4 hO4 eb4).newB sb5 hO5 eb5
 refine bL aG (xG OB0) (fun v31 h31 q31=>?_)
 obtain ⟨rfl,lc31⟩:=q31
 have z31:=lc31.1
 refine aB y_move<|aB aL<|aB aL<|bE aY (fun v32 h32 q32=>?_)
 obtain ⟨b32,O32,rfl,eb32,sb32,lb32,B32,hO32⟩:=q32.ox O5
 refine bO (aK aP B32) (fun v33 h33 q33=>?_)
 obtain ⟨rfl,q33⟩:=q33
 have z33:=q33.1
 replace B32:=q33.2.2
 refine aB aC<|aD ?_
 refine aF (ah5 3 4 6 7 11) fun r=>?_
 refine aI ?_
 replace B1:=((((((B1.le lb2).le lb3).le lb4).le lb5).le lc31).le lb32).s q33
 replace B2:=(((((B2.le lb3).le lb4).le lb5).le lc31).le lb32).s q33
 refine aE (aB (y_loadB B1 0 _)<|aB y_fieldAddr<|aB (y_loadB B2 0 _)<|aB (y_loadB B32 0 _)<|?_)
 replace k0:=(((((((k0.nb lb1 hO1 eb1).nb lb2 hO2 eb2).nb lb3 hO3 eb3).nb lb4 hO4 eb4).nb lb5 hO5 eb5).le lc31).nb lb32 hO32 eb32).st q33 (ir hO32)
 replace k1:=(((((((k1.nb lb1 hO1 eb1).nb lb2 hO2 eb2).nb lb3 hO3 eb3).nb lb4 hO4 eb4).nb lb5 hO5 eb5).le lc31).nb lb32 hO32 eb32).st q33 (ir hO32)
 replace OB0:=((OB0.leO lc31.1).newB sb32 hO32 eb32).leO (Nat.le_of_eq q33.1.symm)
 refine bL aG (aC4 (v:=v) (s:=t.seat) (a:=((cX l.body).1)) k0 k1 OB0) (fun v34 h34 q34=>?_)
 obtain ⟨s34_1,s34_2,s34_3,rfl,lc34,k34_1,k34_2,k34_3⟩:=q34
 have z34:=lc34.1
 obtain ⟨A35,n35,c35,rfl⟩:=k34_1.frm
 obtain ⟨A36,n36,c36,rfl⟩:=k34_2.frm
 obtain ⟨A37,n37,c37,rfl⟩:=k34_3.frm
 refine aB y_move<|aB aL<|aB aL<|aB aL<|aB aL<|bE aY (fun v38 h38 q38=>?_)
 obtain ⟨b38,O38,rfl,eb38,sb38,lb38,B38,hO38⟩:=q38.ox O32
 refine bE aY (fun v39 h39 q39=>?_)
 obtain ⟨b39,O39,rfl,eb39,sb39,lb39,B39,hO39⟩:=q39.ox O38
 replace B38:=B38.le lb39
 refine bO (aK aP B38) (fun v40 h40 q40=>?_)
 obtain ⟨rfl,q40⟩:=q40
 have z40:=q40.1
 replace B38:=q40.2.2
 replace B39:=B39.s q40
 refine bO (aK aP B39) (fun v41 h41 q41=>?_)
 obtain ⟨rfl,q41⟩:=q41
 have z41:=q41.1
 replace B39:=q41.2.2
 refine aB aC<|aB aC<|aD ?_
 refine aF (ah7 4 6 7 13 14 15 16) fun r=>?_
 refine hw_sr (aB (y_loadB B39 0 _)<|aB y_fieldAddr<|?_)
 replace B2:=((((B2.le lc34).le lb38).le lb39).s q40).s q41
 refine bO (aK aP B2) (fun v42 h42 q42=>?_)
 obtain ⟨rfl,q42⟩:=q42
 have z42:=q42.1
 replace B2:=q42.2.2
 refine aD ?_
 refine aF (ah6 4 6 7 13 15 16) fun r=>?_
 refine aI ?_
 replace k2:=(((((((((((((k2.nb lb1 hO1 eb1).nb lb2 hO2 eb2).nb lb3 hO3 eb3).nb lb4 hO4 eb4).nb lb5 hO5 eb5).le lc31).nb lb32 hO32 eb32).st q33 (ir hO32)).le lc34).nb lb38 hO38 eb38).nb lb39 hO39 eb39).st q40 (il hO39 (ir hO38))).st q41 (ir hO39)).st q42 (il hO39 (il hO38 (il hO32 (il hO5 (il hO4 (il hO3 (ir hO2)))))))
 have Rk2:=k2
 replace k34_1:=((((k34_1.nb lb38 hO38 eb38).nb lb39 hO39 eb39).st q40 (il hO39 (ir hO38))).st q41 (ir hO39)).st q42 (il hO39 (il hO38 (il hO32 (il hO5 (il hO4 (il hO3 (ir hO2)))))))
 have Rk34_1:=k34_1
 replace k34_2:=((((k34_2.nb lb38 hO38 eb38).nb lb39 hO39 eb39).st q40 (il hO39 (ir hO38))).st q41 (ir hO39)).st q42 (il hO39 (il hO38 (il hO32 (il hO5 (il hO4 (il hO3 (ir hO2)))))))
 have Rk34_2:=k34_2
 replace k34_3:=((((k34_3.nb lb38 hO38 eb38).nb lb39 hO39 eb39).st q40 (il hO39 (ir hO38))).st q41 (ir hO39)).st q42 (il hO39 (il hO38 (il hO32 (il hO5 (il hO4 (il hO3 (ir hO2)))))))
 have Rk34_3:=k34_3
 obtain ⟨S43,hS43⟩:=mkO (fun b=>h42.size ≤ b ∨ b = b4 ∨ b = b5)
 replace mR43:Mod S43 h42 h42:=Mod.refl _
 have hd43:∀ b,b < h42.size∧¬ O39 b → ¬ S43 b:=fun b hb hs=>(fun hs=>hs.elim (fun hs=>absurd hb.1 (Nat.not_lt.2 hs)) (fun hs=>hs.elim (fun hs=>hb.2 (hs ▸ (il hO39 (il hO38 (il hO32 (il hO5 (ir hO4))))))) (fun hs=>hb.2 (hs ▸ (il hO39 (il hO38 (il hO32 (ir hO5)))))))) ((hS43 b).1 hs)
 replace B38:=(B38.s q41).s q42
 refine bH 12 S43 bC (ha2_y 0 rfl (fun _ mm=>(y_loadB (Blk.mod B38 mm (fun hs=>by rcases (hS43 _).1 hs with hs | hs | hs <;> first | omega)) 0 _))<|ha2_y 1 rfl (fun _ mm=>(y_loadB (Blk.mod B2 mm (fun hs=>by rcases (hS43 _).1 hs with hs | hs | hs <;> first | omega)) 0 _))<|ha2_p 2 rfl (fun _=>y_move)<|ha2_p 3 rfl (fun _=>y_move)<|ha2_y 5 rfl (fun _ mm=>(y_loadB (Blk.mod B2 mm (fun hs=>by rcases (hS43 _).1 hs with hs | hs | hs <;> first | omega)) 0 _))<|?_)
 replace OB0:=(((((OB0.leO lc34.1).newB sb38 hO38 eb38).newB sb39 hO39 eb39).leO (Nat.le_of_eq q40.1.symm)).leO (Nat.le_of_eq q41.1.symm)).leO (Nat.le_of_eq q42.1.symm)
 refine aW 4 (cC rfl aG (mG k34_3 OB0) (fun v44 h44 q44=>?_))
 obtain ⟨lc44,k44_1⟩:=q44
 have z44:=lc44.1
 replace k44_1w:=k44_1
 obtain ⟨O44,hO44⟩:=mkO (fun x=>O39 x ∨ vblk v44 x)
 refine ⟨Le.mod lc44,?_⟩
 obtain ⟨A45,n45,c45,rfl⟩:=k44_1.frm
 refine aW 6 (?_)
 replace k34_2:=k34_2.ns lc44 hO44 (fun x hv=>(k44_1w.vb hv).1)
 replace k2:=k2.ns lc44 hO44 (fun x hv=>(k44_1w.vb hv).1)
 replace OB0:=OB0.newS lc44.1 hO44 (fun x hv=>(k44_1w.vb hv).2)
 refine cC rfl aG (wL (t:=(⟨((eF v t.seat ((cX l.body).1)).2.1),t.names,t.skip,t.gone,t.inn⟩:cS)) k34_2 k2 OB0) (fun v46 h46 q46=>?_)
 obtain ⟨rfl,lc46,pr46⟩:=q46
 have z46:=lc46.1
 refine ⟨Le.mod lc46,?_⟩
 obtain ⟨_,_⟩:=pr46
 refine aW 7 (?_)
 refine cB rfl (bA (l:=([(dN (⟨((eF v t.seat ((cX l.body).1)).2.1),t.names,t.skip,t.gone,t.inn⟩:cS))]:List Letter))) (fun v47 h47 q47=>?_)
 obtain ⟨lb47,ow47,sb47⟩:=q47
 have z47:=lb47.1
 refine ⟨Le.mod lb47,?_⟩
 replace OB0:=OB0.leO lc46.1
 replace k47:Rs _ O44 _ _:=Ow.end ⟨ow47,ok1⟩ OB0
 obtain ⟨A48,n48,c48,rfl⟩:=k47.frm
 replace k44_1:=(k44_1.le lc46).le lb47
 refine aW 8 (cB rfl (bW aP k44_1.1 k47.1 (by omega) (Nat.add_le_add k44_1.2.len k47.2.len)) (fun v49 h49 q49=>?_))
 have L1:=k44_1.2.len
 have L2:=k47.2.len
 obtain ⟨O49,hO49,z49,ow49⟩:=q49.ow (OkL.app k44_1.2 k47.2 (by first | omega | (simp only [List.length_append,List.length_take,List.length_drop,List.length_cons,List.length_nil,List.length_set]; omega) | (simp; omega))) O44
 have ms:=Mod.mono (S':=S43) q49.2.1 (fun x _ e=>(hS43 x).2 (by have:=k44_1.vb e; first | omega | exact .inl (by omega) | simp [e] | simp [dC e]))
 refine ⟨ms,?_⟩
 replace B2:=((B2.le lc44).le lc46).le lb47
 replace B4:=((((((((((((B4.le lb5).le lc31).le lb32).s q33).le lc34).le lb38).le lb39).s q40).s q41).s q42).le lc44).le lc46).le lb47
 replace B5:=(((((((((((B5.le lc31).le lb32).s q33).le lc34).le lb38).le lb39).s q40).s q41).s q42).le lc44).le lc46).le lb47
 replace B38:=((B38.le lc44).le lc46).le lb47
 replace le:=(((((((((((((((((le.t lb1).t lb2).t lb3).t lb4).t lb5).t lc31).t lb32).s q33).t lc34).t lb38).t lb39).s q40).s q41).s q42).t lc44).t lc46).t lb47).ap k44_1 q49 (by omega)
 replace B2:=B2.app q49 (k44_1.1.ne B2 (by decide))
 replace B4:=B4.app q49 (k44_1.1.ne B4 (by decide))
 replace B5:=B5.app q49 (k44_1.1.ne B5 (by decide))
 replace B38:=B38.app q49 (k44_1.1.ne B38 (by decide))
 replace k44_1:=ow49
 obtain ⟨A50,n50,c50,rfl⟩:=k44_1.frm
 refine aW 9 (cY rfl (aK aP B4) (fun v51 h51 q51=>?_))
 obtain ⟨rfl,q51⟩:=q51
 have z51:=q51.1
 replace mR43:=(((mR43.tl lc44).tl lc46).tl lb47).t ms
 have ms:=mm hS43 q51.2.1
 refine ⟨ms,?_⟩
 replace k44_1:=k44_1.st q51 (k44_1.1.ne B4 (by decide))
 replace B4:=q51.2.2
 replace B5:=B5.s q51
 refine aW 10 (cY rfl (aK aP B5) (fun v52 h52 q52=>?_))
 obtain ⟨rfl,q52⟩:=q52
 have z52:=q52.1
 replace mR43:=mR43.t ms
 have ms:=mm hS43 q52.2.1
 refine ⟨ms,?_⟩
 replace k44_1:=k44_1.st q52 (k44_1.1.ne B5 (by decide))
 replace B5:=q52.2.2
 refine bG 11 rfl (fun _=>aC)<|bD ?_
 refine aF (ah3 6 7 8) fun r=>?_
 refine hw_rr ?_
 replace B4:=B4.s q52
 refine aQ rfl (.cons (bT B4) (.cons (bT B5) (.cons aU .nil))) ?_
 have hr:eO v t l = _:=((if_neg g27).trans ((if_neg g34).trans ((if_pos g46))))
 replace le:=(le.s q51).s q52
 replace k34_1:=(((((k34_1.ns lc44 hO44 (fun x hv=>(k44_1w.vb hv).1)).le lc46).le lb47).ap q49 (fun x hv=>(hO44 x).2 (.inr hv)) hO49).st q51 (il hO49 (il hO44 (il hO39 (il hO38 (il hO32 (il hO5 (ir hO4)))))))).st q52 (il hO49 (il hO44 (il hO39 (il hO38 (il hO32 (ir hO5))))))
 replace k34_2:=((((k34_2.le lc46).le lb47).ap q49 (fun x hv=>(hO44 x).2 (.inr hv)) hO49).st q51 (il hO49 (il hO44 (il hO39 (il hO38 (il hO32 (il hO5 (ir hO4)))))))).st q52 (il hO49 (il hO44 (il hO39 (il hO38 (il hO32 (ir hO5))))))
 replace k2:=((((k2.le lc46).le lb47).ap q49 (fun x hv=>(hO44 x).2 (.inr hv)) hO49).st q51 (il hO49 (il hO44 (il hO39 (il hO38 (il hO32 (il hO5 (ir hO4)))))))).st q52 (il hO49 (il hO44 (il hO39 (il hO38 (il hO32 (ir hO5))))))
 exact ⟨_,_,_,_,by first | rfl | (rw [hr] <;> rfl),le,(k34_1.wk (fun x hx=>(il hO49 (il hO44 (il hO39 (il hO38 (il hO32 (il hO5 (il hO4 (il hO3 (il hO2 (il hO1 hx)))))))))))).cast (by first | rfl | (rw [hr] <;> rfl)),(k34_2.wk (fun x hx=>(il hO49 (il hO44 (il hO39 (il hO38 (il hO32 (il hO5 (il hO4 (il hO3 (il hO2 (il hO1 hx)))))))))))).cast (by first | rfl | (rw [hr] <;> rfl)),(k2.wk (fun x hx=>(il hO49 (il hO44 (il hO39 (il hO38 (il hO32 (il hO5 (il hO4 (il hO3 (il hO2 (il hO1 hx)))))))))))).cast (by first | rfl | (rw [hr] <;> rfl)),(k44_1.fin OBe (by omega)).cast (by first | rfl | (rw [hr] <;> rfl))⟩
 refine hw_sr (aB y_seql<|aB aC<|aD ?_)
 refine aZ (fun g75=>?_) (fun g75=>?_)
 refine aI ?_
 replace B2:=((B2.le lb3).le lb4).le lb5
 refine aE (aB y_fieldAddr<|aB (y_load (Blk.at B2 rfl rfl))<|aB y_fieldAddr<|aB (y_load (Blk.at B3 rfl rfl))<|?_)
 replace k2:=((((k2.nb lb1 hO1 eb1).nb lb2 hO2 eb2).nb lb3 hO3 eb3).nb lb4 hO4 eb4).nb lb5 hO5 eb5
 replace OB0:=((((OB0.newB sb1 hO1 eb1).newB sb2 hO2 eb2).newB sb3 hO3 eb3).newB sb4 hO4 eb4).newB sb5 hO5 eb5
 refine bL aG (aCY k2 OB0) (fun v53 h53 q53=>?_)
 obtain ⟨rfl,lc53,pr53⟩:=q53
 have z53:=lc53.1
 obtain ⟨_,_⟩:=pr53
 refine aB y_move<|aB aL<|aB aL<|bE aY (fun v54 h54 q54=>?_)
 obtain ⟨b54,O54,rfl,eb54,sb54,lb54,B54,hO54⟩:=q54.ox O5
 refine bO (aK aP B54) (fun v55 h55 q55=>?_)
 obtain ⟨rfl,q55⟩:=q55
 have z55:=q55.1
 replace B54:=q55.2.2
 refine aB aC<|aD ?_
 refine aF (ah6 3 4 6 7 17 18) fun r=>?_
 replace OB0:=((OB0.leO lc53.1).newB sb54 hO54 eb54).leO (Nat.le_of_eq q55.1.symm)
 refine dH (fun (gx:(Nat → Prop) × Nat × Nat × Value)=>match gx with | (OL59,b56,b57,js58)=>[(3,.pointer (some ⟨b1,0,none⟩)),(4,.pointer (some ⟨b2,0,none⟩)),(6,.pointer (some ⟨b4,0,none⟩)),(7,.pointer (some ⟨b5,0,none⟩)),(17,.pointer (some ⟨b54,0,none⟩)),(18,vb ((cH t.names l.body).2)),(19,.pointer (some ⟨b56,0,none⟩)),(20,.pointer (some ⟨b57,0,none⟩)),(21,js58),(22,vi 4)]) (fun (gx:(Nat → Prop) × Nat × Nat × Value) (h' : Heap)=>match gx with | (OL59,b56,b57,js58)=>Le h h' ∧ Mod O54 h55 h' ∧ (∀ x,OL59 x → O54 x ∨ h55.size ≤ x)∧(∀ x,O54 x → OL59 x)∧OB h' OL59∧Blk h' b1 [vi v.now,(.slice Ak0 nk0 ck0)] 52∧OL59 b1∧Blk h' b2 [vb t.seat.on,vb t.seat.bad,vi t.seat.work.at',(.slice Ak1 nk1 ck1),(.slice Ak2 nk2 ck2),vb t.skip,vb t.gone,vs t.inn] 60∧OL59 b2∧Blk h' b4 [vi 0,.slice none 0 0] 52∧OL59 b4∧Blk h' b5 [vb false,vb false,vi 0,.slice none 0 0,.slice none 0 0,vb false,vb false,vs []] 60∧OL59 b5∧Blk h' b54 [vi (((cH t.names l.body).1).kind),vs (((cH t.names l.body).1).key),vs (((cH t.names l.body).1).hi),vi (((cH t.names l.body).1).num)] 118∧OL59 b54∧Blk h' b56 [vi v.now,(.slice Ak0 nk0 ck0)] 52∧OL59 b56∧h55.size ≤ b56∧Blk h' b57 [vb t.seat.on,vb t.seat.bad,vi t.seat.work.at',(.slice Ak1 nk1 ck1)] 57∧OL59 b57∧h55.size ≤ b57∧¬ b57 = b56∧Rs h' OL59 js58 ([]:List Row)) ?_ ?_
 replace lr59:=Mod.refl (S:=O54) h55
 replace lx59:∀ x,O54 x → O54 x ∨ h55.size ≤ x:=fun x hx=>.inl hx
 replace k0:=(((((((k0.nb lb1 hO1 eb1).nb lb2 hO2 eb2).nb lb3 hO3 eb3).nb lb4 hO4 eb4).nb lb5 hO5 eb5).le lc53).nb lb54 hO54 eb54).st q55 (ir hO54)
 have Rk0:=k0
 replace k1:=(((((((k1.nb lb1 hO1 eb1).nb lb2 hO2 eb2).nb lb3 hO3 eb3).nb lb4 hO4 eb4).nb lb5 hO5 eb5).le lc53).nb lb54 hO54 eb54).st q55 (ir hO54)
 have Rk1:=k1
 replace k2:=((k2.le lc53).nb lb54 hO54 eb54).st q55 (ir hO54)
 have Rk2:=k2
 obtain ⟨S60,hS60⟩:=mkO (fun b=>h55.size ≤ b)
 replace mR60:Mod S60 h55 h55:=Mod.refl _
 have hd60:∀ b,b < h55.size∧¬ O54 b → ¬ S60 b:=fun b hb hs=>(fun hs=>absurd hb.1 (Nat.not_lt.2 hs)) ((hS60 b).1 hs)
 replace B1:=((((((B1.le lb2).le lb3).le lb4).le lb5).le lc53).le lb54).s q55
 replace B2:=((B2.le lc53).le lb54).s q55
 refine bH 10 S60 bC (ha2_y 0 rfl (fun _ mm=>(y_loadB (Blk.mod B1 mm (fun hs=>by rcases (hS60 _).1 hs with hs <;> first | omega)) 0 _))<|ha2_p 1 rfl (fun _=>y_fieldAddr)<|ha2_y 2 rfl (fun _ mm=>(y_loadB (Blk.mod B2 mm (fun hs=>by rcases (hS60 _).1 hs with hs <;> first | omega)) 0 _))<|?_)
 refine aAi 3 4 5 ?_ ?_ ?_
 refine cB rfl (bA (l:=([]:List Row))) (fun v61 h61 q61=>?_)
 obtain ⟨lb61,ow61,sb61⟩:=q61
 have z61:=lb61.1
 refine ⟨Le.mod lb61,?_⟩
 replace k61:Rs _ O54 _ _:=Ow.end ⟨ow61,OkL.nil⟩ OB0
 obtain ⟨A62,n62,c62,rfl⟩:=k61.frm
 refine dU 4 5 ?_ ?_
 refine cB rfl aY (fun v63 h63 q63=>?_)
 obtain ⟨b63,O63,rfl,eb63,sb63,lb63,B63,hO63⟩:=q63.ox O54
 refine ⟨Le.mod lb63,?_⟩
 replace lx59:=laB lx59 hO63 (by omega)
 refine aW 5 (cB rfl aY (fun v64 h64 q64=>?_))
 obtain ⟨b64,O64,rfl,eb64,sb64,lb64,B64,hO64⟩:=q64.ox O63
 refine ⟨Le.mod lb64,?_⟩
 replace lx59:=laB lx59 hO64 (by omega)
 replace B63:=B63.le lb64
 refine aW 6 (cY rfl (aK aP B63) (fun v65 h65 q65=>?_))
 obtain ⟨rfl,q65⟩:=q65
 have z65:=q65.1
 have ms:=mm hS60 q65.2.1
 refine ⟨ms,?_⟩
 replace B63:=q65.2.2
 replace B64:=B64.s q65
 refine aW 7 (cY rfl (aK aP B64) (fun v66 h66 q66=>?_))
 obtain ⟨rfl,q66⟩:=q66
 have z66:=q66.1
 replace mR60:=(((mR60.tl lb61).tl lb63).tl lb64).t ms
 have ms:=mm hS60 q66.2.1
 refine ⟨ms,?_⟩
 replace B64:=q66.2.2
 refine bG 8 rfl (fun _=>aC)<|bG 9 rfl (fun _=>aC)<|bD ?_
 replace le:=((((((((((((le.t lb1).t lb2).t lb3).t lb4).t lb5).t lc53).t lb54).s q55).t lb61).t lb63).t lb64).s q65).s q66
 replace B4:=((((((((B4.le lb5).le lc53).le lb54).s q55).le lb61).le lb63).le lb64).s q65).s q66
 replace B5:=(((((((B5.le lc53).le lb54).s q55).le lb61).le lb63).le lb64).s q65).s q66
 replace B1:=((((B1.le lb61).le lb63).le lb64).s q65).s q66
 replace B2:=((((B2.le lb61).le lb63).le lb64).s q65).s q66
 replace B54:=((((B54.le lb61).le lb63).le lb64).s q65).s q66
 replace lr59:=((((lr59.tl lb61).tl lb63).tl lb64).s q65).s q66
 replace B63:=B63.s q66
 replace k61:=(((k61.nb lb63 hO63 eb63).nb lb64 hO64 eb64).st q65 (il hO64 (ir hO63))).st q66 (ir hO64)
 replace OB0:=((((OB0.leO lb61.1).newB sb63 hO63 eb63).newB sb64 hO64 eb64).leO (Nat.le_of_eq q65.1.symm)).leO (Nat.le_of_eq q66.1.symm)
 exact ⟨(O64,b63,b64,(.slice A62 n62 c62)),pY,⟨le,lr59,lx59,fun x hx=>(il hO64 (il hO63 hx)),OB0,B1,(il hO64 (il hO63 (il hO54 (il hO5 (il hO4 (il hO3 (il hO2 (ir hO1)))))))),B2,(il hO64 (il hO63 (il hO54 (il hO5 (il hO4 (il hO3 (ir hO2))))))),B4,(il hO64 (il hO63 (il hO54 (il hO5 (ir hO4))))),B5,(il hO64 (il hO63 (il hO54 (ir hO5)))),B54,(il hO64 (il hO63 (ir hO54))),B63,(il hO64 (ir hO63)),by omega,B64,(ir hO64),by omega,by omega,k61.cast (by first | rfl | simp_all)⟩⟩
 refine cB rfl aY (fun v67 h67 q67=>?_)
 obtain ⟨b67,O67,rfl,eb67,sb67,lb67,B67,hO67⟩:=q67.ox O54
 refine ⟨Le.mod lb67,?_⟩
 replace lx59:=laB lx59 hO67 (by omega)
 refine aW 4 (cB rfl aY (fun v68 h68 q68=>?_))
 obtain ⟨b68,O68,rfl,eb68,sb68,lb68,B68,hO68⟩:=q68.ox O67
 refine ⟨Le.mod lb68,?_⟩
 replace lx59:=laB lx59 hO68 (by omega)
 refine aW 6 (cY rfl (aK aP B68) (fun v69 h69 q69=>?_))
 obtain ⟨rfl,q69⟩:=q69
 have z69:=q69.1
 have ms:=mm hS60 q69.2.1
 refine ⟨ms,?_⟩
 replace B68:=q69.2.2
 replace B67:=(B67.le lb68).s q69
 refine aW 7 (cY rfl (aK aP B67) (fun v70 h70 q70=>?_))
 obtain ⟨rfl,q70⟩:=q70
 have z70:=q70.1
 replace mR60:=(((mR60.tl lb61).tl lb67).tl lb68).t ms
 have ms:=mm hS60 q70.2.1
 refine ⟨ms,?_⟩
 replace B67:=q70.2.2
 refine bG 8 rfl (fun _=>aC)<|bG 9 rfl (fun _=>aC)<|bD ?_
 replace le:=((((((((((((le.t lb1).t lb2).t lb3).t lb4).t lb5).t lc53).t lb54).s q55).t lb61).t lb67).t lb68).s q69).s q70
 replace B4:=((((((((B4.le lb5).le lc53).le lb54).s q55).le lb61).le lb67).le lb68).s q69).s q70
 replace B5:=(((((((B5.le lc53).le lb54).s q55).le lb61).le lb67).le lb68).s q69).s q70
 replace B1:=((((B1.le lb61).le lb67).le lb68).s q69).s q70
 replace B2:=((((B2.le lb61).le lb67).le lb68).s q69).s q70
 replace B54:=((((B54.le lb61).le lb67).le lb68).s q69).s q70
 replace lr59:=((((lr59.tl lb61).tl lb67).tl lb68).s q69).s q70
 replace B68:=B68.s q70
 replace k61:=(((k61.nb lb67 hO67 eb67).nb lb68 hO68 eb68).st q69 (ir hO68)).st q70 (il hO68 (ir hO67))
 replace OB0:=((((OB0.leO lb61.1).newB sb67 hO67 eb67).newB sb68 hO68 eb68).leO (Nat.le_of_eq q69.1.symm)).leO (Nat.le_of_eq q70.1.symm)
 exact ⟨(O68,b68,b67,(.slice A62 n62 c62)),pY,⟨le,lr59,lx59,fun x hx=>(il hO68 (il hO67 hx)),OB0,B1,(il hO68 (il hO67 (il hO54 (il hO5 (il hO4 (il hO3 (il hO2 (ir hO1)))))))),B2,(il hO68 (il hO67 (il hO54 (il hO5 (il hO4 (il hO3 (ir hO2))))))),B4,(il hO68 (il hO67 (il hO54 (il hO5 (ir hO4))))),B5,(il hO68 (il hO67 (il hO54 (ir hO5)))),B54,(il hO68 (il hO67 (ir hO54))),B68,(ir hO68),by omega,B67,(il hO68 (ir hO67)),by omega,by omega,k61.cast (by first | rfl | simp_all)⟩⟩
 refine cB rfl aY (fun v71 h71 q71=>?_)
 obtain ⟨b71,O71,rfl,eb71,sb71,lb71,B71,hO71⟩:=q71.ox O54
 refine ⟨Le.mod lb71,?_⟩
 replace lx59:=laB lx59 hO71 (by omega)
 refine dU 3 5 ?_ ?_
 refine cB rfl (bA (l:=([]:List Row))) (fun v72 h72 q72=>?_)
 obtain ⟨lb72,ow72,sb72⟩:=q72
 have z72:=lb72.1
 refine ⟨Le.mod lb72,?_⟩
 replace OB0:=OB0.newB sb71 hO71 eb71
 replace k72:Rs _ O71 _ _:=Ow.end ⟨ow72,OkL.nil⟩ OB0
 obtain ⟨A73,n73,c73,rfl⟩:=k72.frm
 refine aW 5 (cB rfl aY (fun v74 h74 q74=>?_))
 obtain ⟨b74,O74,rfl,eb74,sb74,lb74,B74,hO74⟩:=q74.ox O71
 refine ⟨Le.mod lb74,?_⟩
 replace lx59:=laB lx59 hO74 (by omega)
 replace B71:=(B71.le lb72).le lb74
 refine aW 6 (cY rfl (aK aP B71) (fun v75 h75 q75=>?_))
 obtain ⟨rfl,q75⟩:=q75
 have z75:=q75.1
 have ms:=mm hS60 q75.2.1
 refine ⟨ms,?_⟩
 replace B71:=q75.2.2
 replace B74:=B74.s q75
 refine aW 7 (cY rfl (aK aP B74) (fun v76 h76 q76=>?_))
 obtain ⟨rfl,q76⟩:=q76
 have z76:=q76.1
 replace mR60:=(((mR60.tl lb71).tl lb72).tl lb74).t ms
 have ms:=mm hS60 q76.2.1
 refine ⟨ms,?_⟩
 replace B74:=q76.2.2
 refine bG 8 rfl (fun _=>aC)<|bG 9 rfl (fun _=>aC)<|bD ?_
 replace le:=((((((((((((le.t lb1).t lb2).t lb3).t lb4).t lb5).t lc53).t lb54).s q55).t lb71).t lb72).t lb74).s q75).s q76
 replace B4:=((((((((B4.le lb5).le lc53).le lb54).s q55).le lb71).le lb72).le lb74).s q75).s q76
 replace B5:=(((((((B5.le lc53).le lb54).s q55).le lb71).le lb72).le lb74).s q75).s q76
 replace B1:=((((B1.le lb71).le lb72).le lb74).s q75).s q76
 replace B2:=((((B2.le lb71).le lb72).le lb74).s q75).s q76
 replace B54:=((((B54.le lb71).le lb72).le lb74).s q75).s q76
 replace lr59:=((((lr59.tl lb71).tl lb72).tl lb74).s q75).s q76
 replace B71:=B71.s q76
 replace k72:=((k72.nb lb74 hO74 eb74).st q75 (il hO74 (ir hO71))).st q76 (ir hO74)
 replace OB0:=(((OB0.leO lb72.1).newB sb74 hO74 eb74).leO (Nat.le_of_eq q75.1.symm)).leO (Nat.le_of_eq q76.1.symm)
 exact ⟨(O74,b71,b74,(.slice A73 n73 c73)),pY,⟨le,lr59,lx59,fun x hx=>(il hO74 (il hO71 hx)),OB0,B1,(il hO74 (il hO71 (il hO54 (il hO5 (il hO4 (il hO3 (il hO2 (ir hO1)))))))),B2,(il hO74 (il hO71 (il hO54 (il hO5 (il hO4 (il hO3 (ir hO2))))))),B4,(il hO74 (il hO71 (il hO54 (il hO5 (ir hO4))))),B5,(il hO74 (il hO71 (il hO54 (ir hO5)))),B54,(il hO74 (il hO71 (ir hO54))),B71,(il hO74 (ir hO71)),by omega,B74,(ir hO74),by omega,by omega,k72.cast (by first | rfl | simp_all)⟩⟩
 refine cB rfl aY (fun v77 h77 q77=>?_)
 obtain ⟨b77,O77,rfl,eb77,sb77,lb77,B77,hO77⟩:=q77.ox O71
 refine ⟨Le.mod lb77,?_⟩
 replace lx59:=laB lx59 hO77 (by omega)
 refine dU 3 6 ?_ ?_
 refine cB rfl (bA (l:=([]:List Row))) (fun v78 h78 q78=>?_)
 obtain ⟨lb78,ow78,sb78⟩:=q78
 have z78:=lb78.1
 refine ⟨Le.mod lb78,?_⟩
 replace OB0:=(OB0.newB sb71 hO71 eb71).newB sb77 hO77 eb77
 replace k78:Rs _ O77 _ _:=Ow.end ⟨ow78,OkL.nil⟩ OB0
 obtain ⟨A79,n79,c79,rfl⟩:=k78.frm
 replace B71:=(B71.le lb77).le lb78
 refine aW 6 (cY rfl (aK aP B71) (fun v80 h80 q80=>?_))
 obtain ⟨rfl,q80⟩:=q80
 have z80:=q80.1
 have ms:=mm hS60 q80.2.1
 refine ⟨ms,?_⟩
 replace B71:=q80.2.2
 replace B77:=(B77.le lb78).s q80
 refine aW 7 (cY rfl (aK aP B77) (fun v81 h81 q81=>?_))
 obtain ⟨rfl,q81⟩:=q81
 have z81:=q81.1
 replace mR60:=(((mR60.tl lb71).tl lb77).tl lb78).t ms
 have ms:=mm hS60 q81.2.1
 refine ⟨ms,?_⟩
 replace B77:=q81.2.2
 refine bG 8 rfl (fun _=>aC)<|bG 9 rfl (fun _=>aC)<|bD ?_
 replace le:=((((((((((((le.t lb1).t lb2).t lb3).t lb4).t lb5).t lc53).t lb54).s q55).t lb71).t lb77).t lb78).s q80).s q81
 replace B4:=((((((((B4.le lb5).le lc53).le lb54).s q55).le lb71).le lb77).le lb78).s q80).s q81
 replace B5:=(((((((B5.le lc53).le lb54).s q55).le lb71).le lb77).le lb78).s q80).s q81
 replace B1:=((((B1.le lb71).le lb77).le lb78).s q80).s q81
 replace B2:=((((B2.le lb71).le lb77).le lb78).s q80).s q81
 replace B54:=((((B54.le lb71).le lb77).le lb78).s q80).s q81
 replace lr59:=((((lr59.tl lb71).tl lb77).tl lb78).s q80).s q81
 replace B71:=B71.s q81
 replace k78:=(k78.st q80 (il hO77 (ir hO71))).st q81 (ir hO77)
 replace OB0:=OB0.leO (h':=h81) (by omega)
 exact ⟨(O77,b71,b77,(.slice A79 n79 c79)),pY,⟨le,lr59,lx59,fun x hx=>(il hO77 (il hO71 hx)),OB0,B1,(il hO77 (il hO71 (il hO54 (il hO5 (il hO4 (il hO3 (il hO2 (ir hO1)))))))),B2,(il hO77 (il hO71 (il hO54 (il hO5 (il hO4 (il hO3 (ir hO2))))))),B4,(il hO77 (il hO71 (il hO54 (il hO5 (ir hO4))))),B5,(il hO77 (il hO71 (il hO54 (ir hO5)))),B54,(il hO77 (il hO71 (ir hO54))),B71,(il hO77 (ir hO71)),by omega,B77,(ir hO77),by omega,by omega,k78.cast (by first | rfl | simp_all)⟩⟩
 replace B71:=B71.le lb77
 refine cY rfl (aK aP B71) (fun v82 h82 q82=>?_)
 obtain ⟨rfl,q82⟩:=q82
 have z82:=q82.1
 have ms:=mm hS60 q82.2.1
 refine ⟨ms,?_⟩
 replace B71:=q82.2.2
 refine dU 3 7 ?_ ?_
 refine cB rfl (bA (l:=([]:List Row))) (fun v83 h83 q83=>?_)
 obtain ⟨lb83,ow83,sb83⟩:=q83
 have z83:=lb83.1
 refine ⟨Le.mod lb83,?_⟩
 replace OB0:=((OB0.newB sb71 hO71 eb71).newB sb77 hO77 eb77).leO (Nat.le_of_eq q82.1.symm)
 replace k83:Rs _ O77 _ _:=Ow.end ⟨ow83,OkL.nil⟩ OB0
 obtain ⟨A84,n84,c84,rfl⟩:=k83.frm
 replace B77:=(B77.s q82).le lb83
 refine aW 7 (cY rfl (aK aP B77) (fun v85 h85 q85=>?_))
 obtain ⟨rfl,q85⟩:=q85
 have z85:=q85.1
 replace mR60:=(((mR60.tl lb71).tl lb77).t ms).tl lb83
 have ms:=mm hS60 q85.2.1
 refine ⟨ms,?_⟩
 replace B77:=q85.2.2
 refine bG 8 rfl (fun _=>aC)<|bG 9 rfl (fun _=>aC)<|bD ?_
 replace le:=((((((((((((le.t lb1).t lb2).t lb3).t lb4).t lb5).t lc53).t lb54).s q55).t lb71).t lb77).s q82).t lb83).s q85
 replace B4:=((((((((B4.le lb5).le lc53).le lb54).s q55).le lb71).le lb77).s q82).le lb83).s q85
 replace B5:=(((((((B5.le lc53).le lb54).s q55).le lb71).le lb77).s q82).le lb83).s q85
 replace B1:=((((B1.le lb71).le lb77).s q82).le lb83).s q85
 replace B2:=((((B2.le lb71).le lb77).s q82).le lb83).s q85
 replace B54:=((((B54.le lb71).le lb77).s q82).le lb83).s q85
 replace lr59:=((((lr59.tl lb71).tl lb77).s q82).tl lb83).s q85
 replace B71:=(B71.le lb83).s q85
 replace k83:=k83.st q85 (ir hO77)
 replace OB0:=OB0.leO (h':=h85) (by omega)
 exact ⟨(O77,b71,b77,(.slice A84 n84 c84)),pY,⟨le,lr59,lx59,fun x hx=>(il hO77 (il hO71 hx)),OB0,B1,(il hO77 (il hO71 (il hO54 (il hO5 (il hO4 (il hO3 (il hO2 (ir hO1)))))))),B2,(il hO77 (il hO71 (il hO54 (il hO5 (il hO4 (il hO3 (ir hO2))))))),B4,(il hO77 (il hO71 (il hO54 (il hO5 (ir hO4))))),B5,(il hO77 (il hO71 (il hO54 (ir hO5)))),B54,(il hO77 (il hO71 (ir hO54))),B71,(il hO77 (ir hO71)),by omega,B77,(ir hO77),by omega,by omega,k83.cast (by first | rfl | simp_all)⟩⟩
 replace B77:=B77.s q82
 refine cY rfl (aK aP B77) (fun v86 h86 q86=>?_)
 obtain ⟨rfl,q86⟩:=q86
 have z86:=q86.1
 replace mR60:=((mR60.tl lb71).tl lb77).t ms
 have ms:=mm hS60 q86.2.1
 refine ⟨ms,?_⟩
 replace B77:=q86.2.2
 refine aW 3 (?_)
 refine cB rfl (bA (l:=([]:List Row))) (fun v87 h87 q87=>?_)
 obtain ⟨lb87,ow87,sb87⟩:=q87
 have z87:=lb87.1
 refine ⟨Le.mod lb87,?_⟩
 replace OB0:=(((OB0.newB sb71 hO71 eb71).newB sb77 hO77 eb77).leO (Nat.le_of_eq q82.1.symm)).leO (Nat.le_of_eq q86.1.symm)
 replace k87:Rs _ O77 _ _:=Ow.end ⟨ow87,OkL.nil⟩ OB0
 obtain ⟨A88,n88,c88,rfl⟩:=k87.frm
 refine bG 8 rfl (fun _=>aC)<|bG 9 rfl (fun _=>aC)<|bD ?_
 replace le:=((((((((((((le.t lb1).t lb2).t lb3).t lb4).t lb5).t lc53).t lb54).s q55).t lb71).t lb77).s q82).s q86).t lb87
 replace B4:=((((((((B4.le lb5).le lc53).le lb54).s q55).le lb71).le lb77).s q82).s q86).le lb87
 replace B5:=(((((((B5.le lc53).le lb54).s q55).le lb71).le lb77).s q82).s q86).le lb87
 replace B1:=((((B1.le lb71).le lb77).s q82).s q86).le lb87
 replace B2:=((((B2.le lb71).le lb77).s q82).s q86).le lb87
 replace B54:=((((B54.le lb71).le lb77).s q82).s q86).le lb87
 replace lr59:=((((lr59.tl lb71).tl lb77).s q82).s q86).tl lb87
 replace B71:=(B71.s q86).le lb87
 replace B77:=B77.le lb87
 replace OB0:=OB0.leO lb87.1
 exact ⟨(O77,b71,b77,(.slice A88 n88 c88)),pY,⟨le,lr59,lx59,fun x hx=>(il hO77 (il hO71 hx)),OB0,B1,(il hO77 (il hO71 (il hO54 (il hO5 (il hO4 (il hO3 (il hO2 (ir hO1)))))))),B2,(il hO77 (il hO71 (il hO54 (il hO5 (il hO4 (il hO3 (ir hO2))))))),B4,(il hO77 (il hO71 (il hO54 (il hO5 (ir hO4))))),B5,(il hO77 (il hO71 (il hO54 (ir hO5)))),B54,(il hO77 (il hO71 (ir hO54))),B71,(il hO77 (ir hO71)),by omega,B77,(ir hO77),by omega,by omega,k87.cast (by first | rfl | simp_all)⟩⟩
 refine cB rfl aY (fun v89 h89 q89=>?_)
 obtain ⟨b89,O89,rfl,eb89,sb89,lb89,B89,hO89⟩:=q89.ox O54
 refine ⟨Le.mod lb89,?_⟩
 replace lx59:=laB lx59 hO89 (by omega)
 refine dU 3 4 ?_ ?_
 refine cB rfl (bA (l:=([]:List Row))) (fun v90 h90 q90=>?_)
 obtain ⟨lb90,ow90,sb90⟩:=q90
 have z90:=lb90.1
 refine ⟨Le.mod lb90,?_⟩
 replace OB0:=OB0.newB sb89 hO89 eb89
 replace k90:Rs _ O89 _ _:=Ow.end ⟨ow90,OkL.nil⟩ OB0
 obtain ⟨A91,n91,c91,rfl⟩:=k90.frm
 refine aW 4 (cB rfl aY (fun v92 h92 q92=>?_))
 obtain ⟨b92,O92,rfl,eb92,sb92,lb92,B92,hO92⟩:=q92.ox O89
 refine ⟨Le.mod lb92,?_⟩
 replace lx59:=laB lx59 hO92 (by omega)
 refine aW 6 (cY rfl (aK aP B92) (fun v93 h93 q93=>?_))
 obtain ⟨rfl,q93⟩:=q93
 have z93:=q93.1
 have ms:=mm hS60 q93.2.1
 refine ⟨ms,?_⟩
 replace B92:=q93.2.2
 replace B89:=((B89.le lb90).le lb92).s q93
 refine aW 7 (cY rfl (aK aP B89) (fun v94 h94 q94=>?_))
 obtain ⟨rfl,q94⟩:=q94
 have z94:=q94.1
 replace mR60:=(((mR60.tl lb89).tl lb90).tl lb92).t ms
 have ms:=mm hS60 q94.2.1
 refine ⟨ms,?_⟩
 replace B89:=q94.2.2
 refine bG 8 rfl (fun _=>aC)<|bG 9 rfl (fun _=>aC)<|bD ?_
 replace le:=((((((((((((le.t lb1).t lb2).t lb3).t lb4).t lb5).t lc53).t lb54).s q55).t lb89).t lb90).t lb92).s q93).s q94
 replace B4:=((((((((B4.le lb5).le lc53).le lb54).s q55).le lb89).le lb90).le lb92).s q93).s q94
 replace B5:=(((((((B5.le lc53).le lb54).s q55).le lb89).le lb90).le lb92).s q93).s q94
 replace B1:=((((B1.le lb89).le lb90).le lb92).s q93).s q94
 replace B2:=((((B2.le lb89).le lb90).le lb92).s q93).s q94
 replace B54:=((((B54.le lb89).le lb90).le lb92).s q93).s q94
 replace lr59:=((((lr59.tl lb89).tl lb90).tl lb92).s q93).s q94
 replace B92:=B92.s q94
 replace k90:=((k90.nb lb92 hO92 eb92).st q93 (ir hO92)).st q94 (il hO92 (ir hO89))
 replace OB0:=(((OB0.leO lb90.1).newB sb92 hO92 eb92).leO (Nat.le_of_eq q93.1.symm)).leO (Nat.le_of_eq q94.1.symm)
 exact ⟨(O92,b92,b89,(.slice A91 n91 c91)),pY,⟨le,lr59,lx59,fun x hx=>(il hO92 (il hO89 hx)),OB0,B1,(il hO92 (il hO89 (il hO54 (il hO5 (il hO4 (il hO3 (il hO2 (ir hO1)))))))),B2,(il hO92 (il hO89 (il hO54 (il hO5 (il hO4 (il hO3 (ir hO2))))))),B4,(il hO92 (il hO89 (il hO54 (il hO5 (ir hO4))))),B5,(il hO92 (il hO89 (il hO54 (ir hO5)))),B54,(il hO92 (il hO89 (ir hO54))),B92,(ir hO92),by omega,B89,(il hO92 (ir hO89)),by omega,by omega,k90.cast (by first | rfl | simp_all)⟩⟩
 refine cB rfl aY (fun v95 h95 q95=>?_)
 obtain ⟨b95,O95,rfl,eb95,sb95,lb95,B95,hO95⟩:=q95.ox O89
 refine ⟨Le.mod lb95,?_⟩
 replace lx59:=laB lx59 hO95 (by omega)
 refine dU 3 6 ?_ ?_
 refine cB rfl (bA (l:=([]:List Row))) (fun v96 h96 q96=>?_)
 obtain ⟨lb96,ow96,sb96⟩:=q96
 have z96:=lb96.1
 refine ⟨Le.mod lb96,?_⟩
 replace OB0:=(OB0.newB sb89 hO89 eb89).newB sb95 hO95 eb95
 replace k96:Rs _ O95 _ _:=Ow.end ⟨ow96,OkL.nil⟩ OB0
 obtain ⟨A97,n97,c97,rfl⟩:=k96.frm
 replace B95:=B95.le lb96
 refine aW 6 (cY rfl (aK aP B95) (fun v98 h98 q98=>?_))
 obtain ⟨rfl,q98⟩:=q98
 have z98:=q98.1
 have ms:=mm hS60 q98.2.1
 refine ⟨ms,?_⟩
 replace B95:=q98.2.2
 replace B89:=((B89.le lb95).le lb96).s q98
 refine aW 7 (cY rfl (aK aP B89) (fun v99 h99 q99=>?_))
 obtain ⟨rfl,q99⟩:=q99
 have z99:=q99.1
 replace mR60:=(((mR60.tl lb89).tl lb95).tl lb96).t ms
 have ms:=mm hS60 q99.2.1
 refine ⟨ms,?_⟩
 replace B89:=q99.2.2
 refine bG 8 rfl (fun _=>aC)<|bG 9 rfl (fun _=>aC)<|bD ?_
 replace le:=((((((((((((le.t lb1).t lb2).t lb3).t lb4).t lb5).t lc53).t lb54).s q55).t lb89).t lb95).t lb96).s q98).s q99
 replace B4:=((((((((B4.le lb5).le lc53).le lb54).s q55).le lb89).le lb95).le lb96).s q98).s q99
 replace B5:=(((((((B5.le lc53).le lb54).s q55).le lb89).le lb95).le lb96).s q98).s q99
 replace B1:=((((B1.le lb89).le lb95).le lb96).s q98).s q99
 replace B2:=((((B2.le lb89).le lb95).le lb96).s q98).s q99
 replace B54:=((((B54.le lb89).le lb95).le lb96).s q98).s q99
 replace lr59:=((((lr59.tl lb89).tl lb95).tl lb96).s q98).s q99
 replace B95:=B95.s q99
 replace k96:=(k96.st q98 (ir hO95)).st q99 (il hO95 (ir hO89))
 replace OB0:=OB0.leO (h':=h99) (by omega)
 exact ⟨(O95,b95,b89,(.slice A97 n97 c97)),pY,⟨le,lr59,lx59,fun x hx=>(il hO95 (il hO89 hx)),OB0,B1,(il hO95 (il hO89 (il hO54 (il hO5 (il hO4 (il hO3 (il hO2 (ir hO1)))))))),B2,(il hO95 (il hO89 (il hO54 (il hO5 (il hO4 (il hO3 (ir hO2))))))),B4,(il hO95 (il hO89 (il hO54 (il hO5 (ir hO4))))),B5,(il hO95 (il hO89 (il hO54 (ir hO5)))),B54,(il hO95 (il hO89 (ir hO54))),B95,(ir hO95),by omega,B89,(il hO95 (ir hO89)),by omega,by omega,k96.cast (by first | rfl | simp_all)⟩⟩
 refine cY rfl (aK aP B95) (fun v100 h100 q100=>?_)
 obtain ⟨rfl,q100⟩:=q100
 have z100:=q100.1
 have ms:=mm hS60 q100.2.1
 refine ⟨ms,?_⟩
 replace B95:=q100.2.2
 refine dU 3 7 ?_ ?_
 refine cB rfl (bA (l:=([]:List Row))) (fun v101 h101 q101=>?_)
 obtain ⟨lb101,ow101,sb101⟩:=q101
 have z101:=lb101.1
 refine ⟨Le.mod lb101,?_⟩
 replace OB0:=((OB0.newB sb89 hO89 eb89).newB sb95 hO95 eb95).leO (Nat.le_of_eq q100.1.symm)
 replace k101:Rs _ O95 _ _:=Ow.end ⟨ow101,OkL.nil⟩ OB0
 obtain ⟨A102,n102,c102,rfl⟩:=k101.frm
 replace B89:=((B89.le lb95).s q100).le lb101
 refine aW 7 (cY rfl (aK aP B89) (fun v103 h103 q103=>?_))
 obtain ⟨rfl,q103⟩:=q103
 have z103:=q103.1
 replace mR60:=(((mR60.tl lb89).tl lb95).t ms).tl lb101
 have ms:=mm hS60 q103.2.1
 refine ⟨ms,?_⟩
 replace B89:=q103.2.2
 refine bG 8 rfl (fun _=>aC)<|bG 9 rfl (fun _=>aC)<|bD ?_
 replace le:=((((((((((((le.t lb1).t lb2).t lb3).t lb4).t lb5).t lc53).t lb54).s q55).t lb89).t lb95).s q100).t lb101).s q103
 replace B4:=((((((((B4.le lb5).le lc53).le lb54).s q55).le lb89).le lb95).s q100).le lb101).s q103
 replace B5:=(((((((B5.le lc53).le lb54).s q55).le lb89).le lb95).s q100).le lb101).s q103
 replace B1:=((((B1.le lb89).le lb95).s q100).le lb101).s q103
 replace B2:=((((B2.le lb89).le lb95).s q100).le lb101).s q103
 replace B54:=((((B54.le lb89).le lb95).s q100).le lb101).s q103
 replace lr59:=((((lr59.tl lb89).tl lb95).s q100).tl lb101).s q103
 replace B95:=(B95.le lb101).s q103
 replace k101:=k101.st q103 (il hO95 (ir hO89))
 replace OB0:=OB0.leO (h':=h103) (by omega)
 exact ⟨(O95,b95,b89,(.slice A102 n102 c102)),pY,⟨le,lr59,lx59,fun x hx=>(il hO95 (il hO89 hx)),OB0,B1,(il hO95 (il hO89 (il hO54 (il hO5 (il hO4 (il hO3 (il hO2 (ir hO1)))))))),B2,(il hO95 (il hO89 (il hO54 (il hO5 (il hO4 (il hO3 (ir hO2))))))),B4,(il hO95 (il hO89 (il hO54 (il hO5 (ir hO4))))),B5,(il hO95 (il hO89 (il hO54 (ir hO5)))),B54,(il hO95 (il hO89 (ir hO54))),B95,(ir hO95),by omega,B89,(il hO95 (ir hO89)),by omega,by omega,k101.cast (by first | rfl | simp_all)⟩⟩
 replace B89:=(B89.le lb95).s q100
 refine cY rfl (aK aP B89) (fun v104 h104 q104=>?_)
 obtain ⟨rfl,q104⟩:=q104
 have z104:=q104.1
 replace mR60:=((mR60.tl lb89).tl lb95).t ms
 have ms:=mm hS60 q104.2.1
 refine ⟨ms,?_⟩
 replace B89:=q104.2.2
 refine aW 3 (?_)
 refine cB rfl (bA (l:=([]:List Row))) (fun v105 h105 q105=>?_)
 obtain ⟨lb105,ow105,sb105⟩:=q105
 have z105:=lb105.1
 refine ⟨Le.mod lb105,?_⟩
 replace OB0:=(((OB0.newB sb89 hO89 eb89).newB sb95 hO95 eb95).leO (Nat.le_of_eq q100.1.symm)).leO (Nat.le_of_eq q104.1.symm)
 replace k105:Rs _ O95 _ _:=Ow.end ⟨ow105,OkL.nil⟩ OB0
 obtain ⟨A106,n106,c106,rfl⟩:=k105.frm
 refine bG 8 rfl (fun _=>aC)<|bG 9 rfl (fun _=>aC)<|bD ?_
 replace le:=((((((((((((le.t lb1).t lb2).t lb3).t lb4).t lb5).t lc53).t lb54).s q55).t lb89).t lb95).s q100).s q104).t lb105
 replace B4:=((((((((B4.le lb5).le lc53).le lb54).s q55).le lb89).le lb95).s q100).s q104).le lb105
 replace B5:=(((((((B5.le lc53).le lb54).s q55).le lb89).le lb95).s q100).s q104).le lb105
 replace B1:=((((B1.le lb89).le lb95).s q100).s q104).le lb105
 replace B2:=((((B2.le lb89).le lb95).s q100).s q104).le lb105
 replace B54:=((((B54.le lb89).le lb95).s q100).s q104).le lb105
 replace lr59:=((((lr59.tl lb89).tl lb95).s q100).s q104).tl lb105
 replace B95:=(B95.s q104).le lb105
 replace B89:=B89.le lb105
 replace OB0:=OB0.leO lb105.1
 exact ⟨(O95,b95,b89,(.slice A106 n106 c106)),pY,⟨le,lr59,lx59,fun x hx=>(il hO95 (il hO89 hx)),OB0,B1,(il hO95 (il hO89 (il hO54 (il hO5 (il hO4 (il hO3 (il hO2 (ir hO1)))))))),B2,(il hO95 (il hO89 (il hO54 (il hO5 (il hO4 (il hO3 (ir hO2))))))),B4,(il hO95 (il hO89 (il hO54 (il hO5 (ir hO4))))),B5,(il hO95 (il hO89 (il hO54 (ir hO5)))),B54,(il hO95 (il hO89 (ir hO54))),B95,(ir hO95),by omega,B89,(il hO95 (ir hO89)),by omega,by omega,k105.cast (by first | rfl | simp_all)⟩⟩
 replace le:=(((((((le.t lb1).t lb2).t lb3).t lb4).t lb5).t lc53).t lb54).s q55
 replace B1:=((((((B1.le lb2).le lb3).le lb4).le lb5).le lc53).le lb54).s q55
 replace B4:=(((B4.le lb5).le lc53).le lb54).s q55
 replace B2:=((B2.le lc53).le lb54).s q55
 replace B5:=((B5.le lc53).le lb54).s q55
 rintro ⟨OL59,b56,b57,js58⟩ r hl59 ⟨le,lp59,la59,lb59,lo59,B1,mB1,B2,mB2,B4,mB4,B5,mB5,B54,mB54,B56,mB56,nbl56,B57,mB57,nbl57,nbd57_56,kjs58⟩
 obtain ⟨A107,n107,c107,rfl⟩:=kjs58.frm
 have nbu56:=B56.lt
 have nbu57:=B57.lt
 have zl59:=lp59.1
 refine aI ?_
 refine hw_sr (aB y_move<|aD ?_)
 refine bF (fun g89=>?_) (fun g89=>?_)
 have hc:=uP v t.seat (cH t.names l.body).1
 obtain ⟨hR,hrl⟩:=nD v t.seat (cH t.names l.body).1
 refine aE (aB (y_loadB B1 0 _)<|aB y_fieldAddr<|aB (y_loadB B2 0 _)<|aB (y_loadB B54 0 _)<|?_)
 replace OB0:=lo59
 replace k0:=((((((((k0.nb lb1 hO1 eb1).nb lb2 hO2 eb2).nb lb3 hO3 eb3).nb lb4 hO4 eb4).nb lb5 hO5 eb5).le lc53).nb lb54 hO54 eb54).st q55 (ir hO54)).lp lp59 la59
 replace k1:=((((((((k1.nb lb1 hO1 eb1).nb lb2 hO2 eb2).nb lb3 hO3 eb3).nb lb4 hO4 eb4).nb lb5 hO5 eb5).le lc53).nb lb54 hO54 eb54).st q55 (ir hO54)).lp lp59 la59
 refine bL aG (aC4 (v:=v) (s:=t.seat) (a:=((cH t.names l.body).1)) k0 k1 OB0) (fun v108 h108 q108=>?_)
 obtain ⟨s108_1,s108_2,s108_3,rfl,lc108,k108_1,k108_2,k108_3⟩:=q108
 have z108:=lc108.1
 obtain ⟨A109,n109,c109,rfl⟩:=k108_1.frm
 obtain ⟨A110,n110,c110,rfl⟩:=k108_2.frm
 obtain ⟨A111,n111,c111,rfl⟩:=k108_3.frm
 replace B56:=B56.le lc108
 refine aB y_move<|aB aL<|aB aL<|aB aL<|aB aL<|bO (aK aP B56) (fun v112 h112 q112=>?_)
 obtain ⟨rfl,q112⟩:=q112
 have z112:=q112.1
 replace B56:=q112.2.2
 replace B57:=(B57.le lc108).s q112
 refine bO (aK aP B57) (fun v113 h113 q113=>?_)
 obtain ⟨rfl,q113⟩:=q113
 have z113:=q113.1
 replace B57:=q113.2.2
 refine aB aC<|aB aC<|aD ?_
 refine aF (ah7 4 6 7 19 20 21 22) fun r=>?_
 refine hw_sr (aB (y_loadB B57 0 _)<|aB y_fieldAddr<|?_)
 replace B2:=((B2.le lc108).s q112).s q113
 refine bO (aK aP B2) (fun v114 h114 q114=>?_)
 obtain ⟨rfl,q114⟩:=q114
 have z114:=q114.1
 replace B2:=q114.2.2
 refine aD ?_
 refine aF (ah6 4 6 7 19 21 22) fun r=>?_
 refine hw_sr (aB y_move<|aB fS<|aB y_fieldAddr<|bO (aK aP B2) (fun v115 h115 q115=>?_))
 obtain ⟨rfl,q115⟩:=q115
 have z115:=q115.1
 replace B2:=q115.2.2
 refine aD ?_
 refine aF (ah6 4 6 7 19 21 22) fun r=>?_
 refine aI ?_
 replace k108_1:=(((k108_1.st q112 mB56).st q113 mB57).st q114 mB2).st q115 mB2
 have Rk108_1:=k108_1
 replace k108_2:=(((k108_2.st q112 mB56).st q113 mB57).st q114 mB2).st q115 mB2
 have Rk108_2:=k108_2
 replace k108_3:=(((k108_3.st q112 mB56).st q113 mB57).st q114 mB2).st q115 mB2
 have Rk108_3:=k108_3
 replace k2:=((((((((k2.le lc53).nb lb54 hO54 eb54).st q55 (ir hO54)).lp lp59 la59).le lc108).st q112 mB56).st q113 mB57).st q114 mB2).st q115 mB2
 have Rk2:=k2
 obtain ⟨S116,hS116⟩:=mkO (fun b=>h115.size ≤ b ∨ b = b4 ∨ b = b5)
 replace mR116:Mod S116 h115 h115:=Mod.refl _
 have hd116:∀ b,b < h115.size∧¬ OL59 b → ¬ S116 b:=fun b hb hs=>(fun hs=>hs.elim (fun hs=>absurd hb.1 (Nat.not_lt.2 hs)) (fun hs=>hs.elim (fun hs=>hb.2 (hs ▸ mB4)) (fun hs=>hb.2 (hs ▸ mB5)))) ((hS116 b).1 hs)
 replace B56:=((B56.s q113).s q114).s q115
 refine bH 8 S116 bC (ha2_y 0 rfl (fun _ mm=>(y_loadB (Blk.mod B56 mm (fun hs=>by rcases (hS116 _).1 hs with hs | hs | hs <;> first | omega)) 0 _))<|ha2_y 1 rfl (fun _ mm=>(y_loadB (Blk.mod B2 mm (fun hs=>by rcases (hS116 _).1 hs with hs | hs | hs <;> first | omega)) 0 _))<|ha2_p 2 rfl (fun _=>y_move)<|ha2_p 3 rfl (fun _=>y_move)<|?_)
 replace OB0:=OB0.leO (h':=h115) (by omega)
 refine aW 4 (cC rfl aG (mG k108_3 OB0) (fun v117 h117 q117=>?_))
 obtain ⟨lc117,k117_1⟩:=q117
 have z117:=lc117.1
 refine ⟨Le.mod lc117,?_⟩
 replace k117_1:=k117_1.end OB0
 obtain ⟨A118,n118,c118,rfl⟩:=k117_1.frm
 replace B4:=(((((B4.le lc108).s q112).s q113).s q114).s q115).le lc117
 refine aW 5 (cY rfl (aK aP B4) (fun v119 h119 q119=>?_))
 obtain ⟨rfl,q119⟩:=q119
 have z119:=q119.1
 have ms:=mm hS116 q119.2.1
 refine ⟨ms,?_⟩
 replace B4:=q119.2.2
 replace B5:=((((((B5.le lc108).s q112).s q113).s q114).s q115).le lc117).s q119
 refine aW 6 (cY rfl (aK aP B5) (fun v120 h120 q120=>?_))
 obtain ⟨rfl,q120⟩:=q120
 have z120:=q120.1
 replace mR116:=(mR116.tl lc117).t ms
 have ms:=mm hS116 q120.2.1
 refine ⟨ms,?_⟩
 replace B5:=q120.2.2
 refine bG 7 rfl (fun _=>aC)<|bD ?_
 refine aF (ah3 6 7 8) fun r=>?_
 refine hw_rr ?_
 replace B4:=B4.s q120
 refine aQ rfl (.cons (bT B4) (.cons (bT B5) (.cons aU .nil))) ?_
 have hr:eO v t l = _:=((if_neg g27).trans ((if_neg g34).trans ((if_neg g46).trans ((if_pos g75).trans ((if_pos g89))))))
 replace le:=(((((((le.t lc108).s q112).s q113).s q114).s q115).t lc117).s q119).s q120
 replace k108_1:=((k108_1.le lc117).st q119 mB4).st q120 mB5
 replace k108_2:=((k108_2.le lc117).st q119 mB4).st q120 mB5
 replace k2:=((k2.le lc117).st q119 mB4).st q120 mB5
 replace k117_1:=(k117_1.st q119 mB4).st q120 mB5
 exact ⟨_,_,_,_,by first | rfl | (rw [hr] <;> rfl),le,(k108_1.wk (fun x hx=>(lb59 _ (il hO54 (il hO5 (il hO4 (il hO3 (il hO2 (il hO1 hx))))))))).cast (by first | rfl | (rw [hr] <;> rfl)),(k108_2.wk (fun x hx=>(lb59 _ (il hO54 (il hO5 (il hO4 (il hO3 (il hO2 (il hO1 hx))))))))).cast (by first | rfl | (rw [hr] <;> rfl)),(k2.wk (fun x hx=>(lb59 _ (il hO54 (il hO5 (il hO4 (il hO3 (il hO2 (il hO1 hx))))))))).cast (by first | rfl | (rw [hr] <;> rfl)),(k117_1.wk (fun x hx=>(lb59 _ (il hO54 (il hO5 (il hO4 (il hO3 (il hO2 (il hO1 hx))))))))).cast (by first | rfl | (rw [hr] <;> rfl))⟩
 refine aE (aB (y_loadB B57 0 _)<|?_)
 replace OB0:=lo59
 replace k1:=((((((((k1.nb lb1 hO1 eb1).nb lb2 hO2 eb2).nb lb3 hO3 eb3).nb lb4 hO4 eb4).nb lb5 hO5 eb5).le lc53).nb lb54 hO54 eb54).st q55 (ir hO54)).lp lp59 la59
 refine bL aG (gY (s:=t.seat) k1 OB0) (fun v121 h121 q121=>?_)
 obtain ⟨s121_1,rfl,lc121,k121_1⟩:=q121
 have z121:=lc121.1
 obtain ⟨A122,n122,c122,rfl⟩:=k121_1.frm
 replace B57:=B57.le lc121
 refine bO (aK aP B57) (fun v123 h123 q123=>?_)
 obtain ⟨rfl,q123⟩:=q123
 have z123:=q123.1
 replace B57:=q123.2.2
 refine aD ?_
 refine hw_sr (aB (y_loadB B57 0 _)<|aB y_fieldAddr<|?_)
 replace B2:=(B2.le lc121).s q123
 refine bO (aK aP B2) (fun v124 h124 q124=>?_)
 obtain ⟨rfl,q124⟩:=q124
 have z124:=q124.1
 replace B2:=q124.2.2
 refine aD ?_
 refine aF (ah6 4 6 7 19 21 22) fun r=>?_
 refine hw_sr (aB y_move<|aB fS<|aB y_fieldAddr<|bO (aK aP B2) (fun v125 h125 q125=>?_))
 obtain ⟨rfl,q125⟩:=q125
 have z125:=q125.1
 replace B2:=q125.2.2
 refine aD ?_
 refine aF (ah6 4 6 7 19 21 22) fun r=>?_
 refine aI ?_
 replace k0:=((((((((((((k0.nb lb1 hO1 eb1).nb lb2 hO2 eb2).nb lb3 hO3 eb3).nb lb4 hO4 eb4).nb lb5 hO5 eb5).le lc53).nb lb54 hO54 eb54).st q55 (ir hO54)).lp lp59 la59).le lc121).st q123 mB57).st q124 mB2).st q125 mB2
 have Rk0:=k0
 replace k121_1:=((k121_1.st q123 mB57).st q124 mB2).st q125 mB2
 have Rk121_1:=k121_1
 replace k2:=(((((((k2.le lc53).nb lb54 hO54 eb54).st q55 (ir hO54)).lp lp59 la59).le lc121).st q123 mB57).st q124 mB2).st q125 mB2
 have Rk2:=k2
 replace kjs58:=(((kjs58.le lc121).st q123 mB57).st q124 mB2).st q125 mB2
 have Rkjs58:=kjs58
 obtain ⟨S126,hS126⟩:=mkO (fun b=>h125.size ≤ b ∨ b = b4 ∨ b = b5)
 replace mR126:Mod S126 h125 h125:=Mod.refl _
 have hd126:∀ b,b < h125.size∧¬ OL59 b → ¬ S126 b:=fun b hb hs=>(fun hs=>hs.elim (fun hs=>absurd hb.1 (Nat.not_lt.2 hs)) (fun hs=>hs.elim (fun hs=>hb.2 (hs ▸ mB4)) (fun hs=>hb.2 (hs ▸ mB5)))) ((hS126 b).1 hs)
 replace B56:=(((B56.le lc121).s q123).s q124).s q125
 refine bH 8 S126 bC (ha2_y 0 rfl (fun _ mm=>(y_loadB (Blk.mod B56 mm (fun hs=>by rcases (hS126 _).1 hs with hs | hs | hs <;> first | omega)) 0 _))<|ha2_y 1 rfl (fun _ mm=>(y_loadB (Blk.mod B2 mm (fun hs=>by rcases (hS126 _).1 hs with hs | hs | hs <;> first | omega)) 0 _))<|ha2_p 2 rfl (fun _=>y_move)<|ha2_p 3 rfl (fun _=>y_move)<|?_)
 replace OB0:=OB0.leO (h':=h125) (by omega)
 refine aW 4 (cC rfl aG (mG kjs58 OB0) (fun v127 h127 q127=>?_))
 obtain ⟨lc127,k127_1⟩:=q127
 have z127:=lc127.1
 refine ⟨Le.mod lc127,?_⟩
 replace k127_1:=k127_1.end OB0
 obtain ⟨A128,n128,c128,rfl⟩:=k127_1.frm
 replace B4:=((((B4.le lc121).s q123).s q124).s q125).le lc127
 refine aW 5 (cY rfl (aK aP B4) (fun v129 h129 q129=>?_))
 obtain ⟨rfl,q129⟩:=q129
 have z129:=q129.1
 have ms:=mm hS126 q129.2.1
 refine ⟨ms,?_⟩
 replace B4:=q129.2.2
 replace B5:=(((((B5.le lc121).s q123).s q124).s q125).le lc127).s q129
 refine aW 6 (cY rfl (aK aP B5) (fun v130 h130 q130=>?_))
 obtain ⟨rfl,q130⟩:=q130
 have z130:=q130.1
 replace mR126:=(mR126.tl lc127).t ms
 have ms:=mm hS126 q130.2.1
 refine ⟨ms,?_⟩
 replace B5:=q130.2.2
 refine bG 7 rfl (fun _=>aC)<|bD ?_
 refine aF (ah3 6 7 8) fun r=>?_
 refine hw_rr ?_
 replace B4:=B4.s q130
 refine aQ rfl (.cons (bT B4) (.cons (bT B5) (.cons aU .nil))) ?_
 have hr:eO v t l = _:=((if_neg g27).trans ((if_neg g34).trans ((if_neg g46).trans ((if_pos g75).trans ((if_neg (neF g89)))))))
 replace le:=((((((le.t lc121).s q123).s q124).s q125).t lc127).s q129).s q130
 replace k0:=((k0.le lc127).st q129 mB4).st q130 mB5
 replace k121_1:=((k121_1.le lc127).st q129 mB4).st q130 mB5
 replace k2:=((k2.le lc127).st q129 mB4).st q130 mB5
 replace k127_1:=(k127_1.st q129 mB4).st q130 mB5
 exact ⟨_,_,_,_,by first | rfl | (rw [hr] <;> rfl),le,(k0.wk (fun x hx=>(lb59 _ (il hO54 (il hO5 (il hO4 (il hO3 (il hO2 (il hO1 hx))))))))).cast (by first | rfl | (rw [hr] <;> rfl)),(k121_1.wk (fun x hx=>(lb59 _ (il hO54 (il hO5 (il hO4 (il hO3 (il hO2 (il hO1 hx))))))))).cast (by first | rfl | (rw [hr] <;> rfl)),(k2.wk (fun x hx=>(lb59 _ (il hO54 (il hO5 (il hO4 (il hO3 (il hO2 (il hO1 hx))))))))).cast (by first | rfl | (rw [hr] <;> rfl)),(k127_1.wk (fun x hx=>(lb59 _ (il hO54 (il hO5 (il hO4 (il hO3 (il hO2 (il hO1 hx))))))))).cast (by first | rfl | (rw [hr] <;> rfl))⟩
 refine aM ?_
 refine hw_sr (?_)
 replace OB0:=((((OB0.newB sb1 hO1 eb1).newB sb2 hO2 eb2).newB sb3 hO3 eb3).newB sb4 hO4 eb4).newB sb5 hO5 eb5
 refine bL aG (aB8 OB0) (fun v131 h131 q131=>?_)
 obtain ⟨s131_1,s131_2,rfl,lc131,k131_1,k131_2⟩:=q131
 have z131:=lc131.1
 obtain ⟨A132,n132,c132,rfl⟩:=k131_1.frm
 obtain ⟨A133,n133,c133,rfl⟩:=k131_2.frm
 refine aB y_move<|aB aL<|aB aL<|bE aY (fun v134 h134 q134=>?_)
 obtain ⟨b134,O134,rfl,eb134,sb134,lb134,B134,hO134⟩:=q134.ox O5
 refine bE aY (fun v135 h135 q135=>?_)
 obtain ⟨b135,O135,rfl,eb135,sb135,lb135,B135,hO135⟩:=q135.ox O134
 replace B134:=B134.le lb135
 refine bO (aK aP B134) (fun v136 h136 q136=>?_)
 obtain ⟨rfl,q136⟩:=q136
 have z136:=q136.1
 replace B134:=q136.2.2
 replace B135:=B135.s q136
 refine bO (aK aP B135) (fun v137 h137 q137=>?_)
 obtain ⟨rfl,q137⟩:=q137
 have z137:=q137.1
 replace B135:=q137.2.2
 refine aD ?_
 refine aF (ah6 3 5 6 7 23 24) fun r=>?_
 refine aI ?_
 refine aI ?_
 replace B3:=((((B3.le lc131).le lb134).le lb135).s q136).s q137
 refine aE (aB y_fieldAddr<|aB (y_load (Blk.at B3 rfl rfl))<|aB y_seql<|aD ?_)
 refine aF (ah6 3 6 7 23 24 118) fun r=>?_
 refine aZ (fun g118=>?_) (fun g118=>?_)
 replace OB0:=((((OB0.leO lc131.1).newB sb134 hO134 eb134).newB sb135 hO135 eb135).leO (Nat.le_of_eq q136.1.symm)).leO (Nat.le_of_eq q137.1.symm)
 refine dH (fun (gx:(Nat → Prop) × Value)=>match gx with | (OL139,js138)=>[(6,.pointer (some ⟨b4,0,none⟩)),(7,.pointer (some ⟨b5,0,none⟩)),(8,js138)]) (fun (gx:(Nat → Prop) × Value) (h' : Heap)=>match gx with | (OL139,js138)=>Le h h' ∧ Mod O135 h137 h' ∧ (∀ x,OL139 x → O135 x ∨ h137.size ≤ x)∧(∀ x,O135 x → OL139 x)∧OB h' OL139∧Blk h' b1 [vi v.now,(.slice Ak0 nk0 ck0)] 52∧OL139 b1∧Blk h' b4 [vi v.now,(.slice Ak0 nk0 ck0)] 52∧OL139 b4∧Blk h' b5 [vb bX.seat.on,vb bX.seat.bad,vi bX.seat.work.at',(.slice A132 n132 c132),(.slice A133 n133 c133),vb bX.skip,vb bX.gone,vs bX.inn] 60∧OL139 b5∧Blk h' b134 [vb bX.seat.on,vb bX.seat.bad,vi bX.seat.work.at',(.slice A132 n132 c132),(.slice A133 n133 c133),vb bX.skip,vb bX.gone,vs bX.inn] 60∧OL139 b134∧Blk h' b135 [vs eL.sign,vs eL.body] 28∧OL139 b135∧Rs h' OL139 js138 ([eL]:List Letter)) ?_ ?_
 replace lr139:=Mod.refl (S:=O135) h137
 replace lx139:∀ x,O135 x → O135 x ∨ h137.size ≤ x:=fun x hx=>.inl hx
 replace k0:=(((((((((k0.nb lb1 hO1 eb1).nb lb2 hO2 eb2).nb lb3 hO3 eb3).nb lb4 hO4 eb4).nb lb5 hO5 eb5).le lc131).nb lb134 hO134 eb134).nb lb135 hO135 eb135).st q136 (il hO135 (ir hO134))).st q137 (ir hO135)
 have Rk0:=k0
 replace k131_1:=(((k131_1.nb lb134 hO134 eb134).nb lb135 hO135 eb135).st q136 (il hO135 (ir hO134))).st q137 (ir hO135)
 have Rk131_1:=k131_1
 replace k131_2:=(((k131_2.nb lb134 hO134 eb134).nb lb135 hO135 eb135).st q136 (il hO135 (ir hO134))).st q137 (ir hO135)
 have Rk131_2:=k131_2
 obtain ⟨S140,hS140⟩:=mkO (fun b=>h137.size ≤ b ∨ b = b4 ∨ b = b5)
 replace mR140:Mod S140 h137 h137:=Mod.refl _
 have hd140:∀ b,b < h137.size∧¬ O135 b → ¬ S140 b:=fun b hb hs=>(fun hs=>hs.elim (fun hs=>absurd hb.1 (Nat.not_lt.2 hs)) (fun hs=>hs.elim (fun hs=>hb.2 (hs ▸ (il hO135 (il hO134 (il hO5 (ir hO4)))))) (fun hs=>hb.2 (hs ▸ (il hO135 (il hO134 (ir hO5))))))) ((hS140 b).1 hs)
 replace B1:=((((((((B1.le lb2).le lb3).le lb4).le lb5).le lc131).le lb134).le lb135).s q136).s q137
 replace B134:=B134.s q137
 refine bH 7 S140 bC (ha2_y 0 rfl (fun _ mm=>(y_loadB (Blk.mod B1 mm (fun hs=>by rcases (hS140 _).1 hs with hs | hs | hs <;> first | omega)) 0 _))<|ha2_y 1 rfl (fun _ mm=>(y_loadB (Blk.mod B134 mm (fun hs=>by rcases (hS140 _).1 hs with hs | hs | hs <;> first | omega)) 0 _))<|ha2_y 2 rfl (fun _ mm=>(y_loadB (Blk.mod B135 mm (fun hs=>by rcases (hS140 _).1 hs with hs | hs | hs <;> first | omega)) 0 _))<|?_)
 refine dU 3 4 ?_ ?_
 refine cB rfl (bA (l:=([eL]:List Letter))) (fun v141 h141 q141=>?_)
 obtain ⟨lb141,ow141,sb141⟩:=q141
 have z141:=lb141.1
 refine ⟨Le.mod lb141,?_⟩
 replace k141:Rs _ O135 _ _:=Ow.end ⟨ow141,ok1⟩ OB0
 obtain ⟨A142,n142,c142,rfl⟩:=k141.frm
 replace B4:=((((((B4.le lb5).le lc131).le lb134).le lb135).s q136).s q137).le lb141
 refine aW 4 (cY rfl (aK aP B4) (fun v143 h143 q143=>?_))
 obtain ⟨rfl,q143⟩:=q143
 have z143:=q143.1
 have ms:=mm hS140 q143.2.1
 refine ⟨ms,?_⟩
 replace B4:=q143.2.2
 replace B5:=((((((B5.le lc131).le lb134).le lb135).s q136).s q137).le lb141).s q143
 refine aW 5 (cY rfl (aK aP B5) (fun v144 h144 q144=>?_))
 replace lr139:=(lr139.tl lb141).stO q143 (il hO135 (il hO134 (il hO5 (ir hO4))))
 obtain ⟨rfl,q144⟩:=q144
 have z144:=q144.1
 replace mR140:=(mR140.tl lb141).t ms
 have ms:=mm hS140 q144.2.1
 refine ⟨ms,?_⟩
 replace B5:=q144.2.2
 replace lr139:=lr139.stO q144 (il hO135 (il hO134 (ir hO5)))
 refine bG 6 rfl (fun _=>aC)<|bD ?_
 replace le:=((((((((((((le.t lb1).t lb2).t lb3).t lb4).t lb5).t lc131).t lb134).t lb135).s q136).s q137).t lb141).s q143).s q144
 replace B1:=((B1.le lb141).s q143).s q144
 replace B134:=((B134.le lb141).s q143).s q144
 replace B135:=((B135.le lb141).s q143).s q144
 replace B4:=B4.s q144
 replace k141:=(k141.st q143 (il hO135 (il hO134 (il hO5 (ir hO4))))).st q144 (il hO135 (il hO134 (ir hO5)))
 replace OB0:=OB0.leO (h':=h144) (by omega)
 exact ⟨(O135,(.slice A142 n142 c142)),ag3,⟨le,lr139,lx139,fun x hx=>hx,OB0,B1,(il hO135 (il hO134 (il hO5 (il hO4 (il hO3 (il hO2 (ir hO1))))))),B4,(il hO135 (il hO134 (il hO5 (ir hO4)))),B5,(il hO135 (il hO134 (ir hO5))),B134,(il hO135 (ir hO134)),B135,(ir hO135),k141.cast (by first | rfl | simp_all)⟩⟩
 replace B4:=(((((B4.le lb5).le lc131).le lb134).le lb135).s q136).s q137
 refine cY rfl (aK aP B4) (fun v145 h145 q145=>?_)
 obtain ⟨rfl,q145⟩:=q145
 have z145:=q145.1
 have ms:=mm hS140 q145.2.1
 refine ⟨ms,?_⟩
 replace B4:=q145.2.2
 refine dU 3 5 ?_ ?_
 refine cB rfl (bA (l:=([eL]:List Letter))) (fun v146 h146 q146=>?_)
 obtain ⟨lb146,ow146,sb146⟩:=q146
 have z146:=lb146.1
 refine ⟨Le.mod lb146,?_⟩
 replace OB0:=OB0.leO (Nat.le_of_eq q145.1.symm)
 replace k146:Rs _ O135 _ _:=Ow.end ⟨ow146,ok1⟩ OB0
 replace lr139:=(lr139.stO q145 (il hO135 (il hO134 (il hO5 (ir hO4))))).tl lb146
 obtain ⟨A147,n147,c147,rfl⟩:=k146.frm
 replace B5:=((((((B5.le lc131).le lb134).le lb135).s q136).s q137).s q145).le lb146
 refine aW 5 (cY rfl (aK aP B5) (fun v148 h148 q148=>?_))
 obtain ⟨rfl,q148⟩:=q148
 have z148:=q148.1
 replace mR140:=(mR140.t ms).tl lb146
 have ms:=mm hS140 q148.2.1
 refine ⟨ms,?_⟩
 replace B5:=q148.2.2
 replace lr139:=lr139.stO q148 (il hO135 (il hO134 (ir hO5)))
 refine bG 6 rfl (fun _=>aC)<|bD ?_
 replace le:=((((((((((((le.t lb1).t lb2).t lb3).t lb4).t lb5).t lc131).t lb134).t lb135).s q136).s q137).s q145).t lb146).s q148
 replace B1:=((B1.s q145).le lb146).s q148
 replace B134:=((B134.s q145).le lb146).s q148
 replace B135:=((B135.s q145).le lb146).s q148
 replace B4:=(B4.le lb146).s q148
 replace k146:=k146.st q148 (il hO135 (il hO134 (ir hO5)))
 replace OB0:=OB0.leO (h':=h148) (by omega)
 exact ⟨(O135,(.slice A147 n147 c147)),ag3,⟨le,lr139,lx139,fun x hx=>hx,OB0,B1,(il hO135 (il hO134 (il hO5 (il hO4 (il hO3 (il hO2 (ir hO1))))))),B4,(il hO135 (il hO134 (il hO5 (ir hO4)))),B5,(il hO135 (il hO134 (ir hO5))),B134,(il hO135 (ir hO134)),B135,(ir hO135),k146.cast (by first | rfl | simp_all)⟩⟩
 replace B5:=(((((B5.le lc131).le lb134).le lb135).s q136).s q137).s q145
 refine cY rfl (aK aP B5) (fun v149 h149 q149=>?_)
 replace lr139:=lr139.stO q145 (il hO135 (il hO134 (il hO5 (ir hO4))))
 obtain ⟨rfl,q149⟩:=q149
 have z149:=q149.1
 replace mR140:=mR140.t ms
 have ms:=mm hS140 q149.2.1
 refine ⟨ms,?_⟩
 replace B5:=q149.2.2
 refine aW 3 (?_)
 refine cB rfl (bA (l:=([eL]:List Letter))) (fun v150 h150 q150=>?_)
 obtain ⟨lb150,ow150,sb150⟩:=q150
 have z150:=lb150.1
 refine ⟨Le.mod lb150,?_⟩
 replace OB0:=OB0.leO (h':=h149) (by omega)
 replace k150:Rs _ O135 _ _:=Ow.end ⟨ow150,ok1⟩ OB0
 replace lr139:=(lr139.stO q149 (il hO135 (il hO134 (ir hO5)))).tl lb150
 obtain ⟨A151,n151,c151,rfl⟩:=k150.frm
 refine bG 6 rfl (fun _=>aC)<|bD ?_
 replace le:=((((((((((((le.t lb1).t lb2).t lb3).t lb4).t lb5).t lc131).t lb134).t lb135).s q136).s q137).s q145).s q149).t lb150
 replace B1:=((B1.s q145).s q149).le lb150
 replace B134:=((B134.s q145).s q149).le lb150
 replace B135:=((B135.s q145).s q149).le lb150
 replace B4:=(B4.s q149).le lb150
 replace B5:=B5.le lb150
 replace OB0:=OB0.leO lb150.1
 exact ⟨(O135,(.slice A151 n151 c151)),ag3,⟨le,lr139,lx139,fun x hx=>hx,OB0,B1,(il hO135 (il hO134 (il hO5 (il hO4 (il hO3 (il hO2 (ir hO1))))))),B4,(il hO135 (il hO134 (il hO5 (ir hO4)))),B5,(il hO135 (il hO134 (ir hO5))),B134,(il hO135 (ir hO134)),B135,(ir hO135),k150.cast (by first | rfl | simp_all)⟩⟩
 replace le:=(((((((((le.t lb1).t lb2).t lb3).t lb4).t lb5).t lc131).t lb134).t lb135).s q136).s q137
 replace B1:=((((((((B1.le lb2).le lb3).le lb4).le lb5).le lc131).le lb134).le lb135).s q136).s q137
 replace B4:=(((((B4.le lb5).le lc131).le lb134).le lb135).s q136).s q137
 replace B5:=((((B5.le lc131).le lb134).le lb135).s q136).s q137
 replace B134:=B134.s q137
 rintro ⟨OL139,js138⟩ r hl139 ⟨le,lp139,la139,lb139,lo139,B1,mB1,B4,mB4,B5,mB5,B134,mB134,B135,mB135,kjs138⟩
 obtain ⟨A152,n152,c152,rfl⟩:=kjs138.frm
 have zl139:=lp139.1
 refine hw_rr ?_
 refine aQ rfl (.cons (bT B4) (.cons (bT B5) (.cons aU .nil))) ?_
 have hr:eO v t l = _:=((if_neg g27).trans ((if_neg g34).trans ((if_neg g46).trans ((if_neg g75).trans ((if_pos g118))))))
 replace k0:=((((((((((k0.nb lb1 hO1 eb1).nb lb2 hO2 eb2).nb lb3 hO3 eb3).nb lb4 hO4 eb4).nb lb5 hO5 eb5).le lc131).nb lb134 hO134 eb134).nb lb135 hO135 eb135).st q136 (il hO135 (ir hO134))).st q137 (ir hO135)).lp lp139 la139
 replace k131_1:=((((k131_1.nb lb134 hO134 eb134).nb lb135 hO135 eb135).st q136 (il hO135 (ir hO134))).st q137 (ir hO135)).lp lp139 la139
 replace k131_2:=((((k131_2.nb lb134 hO134 eb134).nb lb135 hO135 eb135).st q136 (il hO135 (ir hO134))).st q137 (ir hO135)).lp lp139 la139
 exact ⟨_,_,_,_,by first | rfl | (rw [hr] <;> rfl),le,(k0.wk (fun x hx=>(lb139 _ (il hO135 (il hO134 (il hO5 (il hO4 (il hO3 (il hO2 (il hO1 hx)))))))))).cast (by first | rfl | (rw [hr] <;> rfl)),(k131_1.wk (fun x hx=>(lb139 _ (il hO135 (il hO134 (il hO5 (il hO4 (il hO3 (il hO2 (il hO1 hx)))))))))).cast (by first | rfl | (rw [hr] <;> rfl)),(k131_2.wk (fun x hx=>(lb139 _ (il hO135 (il hO134 (il hO5 (il hO4 (il hO3 (il hO2 (il hO1 hx)))))))))).cast (by first | rfl | (rw [hr] <;> rfl)),(kjs138.wk (fun x hx=>(lb139 _ (il hO135 (il hO134 (il hO5 (il hO4 (il hO3 (il hO2 (il hO1 hx)))))))))).cast (by first | rfl | (rw [hr] <;> rfl))⟩
 refine aM ?_
 replace OB0:=((((OB0.leO lc131.1).newB sb134 hO134 eb134).newB sb135 hO135 eb135).leO (Nat.le_of_eq q136.1.symm)).leO (Nat.le_of_eq q137.1.symm)
 refine dH (fun (gx:(Nat → Prop) × Value)=>match gx with | (OL154,js153)=>[(6,.pointer (some ⟨b4,0,none⟩)),(7,.pointer (some ⟨b5,0,none⟩)),(8,js153)]) (fun (gx:(Nat → Prop) × Value) (h' : Heap)=>match gx with | (OL154,js153)=>Le h h' ∧ Mod O135 h137 h' ∧ (∀ x,OL154 x → O135 x ∨ h137.size ≤ x)∧(∀ x,O135 x → OL154 x)∧OB h' OL154∧Blk h' b1 [vi v.now,(.slice Ak0 nk0 ck0)] 52∧OL154 b1∧Blk h' b4 [vi v.now,(.slice Ak0 nk0 ck0)] 52∧OL154 b4∧Blk h' b5 [vb bX.seat.on,vb bX.seat.bad,vi bX.seat.work.at',(.slice A132 n132 c132),(.slice A133 n133 c133),vb bX.skip,vb bX.gone,vs bX.inn] 60∧OL154 b5∧Blk h' b134 [vb bX.seat.on,vb bX.seat.bad,vi bX.seat.work.at',(.slice A132 n132 c132),(.slice A133 n133 c133),vb bX.skip,vb bX.gone,vs bX.inn] 60∧OL154 b134∧Blk h' b135 [vs eL.sign,vs eL.body] 28∧OL154 b135∧Rs h' OL154 js153 ([(⟨[69],eE 1⟩:Letter),eL]:List Letter)) ?_ ?_
 replace lr154:=Mod.refl (S:=O135) h137
 replace lx154:∀ x,O135 x → O135 x ∨ h137.size ≤ x:=fun x hx=>.inl hx
 replace k0:=(((((((((k0.nb lb1 hO1 eb1).nb lb2 hO2 eb2).nb lb3 hO3 eb3).nb lb4 hO4 eb4).nb lb5 hO5 eb5).le lc131).nb lb134 hO134 eb134).nb lb135 hO135 eb135).st q136 (il hO135 (ir hO134))).st q137 (ir hO135)
 have Rk0:=k0
 replace k131_1:=(((k131_1.nb lb134 hO134 eb134).nb lb135 hO135 eb135).st q136 (il hO135 (ir hO134))).st q137 (ir hO135)
 have Rk131_1:=k131_1
 replace k131_2:=(((k131_2.nb lb134 hO134 eb134).nb lb135 hO135 eb135).st q136 (il hO135 (ir hO134))).st q137 (ir hO135)
 have Rk131_2:=k131_2
 obtain ⟨S155,hS155⟩:=mkO (fun b=>h137.size ≤ b ∨ b = b4 ∨ b = b5)
 replace mR155:Mod S155 h137 h137:=Mod.refl _
 have hd155:∀ b,b < h137.size∧¬ O135 b → ¬ S155 b:=fun b hb hs=>(fun hs=>hs.elim (fun hs=>absurd hb.1 (Nat.not_lt.2 hs)) (fun hs=>hs.elim (fun hs=>hb.2 (hs ▸ (il hO135 (il hO134 (il hO5 (ir hO4)))))) (fun hs=>hb.2 (hs ▸ (il hO135 (il hO134 (ir hO5))))))) ((hS155 b).1 hs)
 replace B1:=((((((((B1.le lb2).le lb3).le lb4).le lb5).le lc131).le lb134).le lb135).s q136).s q137
 replace B134:=B134.s q137
 refine bH 9 S155 bC (ha2_y 0 rfl (fun _ mm=>(y_loadB (Blk.mod B1 mm (fun hs=>by rcases (hS155 _).1 hs with hs | hs | hs <;> first | omega)) 0 _))<|ha2_y 1 rfl (fun _ mm=>(y_loadB (Blk.mod B134 mm (fun hs=>by rcases (hS155 _).1 hs with hs | hs | hs <;> first | omega)) 0 _))<|ha2_y 4 rfl (fun _ mm=>(y_loadB (Blk.mod B135 mm (fun hs=>by rcases (hS155 _).1 hs with hs | hs | hs <;> first | omega)) 0 _))<|?_)
 refine aW 2 (cC rfl aG (nX OB0) (fun v156 h156 q156=>?_))
 obtain ⟨rfl,lc156⟩:=q156
 have z156:=lc156.1
 refine ⟨Le.mod lc156,?_⟩
 refine ha2_p 3 rfl (fun _=>(y_build rfl rfl))<|?_
 refine dU 5 6 ?_ ?_
 refine cB rfl (bA (l:=([(⟨[69],eE 1⟩:Letter),eL]:List Letter))) (fun v157 h157 q157=>?_)
 obtain ⟨lb157,ow157,sb157⟩:=q157
 have z157:=lb157.1
 refine ⟨Le.mod lb157,?_⟩
 replace OB0:=OB0.leO lc156.1
 replace k157:Rs _ O135 _ _:=Ow.end ⟨ow157,aDu⟩ OB0
 obtain ⟨A158,n158,c158,rfl⟩:=k157.frm
 replace B4:=(((((((B4.le lb5).le lc131).le lb134).le lb135).s q136).s q137).le lc156).le lb157
 refine aW 6 (cY rfl (aK aP B4) (fun v159 h159 q159=>?_))
 obtain ⟨rfl,q159⟩:=q159
 have z159:=q159.1
 have ms:=mm hS155 q159.2.1
 refine ⟨ms,?_⟩
 replace B4:=q159.2.2
 replace B5:=(((((((B5.le lc131).le lb134).le lb135).s q136).s q137).le lc156).le lb157).s q159
 refine aW 7 (cY rfl (aK aP B5) (fun v160 h160 q160=>?_))
 replace lr154:=((lr154.tl lc156).tl lb157).stO q159 (il hO135 (il hO134 (il hO5 (ir hO4))))
 obtain ⟨rfl,q160⟩:=q160
 have z160:=q160.1
 replace mR155:=((mR155.tl lc156).tl lb157).t ms
 have ms:=mm hS155 q160.2.1
 refine ⟨ms,?_⟩
 replace B5:=q160.2.2
 replace lr154:=lr154.stO q160 (il hO135 (il hO134 (ir hO5)))
 refine bG 8 rfl (fun _=>aC)<|bD ?_
 replace le:=(((((((((((((le.t lb1).t lb2).t lb3).t lb4).t lb5).t lc131).t lb134).t lb135).s q136).s q137).t lc156).t lb157).s q159).s q160
 replace B1:=(((B1.le lc156).le lb157).s q159).s q160
 replace B134:=(((B134.le lc156).le lb157).s q159).s q160
 replace B135:=(((B135.le lc156).le lb157).s q159).s q160
 replace B4:=B4.s q160
 replace k157:=(k157.st q159 (il hO135 (il hO134 (il hO5 (ir hO4))))).st q160 (il hO135 (il hO134 (ir hO5)))
 replace OB0:=OB0.leO (h':=h160) (by omega)
 exact ⟨(O135,(.slice A158 n158 c158)),ag3,⟨le,lr154,lx154,fun x hx=>hx,OB0,B1,(il hO135 (il hO134 (il hO5 (il hO4 (il hO3 (il hO2 (ir hO1))))))),B4,(il hO135 (il hO134 (il hO5 (ir hO4)))),B5,(il hO135 (il hO134 (ir hO5))),B134,(il hO135 (ir hO134)),B135,(ir hO135),k157.cast (by first | rfl | simp_all)⟩⟩
 replace B4:=((((((B4.le lb5).le lc131).le lb134).le lb135).s q136).s q137).le lc156
 refine cY rfl (aK aP B4) (fun v161 h161 q161=>?_)
 obtain ⟨rfl,q161⟩:=q161
 have z161:=q161.1
 have ms:=mm hS155 q161.2.1
 refine ⟨ms,?_⟩
 replace B4:=q161.2.2
 refine dU 5 7 ?_ ?_
 refine cB rfl (bA (l:=([(⟨[69],eE 1⟩:Letter),eL]:List Letter))) (fun v162 h162 q162=>?_)
 obtain ⟨lb162,ow162,sb162⟩:=q162
 have z162:=lb162.1
 refine ⟨Le.mod lb162,?_⟩
 replace OB0:=OB0.leO (h':=h161) (by omega)
 replace k162:Rs _ O135 _ _:=Ow.end ⟨ow162,aDu⟩ OB0
 replace lr154:=((lr154.tl lc156).stO q161 (il hO135 (il hO134 (il hO5 (ir hO4))))).tl lb162
 obtain ⟨A163,n163,c163,rfl⟩:=k162.frm
 replace B5:=(((((((B5.le lc131).le lb134).le lb135).s q136).s q137).le lc156).s q161).le lb162
 refine aW 7 (cY rfl (aK aP B5) (fun v164 h164 q164=>?_))
 obtain ⟨rfl,q164⟩:=q164
 have z164:=q164.1
 replace mR155:=((mR155.tl lc156).t ms).tl lb162
 have ms:=mm hS155 q164.2.1
 refine ⟨ms,?_⟩
 replace B5:=q164.2.2
 replace lr154:=lr154.stO q164 (il hO135 (il hO134 (ir hO5)))
 refine bG 8 rfl (fun _=>aC)<|bD ?_
 replace le:=(((((((((((((le.t lb1).t lb2).t lb3).t lb4).t lb5).t lc131).t lb134).t lb135).s q136).s q137).t lc156).s q161).t lb162).s q164
 replace B1:=(((B1.le lc156).s q161).le lb162).s q164
 replace B134:=(((B134.le lc156).s q161).le lb162).s q164
 replace B135:=(((B135.le lc156).s q161).le lb162).s q164
 replace B4:=(B4.le lb162).s q164
 replace k162:=k162.st q164 (il hO135 (il hO134 (ir hO5)))
 replace OB0:=OB0.leO (h':=h164) (by omega)
 exact ⟨(O135,(.slice A163 n163 c163)),ag3,⟨le,lr154,lx154,fun x hx=>hx,OB0,B1,(il hO135 (il hO134 (il hO5 (il hO4 (il hO3 (il hO2 (ir hO1))))))),B4,(il hO135 (il hO134 (il hO5 (ir hO4)))),B5,(il hO135 (il hO134 (ir hO5))),B134,(il hO135 (ir hO134)),B135,(ir hO135),k162.cast (by first | rfl | simp_all)⟩⟩
 replace B5:=((((((B5.le lc131).le lb134).le lb135).s q136).s q137).le lc156).s q161
 refine cY rfl (aK aP B5) (fun v165 h165 q165=>?_)
 replace lr154:=(lr154.tl lc156).stO q161 (il hO135 (il hO134 (il hO5 (ir hO4))))
 obtain ⟨rfl,q165⟩:=q165
 have z165:=q165.1
 replace mR155:=(mR155.tl lc156).t ms
 have ms:=mm hS155 q165.2.1
 refine ⟨ms,?_⟩
 replace B5:=q165.2.2
 refine aW 5 (?_)
 refine cB rfl (bA (l:=([(⟨[69],eE 1⟩:Letter),eL]:List Letter))) (fun v166 h166 q166=>?_)
 obtain ⟨lb166,ow166,sb166⟩:=q166
 have z166:=lb166.1
 refine ⟨Le.mod lb166,?_⟩
 replace OB0:=OB0.leO (h':=h165) (by omega)
 replace k166:Rs _ O135 _ _:=Ow.end ⟨ow166,aDu⟩ OB0
 replace lr154:=(lr154.stO q165 (il hO135 (il hO134 (ir hO5)))).tl lb166
 obtain ⟨A167,n167,c167,rfl⟩:=k166.frm
 refine bG 8 rfl (fun _=>aC)<|bD ?_
 replace le:=(((((((((((((le.t lb1).t lb2).t lb3).t lb4).t lb5).t lc131).t lb134).t lb135).s q136).s q137).t lc156).s q161).s q165).t lb166
 replace B1:=(((B1.le lc156).s q161).s q165).le lb166
 replace B134:=(((B134.le lc156).s q161).s q165).le lb166
 replace B135:=(((B135.le lc156).s q161).s q165).le lb166
 replace B4:=(B4.s q165).le lb166
 replace B5:=B5.le lb166
 replace OB0:=OB0.leO lb166.1
 exact ⟨(O135,(.slice A167 n167 c167)),ag3,⟨le,lr154,lx154,fun x hx=>hx,OB0,B1,(il hO135 (il hO134 (il hO5 (il hO4 (il hO3 (il hO2 (ir hO1))))))),B4,(il hO135 (il hO134 (il hO5 (ir hO4)))),B5,(il hO135 (il hO134 (ir hO5))),B134,(il hO135 (ir hO134)),B135,(ir hO135),k166.cast (by first | rfl | simp_all)⟩⟩
 replace le:=(((((((((le.t lb1).t lb2).t lb3).t lb4).t lb5).t lc131).t lb134).t lb135).s q136).s q137
 replace B1:=((((((((B1.le lb2).le lb3).le lb4).le lb5).le lc131).le lb134).le lb135).s q136).s q137
 replace B4:=(((((B4.le lb5).le lc131).le lb134).le lb135).s q136).s q137
 replace B5:=((((B5.le lc131).le lb134).le lb135).s q136).s q137
 replace B134:=B134.s q137
 rintro ⟨OL154,js153⟩ r hl154 ⟨le,lp154,la154,lb154,lo154,B1,mB1,B4,mB4,B5,mB5,B134,mB134,B135,mB135,kjs153⟩
 obtain ⟨A168,n168,c168,rfl⟩:=kjs153.frm
 have zl154:=lp154.1
 refine hw_rr ?_
 refine aQ rfl (.cons (bT B4) (.cons (bT B5) (.cons aU .nil))) ?_
 have hr:eO v t l = _:=((if_neg g27).trans ((if_neg g34).trans ((if_neg g46).trans ((if_neg g75).trans ((if_neg g118))))))
 replace k0:=((((((((((k0.nb lb1 hO1 eb1).nb lb2 hO2 eb2).nb lb3 hO3 eb3).nb lb4 hO4 eb4).nb lb5 hO5 eb5).le lc131).nb lb134 hO134 eb134).nb lb135 hO135 eb135).st q136 (il hO135 (ir hO134))).st q137 (ir hO135)).lp lp154 la154
 replace k131_1:=((((k131_1.nb lb134 hO134 eb134).nb lb135 hO135 eb135).st q136 (il hO135 (ir hO134))).st q137 (ir hO135)).lp lp154 la154
 replace k131_2:=((((k131_2.nb lb134 hO134 eb134).nb lb135 hO135 eb135).st q136 (il hO135 (ir hO134))).st q137 (ir hO135)).lp lp154 la154
 exact ⟨_,_,_,_,by first | rfl | (rw [hr] <;> rfl),le,(k0.wk (fun x hx=>(lb154 _ (il hO135 (il hO134 (il hO5 (il hO4 (il hO3 (il hO2 (il hO1 hx)))))))))).cast (by first | rfl | (rw [hr] <;> rfl)),(k131_1.wk (fun x hx=>(lb154 _ (il hO135 (il hO134 (il hO5 (il hO4 (il hO3 (il hO2 (il hO1 hx)))))))))).cast (by first | rfl | (rw [hr] <;> rfl)),(k131_2.wk (fun x hx=>(lb154 _ (il hO135 (il hO134 (il hO5 (il hO4 (il hO3 (il hO2 (il hO1 hx)))))))))).cast (by first | rfl | (rw [hr] <;> rfl)),(kjs153.wk (fun x hx=>(lb154 _ (il hO135 (il hO134 (il hO5 (il hO4 (il hO3 (il hO2 (il hO1 hx)))))))))).cast (by first | rfl | (rw [hr] <;> rfl))⟩
end
section
open Go.Conc
set_option maxHeartbeats 1000000 in
theorem tT {w0:World} {h:Heap} {O:Nat → Prop} {v:cD} {k0v:Value} {t:cS} {k1v:Value} {k2v:Value} {l:Letter} (k0:Rs h O k0v v.list) (k1:Rs h O k1v t.seat.work.writes) (k2:Rs h O k2v t.names) (OB0:OB h O) (s0:SB t.inn:=by first | assumption | omega | (simp; done) | (simp; omega)) (s1:SB l.sign:=by first | assumption | omega | (simp; done) | (simp; omega)) (s2:SB l.body:=by first | assumption | omega | (simp; done) | (simp; omega)) (hn:t.names.length ≤ 100000:=by first | assumption | omega | (dsimp only; omega)) (hl:l.body.length ≤ 1000000:=by first | assumption | omega | (dsimp only; omega)):HC (XM PP) w0 53 [.agg #[vi v.now,k0v],.agg #[vb t.seat.on,vb t.seat.bad,vi t.seat.work.at',k1v,k2v,vb t.skip,vb t.gone,vs t.inn],.agg #[vs l.sign,vs l.body]].toArray h (fun rv h'=>∃ (s1 s2 s3 s4:Value),rv = .tuple #[.agg #[vi (((bJ v t l).1).now),s1],.agg #[vb (((bJ v t l).2.1).seat.on),vb (((bJ v t l).2.1).seat.bad),vi (((bJ v t l).2.1).seat.work.at'),s2,s3,vb (((bJ v t l).2.1).skip),vb (((bJ v t l).2.1).gone),vs (((bJ v t l).2.1).inn)],s4]∧Le h h' ∧ Rs h' O s1 (((bJ v t l).1).list)∧Rs h' O s2 (((bJ v t l).2.1).seat.work.writes)∧Rs h' O s3 (((bJ v t l).2.1).names)∧Rs h' O s4 ((bJ v t l).2.2)):=by
 obtain ⟨Ak0,nk0,ck0,rfl⟩:=k0.frm
 obtain ⟨Ak1,nk1,ck1,rfl⟩:=k1.frm
 obtain ⟨Ak2,nk2,ck2,rfl⟩:=k2.frm
 replace le:=Le.refl h
 have OBe:=OB0
 refine aV 41 [(0,.agg #[vi v.now,(.slice Ak0 nk0 ck0)]),(1,.agg #[vb t.seat.on,vb t.seat.bad,vi t.seat.work.at',(.slice Ak1 nk1 ck1),(.slice Ak2 nk2 ck2),vb t.skip,vb t.gone,vs t.inn]),(2,.agg #[vs l.sign,vs l.body])] Tryz.func53 (fun r=>?_)
 refine hw_sr (bE cW (fun v1 h1 q1=>?_))
 obtain ⟨b1,O1,rfl,eb1,sb1,lb1,B1,hO1⟩:=q1.ox O
 refine bE cW (fun v2 h2 q2=>?_)
 obtain ⟨b2,O2,rfl,eb2,sb2,lb2,B2,hO2⟩:=q2.ox O1
 refine bE cW (fun v3 h3 q3=>?_)
 obtain ⟨b3,O3,rfl,eb3,sb3,lb3,B3,hO3⟩:=q3.ox O2
 refine bE aY (fun v4 h4 q4=>?_)
 obtain ⟨b4,O4,rfl,eb4,sb4,lb4,B4,hO4⟩:=q4.ox O3
 refine bE aY (fun v5 h5 q5=>?_)
 obtain ⟨b5,O5,rfl,eb5,sb5,lb5,B5,hO5⟩:=q5.ox O4
 refine aB aC<|aD ?_
 refine aF (ah5 3 4 5 6 7) fun r=>?_
 refine aI ?_
 refine aX ?_
 refine aI ?_
 replace B2:=((B2.le lb3).le lb4).le lb5
 refine aE (aB y_fieldAddr<|aB (y_load (Blk.at B2 rfl rfl))<|aB y_move<|?_)
 refine bB 13 [(3,.pointer (some ⟨b1,0,none⟩)),(4,.pointer (some ⟨b2,0,none⟩)),(5,.pointer (some ⟨b3,0,none⟩)),(6,.pointer (some ⟨b4,0,none⟩)),(7,.pointer (some ⟨b5,0,none⟩)),(25,vb (t.gone || ((t.skip && (!decide (l.sign = [83]))) && (!decide (l.sign = [88])))))] (fun r=>?_) (fun jn=>?_)
 refine aB aC<|aD ?_
 refine bF (fun g9=>?_) (fun g9=>?_)
 have g9':=g9
 simp at g9'
 refine dH (fun (gx:(Nat → Prop) × Value)=>match gx with | (OL7,js6)=>[(6,.pointer (some ⟨b4,0,none⟩)),(7,.pointer (some ⟨b5,0,none⟩)),(8,js6)]) (fun (gx:(Nat → Prop) × Value) (h' : Heap)=>match gx with | (OL7,js6)=>Le h h' ∧ Mod O5 h5 h' ∧ (∀ x,OL7 x → O5 x ∨ h5.size ≤ x)∧(∀ x,O5 x → OL7 x)∧OB h' OL7∧Blk h' b1 [vi v.now,(.slice Ak0 nk0 ck0)] 52∧OL7 b1∧Blk h' b2 [vb t.seat.on,vb t.seat.bad,vi t.seat.work.at',(.slice Ak1 nk1 ck1),(.slice Ak2 nk2 ck2),vb t.skip,vb t.gone,vs t.inn] 60∧OL7 b2∧Blk h' b4 [vi v.now,(.slice Ak0 nk0 ck0)] 52∧OL7 b4∧Blk h' b5 [vb t.seat.on,vb t.seat.bad,vi t.seat.work.at',(.slice Ak1 nk1 ck1),(.slice Ak2 nk2 ck2),vb t.skip,vb t.gone,vs t.inn] 60∧OL7 b5∧Rs h' OL7 js6 ([]:List Letter)) ?_ ?_
 replace lr7:=Mod.refl (S:=O5) h5
 replace lx7:∀ x,O5 x → O5 x ∨ h5.size ≤ x:=fun x hx=>.inl hx
 replace k0:=((((k0.nb lb1 hO1 eb1).nb lb2 hO2 eb2).nb lb3 hO3 eb3).nb lb4 hO4 eb4).nb lb5 hO5 eb5
 have Rk0:=k0
 replace k1:=((((k1.nb lb1 hO1 eb1).nb lb2 hO2 eb2).nb lb3 hO3 eb3).nb lb4 hO4 eb4).nb lb5 hO5 eb5
 have Rk1:=k1
 replace k2:=((((k2.nb lb1 hO1 eb1).nb lb2 hO2 eb2).nb lb3 hO3 eb3).nb lb4 hO4 eb4).nb lb5 hO5 eb5
 have Rk2:=k2
 obtain ⟨S8,hS8⟩:=mkO (fun b=>h5.size ≤ b ∨ b = b4 ∨ b = b5)
 replace mR8:Mod S8 h5 h5:=Mod.refl _
 have hd8:∀ b,b < h5.size∧¬ O5 b → ¬ S8 b:=fun b hb hs=>(fun hs=>hs.elim (fun hs=>absurd hb.1 (Nat.not_lt.2 hs)) (fun hs=>hs.elim (fun hs=>hb.2 (hs ▸ (il hO5 (ir hO4)))) (fun hs=>hb.2 (hs ▸ (ir hO5))))) ((hS8 b).1 hs)
 replace B1:=(((B1.le lb2).le lb3).le lb4).le lb5
 refine bH 6 S8 bC (ha2_y 0 rfl (fun _ mm=>(y_loadB (Blk.mod B1 mm (fun hs=>by rcases (hS8 _).1 hs with hs | hs | hs <;> first | omega)) 0 _))<|ha2_y 1 rfl (fun _ mm=>(y_loadB (Blk.mod B2 mm (fun hs=>by rcases (hS8 _).1 hs with hs | hs | hs <;> first | omega)) 0 _))<|?_)
 refine dU 2 3 ?_ ?_
 refine cB rfl (bA (l:=([]:List Letter))) (fun v9 h9 q9=>?_)
 obtain ⟨lb9,ow9,sb9⟩:=q9
 have z9:=lb9.1
 refine ⟨Le.mod lb9,?_⟩
 replace OB0:=((((OB0.newB sb1 hO1 eb1).newB sb2 hO2 eb2).newB sb3 hO3 eb3).newB sb4 hO4 eb4).newB sb5 hO5 eb5
 replace k9:Rs _ O5 _ _:=Ow.end ⟨ow9,OkL.nil⟩ OB0
 obtain ⟨A10,n10,c10,rfl⟩:=k9.frm
 replace B4:=(B4.le lb5).le lb9
 refine aW 3 (cY rfl (aK aP B4) (fun v11 h11 q11=>?_))
 obtain ⟨rfl,q11⟩:=q11
 have z11:=q11.1
 have ms:=mm hS8 q11.2.1
 refine ⟨ms,?_⟩
 replace B4:=q11.2.2
 replace B5:=(B5.le lb9).s q11
 refine aW 4 (cY rfl (aK aP B5) (fun v12 h12 q12=>?_))
 replace lr7:=(lr7.tl lb9).stO q11 (il hO5 (ir hO4))
 obtain ⟨rfl,q12⟩:=q12
 have z12:=q12.1
 replace mR8:=(mR8.tl lb9).t ms
 have ms:=mm hS8 q12.2.1
 refine ⟨ms,?_⟩
 replace B5:=q12.2.2
 replace lr7:=lr7.stO q12 (ir hO5)
 refine bG 5 rfl (fun _=>aC)<|bD ?_
 replace le:=(((((((le.t lb1).t lb2).t lb3).t lb4).t lb5).t lb9).s q11).s q12
 replace B1:=((B1.le lb9).s q11).s q12
 replace B2:=((B2.le lb9).s q11).s q12
 replace B4:=B4.s q12
 replace k9:=(k9.st q11 (il hO5 (ir hO4))).st q12 (ir hO5)
 replace OB0:=OB0.leO (h':=h12) (by omega)
 exact ⟨(O5,(.slice A10 n10 c10)),ag3,⟨le,lr7,lx7,fun x hx=>hx,OB0,B1,(il hO5 (il hO4 (il hO3 (il hO2 (ir hO1))))),B2,(il hO5 (il hO4 (il hO3 (ir hO2)))),B4,(il hO5 (ir hO4)),B5,(ir hO5),k9.cast (by first | rfl | simp_all)⟩⟩
 replace B4:=B4.le lb5
 refine cY rfl (aK aP B4) (fun v13 h13 q13=>?_)
 obtain ⟨rfl,q13⟩:=q13
 have z13:=q13.1
 have ms:=mm hS8 q13.2.1
 refine ⟨ms,?_⟩
 replace B4:=q13.2.2
 refine dU 2 4 ?_ ?_
 refine cB rfl (bA (l:=([]:List Letter))) (fun v14 h14 q14=>?_)
 obtain ⟨lb14,ow14,sb14⟩:=q14
 have z14:=lb14.1
 refine ⟨Le.mod lb14,?_⟩
 replace OB0:=(((((OB0.newB sb1 hO1 eb1).newB sb2 hO2 eb2).newB sb3 hO3 eb3).newB sb4 hO4 eb4).newB sb5 hO5 eb5).leO (Nat.le_of_eq q13.1.symm)
 replace k14:Rs _ O5 _ _:=Ow.end ⟨ow14,OkL.nil⟩ OB0
 replace lr7:=(lr7.stO q13 (il hO5 (ir hO4))).tl lb14
 obtain ⟨A15,n15,c15,rfl⟩:=k14.frm
 replace B5:=(B5.s q13).le lb14
 refine aW 4 (cY rfl (aK aP B5) (fun v16 h16 q16=>?_))
 obtain ⟨rfl,q16⟩:=q16
 have z16:=q16.1
 replace mR8:=(mR8.t ms).tl lb14
 have ms:=mm hS8 q16.2.1
 refine ⟨ms,?_⟩
 replace B5:=q16.2.2
 replace lr7:=lr7.stO q16 (ir hO5)
 refine bG 5 rfl (fun _=>aC)<|bD ?_
 replace le:=(((((((le.t lb1).t lb2).t lb3).t lb4).t lb5).s q13).t lb14).s q16
 replace B1:=((B1.s q13).le lb14).s q16
 replace B2:=((B2.s q13).le lb14).s q16
 replace B4:=(B4.le lb14).s q16
 replace k14:=k14.st q16 (ir hO5)
 replace OB0:=OB0.leO (h':=h16) (by omega)
 exact ⟨(O5,(.slice A15 n15 c15)),ag3,⟨le,lr7,lx7,fun x hx=>hx,OB0,B1,(il hO5 (il hO4 (il hO3 (il hO2 (ir hO1))))),B2,(il hO5 (il hO4 (il hO3 (ir hO2)))),B4,(il hO5 (ir hO4)),B5,(ir hO5),k14.cast (by first | rfl | simp_all)⟩⟩
 replace B5:=B5.s q13
 refine cY rfl (aK aP B5) (fun v17 h17 q17=>?_)
 replace lr7:=lr7.stO q13 (il hO5 (ir hO4))
 obtain ⟨rfl,q17⟩:=q17
 have z17:=q17.1
 replace mR8:=mR8.t ms
 have ms:=mm hS8 q17.2.1
 refine ⟨ms,?_⟩
 replace B5:=q17.2.2
 refine aW 2 (?_)
 refine cB rfl (bA (l:=([]:List Letter))) (fun v18 h18 q18=>?_)
 obtain ⟨lb18,ow18,sb18⟩:=q18
 have z18:=lb18.1
 refine ⟨Le.mod lb18,?_⟩
 replace OB0:=((((((OB0.newB sb1 hO1 eb1).newB sb2 hO2 eb2).newB sb3 hO3 eb3).newB sb4 hO4 eb4).newB sb5 hO5 eb5).leO (Nat.le_of_eq q13.1.symm)).leO (Nat.le_of_eq q17.1.symm)
 replace k18:Rs _ O5 _ _:=Ow.end ⟨ow18,OkL.nil⟩ OB0
 replace lr7:=(lr7.stO q17 (ir hO5)).tl lb18
 obtain ⟨A19,n19,c19,rfl⟩:=k18.frm
 refine bG 5 rfl (fun _=>aC)<|bD ?_
 replace le:=(((((((le.t lb1).t lb2).t lb3).t lb4).t lb5).s q13).s q17).t lb18
 replace B1:=((B1.s q13).s q17).le lb18
 replace B2:=((B2.s q13).s q17).le lb18
 replace B4:=(B4.s q17).le lb18
 replace B5:=B5.le lb18
 replace OB0:=OB0.leO lb18.1
 exact ⟨(O5,(.slice A19 n19 c19)),ag3,⟨le,lr7,lx7,fun x hx=>hx,OB0,B1,(il hO5 (il hO4 (il hO3 (il hO2 (ir hO1))))),B2,(il hO5 (il hO4 (il hO3 (ir hO2)))),B4,(il hO5 (ir hO4)),B5,(ir hO5),k18.cast (by first | rfl | simp_all)⟩⟩
 replace le:=((((le.t lb1).t lb2).t lb3).t lb4).t lb5
 replace B1:=(((B1.le lb2).le lb3).le lb4).le lb5
 replace B4:=B4.le lb5
 rintro ⟨OL7,js6⟩ r hl7 ⟨le,lp7,la7,lb7,lo7,B1,mB1,B2,mB2,B4,mB4,B5,mB5,kjs6⟩
 obtain ⟨A20,n20,c20,rfl⟩:=kjs6.frm
 have zl7:=lp7.1
 refine hw_rr ?_
 refine aQ rfl (.cons (bT B4) (.cons (bT B5) (.cons aU .nil))) ?_
 have hr:bJ v t l = _:=if_pos g9
 replace k0:=(((((k0.nb lb1 hO1 eb1).nb lb2 hO2 eb2).nb lb3 hO3 eb3).nb lb4 hO4 eb4).nb lb5 hO5 eb5).lp lp7 la7
 replace k1:=(((((k1.nb lb1 hO1 eb1).nb lb2 hO2 eb2).nb lb3 hO3 eb3).nb lb4 hO4 eb4).nb lb5 hO5 eb5).lp lp7 la7
 replace k2:=(((((k2.nb lb1 hO1 eb1).nb lb2 hO2 eb2).nb lb3 hO3 eb3).nb lb4 hO4 eb4).nb lb5 hO5 eb5).lp lp7 la7
 exact ⟨_,_,_,_,by first | rfl | (rw [hr] <;> rfl),le,(k0.wk (fun x hx=>(lb7 _ (il hO5 (il hO4 (il hO3 (il hO2 (il hO1 hx)))))))).cast (by first | rfl | (rw [hr] <;> rfl)),(k1.wk (fun x hx=>(lb7 _ (il hO5 (il hO4 (il hO3 (il hO2 (il hO1 hx)))))))).cast (by first | rfl | (rw [hr] <;> rfl)),(k2.wk (fun x hx=>(lb7 _ (il hO5 (il hO4 (il hO3 (il hO2 (il hO1 hx)))))))).cast (by first | rfl | (rw [hr] <;> rfl)),(kjs6.wk (fun x hx=>(lb7 _ (il hO5 (il hO4 (il hO3 (il hO2 (il hO1 hx)))))))).cast (by first | rfl | (rw [hr] <;> rfl))⟩
 have g9':=g9
 simp at g9'
 refine aI ?_
 replace B3:=(B3.le lb4).le lb5
 refine aE (aB y_fieldAddr<|aB (y_load (Blk.at B3 rfl rfl))<|aB y_seql<|aB aC<|aD ?_)
 refine aF (ah6 3 4 5 6 7 29) fun r=>?_
 refine aZ (fun g29=>?_) (fun g29=>?_)
 refine aE (aB y_fieldAddr<|bO (aK aP B2) (fun v21 h21 q21=>?_))
 obtain ⟨rfl,q21⟩:=q21
 have z21:=q21.1
 replace B2:=q21.2.2
 refine aD ?_
 refine aI ?_
 replace B1:=((((B1.le lb2).le lb3).le lb4).le lb5).s q21
 replace B3:=B3.s q21
 refine aE (aB (y_loadB B1 0 _)<|aB (y_loadB B2 0 _)<|aB (y_loadB B3 0 _)<|?_)
 replace k0:=(((((k0.nb lb1 hO1 eb1).nb lb2 hO2 eb2).nb lb3 hO3 eb3).nb lb4 hO4 eb4).nb lb5 hO5 eb5).st q21 (il hO5 (il hO4 (il hO3 (ir hO2))))
 replace k1:=(((((k1.nb lb1 hO1 eb1).nb lb2 hO2 eb2).nb lb3 hO3 eb3).nb lb4 hO4 eb4).nb lb5 hO5 eb5).st q21 (il hO5 (il hO4 (il hO3 (ir hO2))))
 replace k2:=(((((k2.nb lb1 hO1 eb1).nb lb2 hO2 eb2).nb lb3 hO3 eb3).nb lb4 hO4 eb4).nb lb5 hO5 eb5).st q21 (il hO5 (il hO4 (il hO3 (ir hO2))))
 replace OB0:=(((((OB0.newB sb1 hO1 eb1).newB sb2 hO2 eb2).newB sb3 hO3 eb3).newB sb4 hO4 eb4).newB sb5 hO5 eb5).leO (Nat.le_of_eq q21.1.symm)
 refine bL aG (aCZ (v:=v) (t:=(⟨t.seat,t.names,false,t.gone,t.inn⟩:cS)) (l:=l) k0 k1 k2 OB0) (fun v22 h22 q22=>?_)
 obtain ⟨s22_1,s22_2,s22_3,s22_4,rfl,lc22,k22_1,k22_2,k22_3,k22_4⟩:=q22
 have z22:=lc22.1
 obtain ⟨A23,n23,c23,rfl⟩:=k22_1.frm
 obtain ⟨A24,n24,c24,rfl⟩:=k22_2.frm
 obtain ⟨A25,n25,c25,rfl⟩:=k22_3.frm
 obtain ⟨A26,n26,c26,rfl⟩:=k22_4.frm
 replace B4:=((B4.le lb5).s q21).le lc22
 refine aB aL<|aB aL<|aB aL<|bO (aK aP B4) (fun v27 h27 q27=>?_)
 obtain ⟨rfl,q27⟩:=q27
 have z27:=q27.1
 replace B4:=q27.2.2
 replace B5:=((B5.s q21).le lc22).s q27
 refine bO (aK aP B5) (fun v28 h28 q28=>?_)
 obtain ⟨rfl,q28⟩:=q28
 have z28:=q28.1
 replace B5:=q28.2.2
 refine aB aC<|aD ?_
 refine aF (ah3 6 7 8) fun r=>?_
 refine hw_rr ?_
 replace B4:=B4.s q28
 refine aQ rfl (.cons (bT B4) (.cons (bT B5) (.cons aU .nil))) ?_
 have hr:bJ v t l = _:=(if_neg (neF g9)).trans (if_pos g29)
 replace le:=((((((((le.t lb1).t lb2).t lb3).t lb4).t lb5).s q21).t lc22).s q27).s q28
 replace k22_1:=(k22_1.st q27 (il hO5 (ir hO4))).st q28 (ir hO5)
 replace k22_2:=(k22_2.st q27 (il hO5 (ir hO4))).st q28 (ir hO5)
 replace k22_3:=(k22_3.st q27 (il hO5 (ir hO4))).st q28 (ir hO5)
 replace k22_4:=(k22_4.st q27 (il hO5 (ir hO4))).st q28 (ir hO5)
 exact ⟨_,_,_,_,by first | rfl | (rw [hr] <;> rfl),le,(k22_1.wk (fun x hx=>(il hO5 (il hO4 (il hO3 (il hO2 (il hO1 hx))))))).cast (by first | rfl | (rw [hr] <;> rfl)),(k22_2.wk (fun x hx=>(il hO5 (il hO4 (il hO3 (il hO2 (il hO1 hx))))))).cast (by first | rfl | (rw [hr] <;> rfl)),(k22_3.wk (fun x hx=>(il hO5 (il hO4 (il hO3 (il hO2 (il hO1 hx))))))).cast (by first | rfl | (rw [hr] <;> rfl)),(k22_4.wk (fun x hx=>(il hO5 (il hO4 (il hO3 (il hO2 (il hO1 hx))))))).cast (by first | rfl | (rw [hr] <;> rfl))⟩
 refine aM ?_
 refine aI ?_
 replace B1:=(((B1.le lb2).le lb3).le lb4).le lb5
 refine aE (aB (y_loadB B1 0 _)<|aB (y_loadB B2 0 _)<|aB (y_loadB B3 0 _)<|?_)
 replace k0:=((((k0.nb lb1 hO1 eb1).nb lb2 hO2 eb2).nb lb3 hO3 eb3).nb lb4 hO4 eb4).nb lb5 hO5 eb5
 replace k1:=((((k1.nb lb1 hO1 eb1).nb lb2 hO2 eb2).nb lb3 hO3 eb3).nb lb4 hO4 eb4).nb lb5 hO5 eb5
 replace k2:=((((k2.nb lb1 hO1 eb1).nb lb2 hO2 eb2).nb lb3 hO3 eb3).nb lb4 hO4 eb4).nb lb5 hO5 eb5
 replace OB0:=((((OB0.newB sb1 hO1 eb1).newB sb2 hO2 eb2).newB sb3 hO3 eb3).newB sb4 hO4 eb4).newB sb5 hO5 eb5
 refine bL aG (aCZ (v:=v) (t:=t) (l:=l) k0 k1 k2 OB0) (fun v29 h29 q29=>?_)
 obtain ⟨s29_1,s29_2,s29_3,s29_4,rfl,lc29,k29_1,k29_2,k29_3,k29_4⟩:=q29
 have z29:=lc29.1
 obtain ⟨A30,n30,c30,rfl⟩:=k29_1.frm
 obtain ⟨A31,n31,c31,rfl⟩:=k29_2.frm
 obtain ⟨A32,n32,c32,rfl⟩:=k29_3.frm
 obtain ⟨A33,n33,c33,rfl⟩:=k29_4.frm
 replace B4:=(B4.le lb5).le lc29
 refine aB aL<|aB aL<|aB aL<|bO (aK aP B4) (fun v34 h34 q34=>?_)
 obtain ⟨rfl,q34⟩:=q34
 have z34:=q34.1
 replace B4:=q34.2.2
 replace B5:=(B5.le lc29).s q34
 refine bO (aK aP B5) (fun v35 h35 q35=>?_)
 obtain ⟨rfl,q35⟩:=q35
 have z35:=q35.1
 replace B5:=q35.2.2
 refine aB aC<|aD ?_
 refine aF (ah3 6 7 8) fun r=>?_
 refine hw_rr ?_
 replace B4:=B4.s q35
 refine aQ rfl (.cons (bT B4) (.cons (bT B5) (.cons aU .nil))) ?_
 have hr:bJ v t l = _:=(if_neg (neF g9)).trans (if_neg g29)
 replace le:=(((((((le.t lb1).t lb2).t lb3).t lb4).t lb5).t lc29).s q34).s q35
 replace k29_1:=(k29_1.st q34 (il hO5 (ir hO4))).st q35 (ir hO5)
 replace k29_2:=(k29_2.st q34 (il hO5 (ir hO4))).st q35 (ir hO5)
 replace k29_3:=(k29_3.st q34 (il hO5 (ir hO4))).st q35 (ir hO5)
 replace k29_4:=(k29_4.st q34 (il hO5 (ir hO4))).st q35 (ir hO5)
 exact ⟨_,_,_,_,by first | rfl | (rw [hr] <;> rfl),le,(k29_1.wk (fun x hx=>(il hO5 (il hO4 (il hO3 (il hO2 (il hO1 hx))))))).cast (by first | rfl | (rw [hr] <;> rfl)),(k29_2.wk (fun x hx=>(il hO5 (il hO4 (il hO3 (il hO2 (il hO1 hx))))))).cast (by first | rfl | (rw [hr] <;> rfl)),(k29_3.wk (fun x hx=>(il hO5 (il hO4 (il hO3 (il hO2 (il hO1 hx))))))).cast (by first | rfl | (rw [hr] <;> rfl)),(k29_4.wk (fun x hx=>(il hO5 (il hO4 (il hO3 (il hO2 (il hO1 hx))))))).cast (by first | rfl | (rw [hr] <;> rfl))⟩
 refine eT (b:=t.gone) (fun g12=>?_) (fun g12=>?_)
 refine aN (neT g12)<|aN (neT g12)<|aN (neT g12)<|bZ<|bZ<|bZ<|aN (neT g12)<|aN (neT g12)<|bZ<|bZ<|bZ<|aN (neT g12)<|aB (y_pickT g12)<|?_
 exact jn _ (aA (aA (aA (aA (aA (aA aJ (by simp only [aH,reduceIte,Nat.reduceEqDiff,reduceCtorEq,g12,bb] <;> rfl)))))))
 refine aO g12 y_fieldAddr<|aO g12 (y_load (Blk.at B2 rfl rfl))<|aO g12 y_move<|?_
 refine eT (b:=t.skip) (fun g15=>?_) (fun g15=>?_)
 replace B3:=(B3.le lb4).le lb5
 refine aO g15 y_fieldAddr<|aO g15 (y_load (Blk.at B3 rfl rfl))<|aO g15 jO<|aO g12 (y_pickT g15)<|aO g12 y_move<|?_
 refine dA (l.sign = [83]) (fun g20=>?_) (fun g20=>?_)
 refine aN (neF (nT (dT g20)))<|aN (neF (nT (dT g20)))<|aN (neF (nT (dT g20)))<|aO g12 (aR (nT (dT g20)))<|aB (aR g12)<|?_
 exact jn _ (aA (aA (aA (aA (aA (aA aJ (by first | (simp only [aH,reduceIte,Nat.reduceEqDiff,reduceCtorEq,(nT (dT g20)),g12,g15,bb]; done) | (simp only [aH,reduceIte,Nat.reduceEqDiff,reduceCtorEq]; try simp only [(nT (dT g20)),bb]; try simp only [g12,bb]; try simp only [g15,bb]; done) | (simp only [aH,reduceIte,Nat.reduceEqDiff,reduceCtorEq,(nT (dT g20)),g12,g15,bb]; rfl))))))))
 refine aO (nF (dF g20)) y_fieldAddr<|aO (nF (dF g20)) (y_load (Blk.at B3 rfl rfl))<|aO (nF (dF g20)) jO<|aO g12 (y_pickT (nF (dF g20)))<|aB (aR g12)<|?_
 exact jn _ (aA (aA (aA (aA (aA (aA aJ (by first | (simp only [aH,reduceIte,Nat.reduceEqDiff,reduceCtorEq,(nF (dF g20)),g12,g15,bb]; done) | (simp only [aH,reduceIte,Nat.reduceEqDiff,reduceCtorEq]; try simp only [(nF (dF g20)),bb]; try simp only [g12,bb]; try simp only [g15,bb]; done) | (simp only [aH,reduceIte,Nat.reduceEqDiff,reduceCtorEq,(nF (dF g20)),g12,g15,bb]; rfl))))))))
 refine aN (neF g15)<|aN (neF g15)<|aN (neF g15)<|aO g12 (aR g15)<|aO g12 y_move<|aN (neF rfl)<|aN (neF rfl)<|aN (neF rfl)<|aO g12 (aR rfl)<|aB (aR g12)<|?_
 exact jn _ (aA (aA (aA (aA (aA (aA aJ (by first | (simp only [aH,reduceIte,Nat.reduceEqDiff,reduceCtorEq,g12,g15,bb]; done) | (simp only [aH,reduceIte,Nat.reduceEqDiff,reduceCtorEq]; try simp only [g12,bb]; try simp only [g15,bb]; done) | (simp only [aH,reduceIte,Nat.reduceEqDiff,reduceCtorEq,g12,g15,bb]; rfl))))))))
set_option maxHeartbeats 1000000 in
theorem dM {w0:World} {h:Heap} {O:Nat → Prop} {v:cD} {k0v:Value} {t:cS} {k1v:Value} {k2v:Value} {list:List Letter} {k3v:Value} (k0:Rs h O k0v v.list) (k1:Rs h O k1v t.seat.work.writes) (k2:Rs h O k2v t.names) (k3:Rs h O k3v list) (OB0:OB h O) (s0:SB t.inn:=by first | assumption | omega | (simp; done) | (simp; omega)) (hn:t.names.length ≤ 1000:=by first | assumption | omega | decide | (dsimp only; omega)) (hl:list.length ≤ 1000000:=by first | assumption | omega | (dsimp only; omega)) (hB:∀ x ∈ list,x.body.length ≤ 1000000:=by assumption):HC (XM PP) w0 29 [.agg #[vi v.now,k0v],.agg #[vb t.seat.on,vb t.seat.bad,vi t.seat.work.at',k1v,k2v,vb t.skip,vb t.gone,vs t.inn],k3v].toArray h (fun rv h'=>∃ (s1 s2 s3 s4:Value),rv = .tuple #[.agg #[vi (((cJ v t list).1).now),s1],.agg #[vb (((cJ v t list).2.1).seat.on),vb (((cJ v t list).2.1).seat.bad),vi (((cJ v t list).2.1).seat.work.at'),s2,s3,vb (((cJ v t list).2.1).skip),vb (((cJ v t list).2.1).gone),vs (((cJ v t list).2.1).inn)],s4]∧Le h h' ∧ Rs h' O s1 (((cJ v t list).1).list)∧Rs h' O s2 (((cJ v t list).2.1).seat.work.writes)∧Rs h' O s3 (((cJ v t list).2.1).names)∧Ow h' h.size s4 ((cJ v t list).2.2) 28):=by
 obtain ⟨Ak0,nk0,ck0,rfl⟩:=k0.frm
 obtain ⟨Ak1,nk1,ck1,rfl⟩:=k1.frm
 obtain ⟨Ak2,nk2,ck2,rfl⟩:=k2.frm
 obtain ⟨Ak3,nk3,ck3,rfl⟩:=k3.frm
 replace le:=Le.refl h
 have OBe:=OB0
 refine aV 37 [(0,.agg #[vi v.now,(.slice Ak0 nk0 ck0)]),(1,.agg #[vb t.seat.on,vb t.seat.bad,vi t.seat.work.at',(.slice Ak1 nk1 ck1),(.slice Ak2 nk2 ck2),vb t.skip,vb t.gone,vs t.inn]),(2,(.slice Ak3 nk3 ck3))] Tryz.func29 (fun r=>?_)
 refine hw_sr (bE cW (fun v1 h1 q1=>?_))
 obtain ⟨b1,O1,rfl,eb1,sb1,lb1,B1,hO1⟩:=q1.ox O
 refine bE cW (fun v2 h2 q2=>?_)
 obtain ⟨b2,O2,rfl,eb2,sb2,lb2,B2,hO2⟩:=q2.ox O1
 refine bE aY (fun v3 h3 q3=>?_)
 obtain ⟨b3,O3,rfl,eb3,sb3,lb3,B3,hO3⟩:=q3.ox O2
 refine bE aY (fun v4 h4 q4=>?_)
 obtain ⟨b4,O4,rfl,eb4,sb4,lb4,B4,hO4⟩:=q4.ox O3
 refine aB aC<|aD ?_
 refine aF (ah5 2 3 4 6 7) fun r=>?_
 refine hw_sr (?_)
 refine bE (bA (l:=([]:List Letter))) (fun v5 h5 q5=>?_)
 obtain ⟨lb5,ow5,sb5⟩:=q5
 have z5:=lb5.1
 obtain ⟨O5,hO5⟩:=mkO (fun x=>O4 x ∨ vblk v5 x)
 replace o5:Ow _ _ _ _ _:=⟨ow5,OkL.nil⟩
 obtain ⟨A6,n6,c6,rfl⟩:=o5.frm
 refine aB aC<|aD ?_
 refine aI ?_
 refine hw_sr (aB aC<|aD ?_)
 replace le:=((((le.t lb1).t lb2).t lb3).t lb4).t lb5
 replace B1:=(((B1.le lb2).le lb3).le lb4).le lb5
 replace B2:=((B2.le lb3).le lb4).le lb5
 replace B3:=(B3.le lb4).le lb5
 replace OB0:=((((OB0.newB sb1 hO1 eb1).newB sb2 hO2 eb2).newB sb3 hO3 eb3).newB sb4 hO4 eb4).newS lb5.1 hO5 (fun x hv=>(ow5.vb hv).2)
 replace B4:=B4.le lb5
 replace k0:=((((k0.nb lb1 hO1 eb1).nb lb2 hO2 eb2).nb lb3 hO3 eb3).nb lb4 hO4 eb4).ns lb5 hO5 (fun x hv=>(ow5.vb hv).1)
 replace k1:=((((k1.nb lb1 hO1 eb1).nb lb2 hO2 eb2).nb lb3 hO3 eb3).nb lb4 hO4 eb4).ns lb5 hO5 (fun x hv=>(ow5.vb hv).1)
 replace k2:=((((k2.nb lb1 hO1 eb1).nb lb2 hO2 eb2).nb lb3 hO3 eb3).nb lb4 hO4 eb4).ns lb5 hO5 (fun x hv=>(ow5.vb hv).1)
 refine cT (fun (gx:Nat × Int × (List Ver) × Bool × Bool × Int × (List Write) × (List Named) × Bool × Bool × Str × (List Letter) × (Nat → Prop) × Value × Value × Value × Value)=>match gx with | (k,nw,vl,on,bad,at0,wl,nl,sk,gn,inn,m,OL7,ov,sv,sw,sn)=>[(2,(.slice Ak3 nk3 ck3)),(3,.pointer (some ⟨b1,0,none⟩)),(4,.pointer (some ⟨b2,0,none⟩)),(6,.pointer (some ⟨b3,0,none⟩)),(7,.pointer (some ⟨b4,0,none⟩)),(9,ov),(10,vi (k:Int))]) (fun (gx:Nat × Int × (List Ver) × Bool × Bool × Int × (List Write) × (List Named) × Bool × Bool × Str × (List Letter) × (Nat → Prop) × Value × Value × Value × Value) (h' : Heap)=>match gx with | (k,nw,vl,on,bad,at0,wl,nl,sk,gn,inn,m,OL7,ov,sv,sw,sn)=>Le h h' ∧ Mod O5 h5 h' ∧ (∀ x,OL7 x → O5 x ∨ h5.size ≤ x)∧(∀ x,O5 x → OL7 x)∧OB h' OL7∧Blk h' b1 [vi nw,sv] 52∧OL7 b1∧Blk h' b2 [vb on,vb bad,vi at0,sw,sn,vb sk,vb gn,vs inn] 60∧OL7 b2∧Blk h' b3 [vi 0,.slice none 0 0] 52∧OL7 b3∧Blk h' b4 [vb false,vb false,vi 0,.slice none 0 0,.slice none 0 0,vb false,vb false,vs []] 60∧OL7 b4∧Ow h' h.size ov m 28∧(∀ x,vblk ov x → OL7 x)∧Rs h' OL7 sv vl∧Rs h' OL7 sw wl∧Rs h' OL7 sn nl∧((⟨nw,vl⟩:cD),(⟨⟨on,bad,⟨at0,wl⟩⟩,nl,sk,gn,inn⟩:cS),m) = cJ v t list) (aX (cK (fun (gx:Nat × Int × (List Ver) × Bool × Bool × Int × (List Write) × (List Named) × Bool × Bool × Str × (List Letter) × (Nat → Prop) × Value × Value × Value × Value)=>match gx with | (k,nw,vl,on,bad,at0,wl,nl,sk,gn,inn,m,OL7,ov,sv,sw,sn)=>[(2,(.slice Ak3 nk3 ck3)),(3,.pointer (some ⟨b1,0,none⟩)),(4,.pointer (some ⟨b2,0,none⟩)),(6,.pointer (some ⟨b3,0,none⟩)),(7,.pointer (some ⟨b4,0,none⟩)),(9,ov),(10,vi (k:Int))]) (fun (gx:Nat × Int × (List Ver) × Bool × Bool × Int × (List Write) × (List Named) × Bool × Bool × Str × (List Letter) × (Nat → Prop) × Value × Value × Value × Value) (h' : Heap)=>match gx with | (k,nw,vl,on,bad,at0,wl,nl,sk,gn,inn,m,OL7,ov,sv,sw,sn)=>Le h h' ∧ Mod O5 h5 h' ∧ (∀ x,OL7 x → O5 x ∨ h5.size ≤ x)∧(∀ x,O5 x → OL7 x)∧OB h' OL7∧Blk h' b1 [vi nw,sv] 52∧OL7 b1∧Blk h' b2 [vb on,vb bad,vi at0,sw,sn,vb sk,vb gn,vs inn] 60∧OL7 b2∧Blk h' b3 [vi 0,.slice none 0 0] 52∧OL7 b3∧Blk h' b4 [vb false,vb false,vi 0,.slice none 0 0,.slice none 0 0,vb false,vb false,vs []] 60∧OL7 b4∧Ow h' h.size ov m 28∧(∀ x,vblk ov x → OL7 x)∧Rs h' OL7 sv vl∧Rs h' OL7 sw wl∧Rs h' OL7 sn nl∧k ≤ list.length∧((⟨nw,vl⟩:cD),(⟨⟨on,bad,⟨at0,wl⟩⟩,nl,sk,gn,inn⟩:cS),m) = (list.take k).foldl iB (v,t,[])∧nl.length ≤ 1000∧inn.length ≤ t.inn.length∧m.length ≤ 12 * k) (fun (gx:Nat × Int × (List Ver) × Bool × Bool × Int × (List Write) × (List Named) × Bool × Bool × Str × (List Letter) × (Nat → Prop) × Value × Value × Value × Value)=>match gx with | (k,nw,vl,on,bad,at0,wl,nl,sk,gn,inn,m,OL7,ov,sv,sw,sn)=>list.length - k) (0,v.now,v.list,t.seat.on,t.seat.bad,t.seat.work.at',t.seat.work.writes,t.names,t.skip,t.gone,t.inn,[],O5,(.slice A6 n6 c6),(.slice Ak0 nk0 ck0),(.slice Ak1 nk1 ck1),(.slice Ak2 nk2 ck2)) ag7 ⟨le,Mod.refl _,fun x hx=>.inl hx,fun x hx=>hx,OB0,B1,(il hO5 (il hO4 (il hO3 (il hO2 (ir hO1))))),B2,(il hO5 (il hO4 (il hO3 (ir hO2)))),B3,(il hO5 (il hO4 (ir hO3))),B4,(il hO5 (ir hO4)),o5.wk (by omega),(fun x hv=>(hO5 x).2 (.inr hv)),k0,k1,k2,by exact ⟨by omega,rfl,by omega,Nat.le_refl _,by simp⟩⟩ ?_)) ?_
 rintro ⟨k,nw,vl,on,bad,at0,wl,nl,sk,gn,inn,m,OL7,ov,sv,sw,sn⟩ r hl7 ⟨le,lp7,la7,lb7,lo7,B1,mB1,B2,mB2,B3,mB3,B4,mB4,o5,mo5,ksv,ksw,ksn,e1,e2,e3,e4,e5⟩
 obtain ⟨A8,n8,c8,rfl⟩:=o5.frm
 obtain ⟨A9,n9,c9,rfl⟩:=ksv.frm
 obtain ⟨A10,n10,c10,rfl⟩:=ksw.frm
 obtain ⟨A11,n11,c11,rfl⟩:=ksn.frm
 have zl7:=lp7.1
 have hq:=fun x=>jX (⟨nw,vl⟩:cD) (⟨⟨on,bad,⟨at0,wl⟩⟩,nl,sk,gn,inn⟩:cS) x
 replace lr7:=lp7
 replace lx7:=la7
 refine aI ?_
 refine hw_sr (aB y_move<|aB y_move<|aB (y_lenA k3.1)<|aB dB<|aD ?_)
 refine aF (ah8 2 3 4 6 7 9 10 16) fun r=>?_
 refine aZ (fun g16=>?_) (fun g16=>?_)
 refine aM ?_
 refine aI ?_
 refine aX ?_
 refine hw_sr (?_)
 replace OB0:=lo7
 refine bE (bA (l:=([]:List Letter))) (fun v12 h12 q12=>?_)
 obtain ⟨lb12,ow12,sb12⟩:=q12
 have z12:=lb12.1
 replace k12:Rs _ OL7 _ _:=Ow.end ⟨ow12,OkL.nil⟩ OB0
 obtain ⟨A13,n13,c13,rfl⟩:=k12.frm
 refine aB aC<|aD ?_
 refine aI ?_
 replace k3:=((((((k3.nb lb1 hO1 eb1).nb lb2 hO2 eb2).nb lb3 hO3 eb3).nb lb4 hO4 eb4).ns lb5 hO5 (fun x hv=>(ow5.vb hv).1)).lp lp7 la7).le lb12
 have Rk3:=k3
 replace ksn:=ksn.le lb12
 have Rksn:=ksn
 replace ksv:=ksv.le lb12
 have Rksv:=ksv
 replace ksw:=ksw.le lb12
 have Rksw:=ksw
 obtain ⟨S14,hS14⟩:=mkO (fun b=>h12.size ≤ b)
 replace mR14:Mod S14 h12 h12:=Mod.refl _
 have hd14:∀ b,b < h12.size∧¬ OL7 b → ¬ S14 b:=fun b hb hs=>(fun hs=>absurd hb.1 (Nat.not_lt.2 hs)) ((hS14 b).1 hs)
 replace B1:=B1.le lb12
 replace B2:=B2.le lb12
 refine bH 14 S14 bC (ha2_y 0 rfl (fun _ mm=>(y_loadB (Blk.mod B1 mm (fun hs=>by rcases (hS14 _).1 hs with hs <;> first | omega)) 0 _))<|ha2_y 1 rfl (fun _ mm=>(y_loadB (Blk.mod B2 mm (fun hs=>by rcases (hS14 _).1 hs with hs <;> first | omega)) 0 _))<|ha2_p 2 rfl (fun _=>y_move)<|ha2_p 3 rfl (fun _=>y_move)<|?_)
 obtain ⟨x1,hx1⟩:∃ x,list[k]? = some x:=⟨_,List.getElem?_eq_getElem (by omega)⟩
 obtain ⟨sx1_0,sx1_1⟩:SB x1.sign∧SB x1.body:=k3.2.at hx1
 have hb:=hB x1 (List.mem_of_getElem? hx1)
 have hq1:=(hq x1).1
 refine ha2_y 4 rfl (fun _ _=>(y_idxA k3.1))<|ha2_y 5 rfl (fun _ mm=>(y_loadEl (RdF.mod Rk3.1 (mR14.trans mm) hd14) hx1))<|?_
 replace OB0:=OB0.leO lb12.1
 refine aW 6 (cC rfl aG (tT (v:=(⟨nw,vl⟩:cD)) (t:=(⟨⟨on,bad,⟨at0,wl⟩⟩,nl,sk,gn,inn⟩:cS)) (l:=x1) ksv ksw ksn OB0) (fun v15 h15 q15=>?_))
 obtain ⟨s15_1,s15_2,s15_3,s15_4,rfl,lc15,k15_1,k15_2,k15_3,k15_4⟩:=q15
 have z15:=lc15.1
 refine ⟨Le.mod lc15,?_⟩
 obtain ⟨A16,n16,c16,rfl⟩:=k15_1.frm
 obtain ⟨A17,n17,c17,rfl⟩:=k15_2.frm
 obtain ⟨A18,n18,c18,rfl⟩:=k15_3.frm
 obtain ⟨A19,n19,c19,rfl⟩:=k15_4.frm
 replace B1:=B1.le lc15
 refine bG 7 rfl (fun _=>y_move)<|bG 8 rfl (fun _=>aL)<|bG 9 rfl (fun _=>aL)<|bG 10 rfl (fun _=>aL)<|cV 11 rfl (aK aP B1) (fun v20 h20 q20=>?_)
 obtain ⟨rfl,q20⟩:=q20
 have z20:=q20.1
 replace o5:=(o5.le lb12).le lc15
 replace o5:=o5.st q20 (o5.1.ne B1 (by decide))
 replace B1:=q20.2.2
 replace B2:=(B2.le lc15).s q20
 refine cV 12 rfl (aK aP B2) (fun v21 h21 q21=>?_)
 replace lr7:=((lr7.tl lb12).tl lc15).stO q20 (il hO5 (il hO4 (il hO3 (il hO2 (ir hO1)))))
 obtain ⟨rfl,q21⟩:=q21
 have z21:=q21.1
 replace o5:=o5.st q21 (o5.1.ne B2 (by decide))
 replace B2:=q21.2.2
 replace lr7:=lr7.stO q21 (il hO5 (il hO4 (il hO3 (ir hO2))))
 refine bG 13 rfl (fun _=>aC)<|bD ?_
 refine aF (ah8 2 3 4 6 7 9 10 11) fun r=>?_
 refine aE (aB y_move<|aB y_move<|?_)
 replace k15_4:=(k15_4.st q20 mB1).st q21 mB2
 refine bE (bW aP o5.1 k15_4.1 (by omega) (Nat.add_le_add o5.2.len k15_4.2.len)) (fun v22 h22 q22=>?_)
 have L1:=o5.2.len
 have L2:=k15_4.2.len
 obtain ⟨O22,hO22,z22,ow22⟩:=q22.ow (OkL.app o5.2 k15_4.2 (by first | omega | (simp only [List.length_append,List.length_take,List.length_drop,List.length_cons,List.length_nil,List.length_set]; omega) | (simp; omega))) OL7
 replace B1:=B1.s q21
 replace B3:=(((B3.le lb12).le lc15).s q20).s q21
 replace B4:=(((B4.le lb12).le lc15).s q20).s q21
 replace lr7:=lr7.apO q22 (fun x hv=>lx7 x (mo5 x hv))
 replace lx7:=laA lx7 hO22 q22 mo5 (by omega)
 replace le:=((((le.t lb12).t lc15).s q20).s q21).ap o5 q22 (by omega)
 replace B1:=B1.app q22 (o5.1.ne B1 (by decide))
 replace B2:=B2.app q22 (o5.1.ne B2 (by decide))
 replace B3:=B3.app q22 (o5.1.ne B3 (by decide))
 replace B4:=B4.app q22 (o5.1.ne B4 (by decide))
 replace o5:=ow22
 obtain ⟨A23,n23,c23,rfl⟩:=o5.frm
 refine aB aC<|aD ?_
 refine aF (ah7 2 3 4 6 7 9 10) fun r=>?_
 refine aE (aB y_move<|aB bI<|aB aC<|aD ?_)
 replace k15_1:=((k15_1.st q20 mB1).st q21 mB2).ap q22 mo5 hO22
 replace k15_2:=((k15_2.st q20 mB1).st q21 mB2).ap q22 mo5 hO22
 replace k15_3:=((k15_3.st q20 mB1).st q21 mB2).ap q22 mo5 hO22
 replace OB0:=(((OB0.leO lc15.1).leO (Nat.le_of_eq q20.1.symm)).leO (Nat.le_of_eq q21.1.symm)).app q22 hO22
 exact ⟨(k + 1,((bJ (⟨nw,vl⟩:cD) (⟨⟨on,bad,⟨at0,wl⟩⟩,nl,sk,gn,inn⟩:cS) x1).1).now,((bJ (⟨nw,vl⟩:cD) (⟨⟨on,bad,⟨at0,wl⟩⟩,nl,sk,gn,inn⟩:cS) x1).1).list,((bJ (⟨nw,vl⟩:cD) (⟨⟨on,bad,⟨at0,wl⟩⟩,nl,sk,gn,inn⟩:cS) x1).2.1).seat.on,((bJ (⟨nw,vl⟩:cD) (⟨⟨on,bad,⟨at0,wl⟩⟩,nl,sk,gn,inn⟩:cS) x1).2.1).seat.bad,((bJ (⟨nw,vl⟩:cD) (⟨⟨on,bad,⟨at0,wl⟩⟩,nl,sk,gn,inn⟩:cS) x1).2.1).seat.work.at',((bJ (⟨nw,vl⟩:cD) (⟨⟨on,bad,⟨at0,wl⟩⟩,nl,sk,gn,inn⟩:cS) x1).2.1).seat.work.writes,((bJ (⟨nw,vl⟩:cD) (⟨⟨on,bad,⟨at0,wl⟩⟩,nl,sk,gn,inn⟩:cS) x1).2.1).names,((bJ (⟨nw,vl⟩:cD) (⟨⟨on,bad,⟨at0,wl⟩⟩,nl,sk,gn,inn⟩:cS) x1).2.1).skip,((bJ (⟨nw,vl⟩:cD) (⟨⟨on,bad,⟨at0,wl⟩⟩,nl,sk,gn,inn⟩:cS) x1).2.1).gone,((bJ (⟨nw,vl⟩:cD) (⟨⟨on,bad,⟨at0,wl⟩⟩,nl,sk,gn,inn⟩:cS) x1).2.1).inn,(m ++ (bJ (⟨nw,vl⟩:cD) (⟨⟨on,bad,⟨at0,wl⟩⟩,nl,sk,gn,inn⟩:cS) x1).2.2),O22,(.slice A23 n23 c23),(.slice A16 n16 c16),(.slice A17 n17 c17),(.slice A18 n18 c18)),ag7,⟨le,lr7,lx7,fun x hx=>(il hO22 (lb7 _ hx)),OB0,B1,(il hO22 mB1),B2,(il hO22 mB2),B3,(il hO22 mB3),B4,(il hO22 mB4),o5.wk (by omega),(fun x hv=>(hO22 x).2 (.inr hv)),k15_1.cast (by first | rfl | simp_all),k15_2.cast (by first | rfl | simp_all),k15_3.cast (by first | rfl | simp_all),by exact ⟨by omega,by rw [dK hx1,← e2]; rfl,by have:=(hq x1).2.2; dsimp only at this ⊢; omega,by have:=(hq x1).2.1; dsimp only at this ⊢; omega,by have:=(hq x1).1; rw [List.length_append]; omega⟩⟩,by first | omega | (dsimp only; omega)⟩
 refine cI ?_
 replace OB0:=lo7
 exact ⟨(k,nw,vl,on,bad,at0,wl,nl,sk,gn,inn,m,OL7,(.slice A8 n8 c8),(.slice A9 n9 c9),(.slice A10 n10 c10),(.slice A11 n11 c11)),ag7,⟨le,lr7,lx7,fun x hx=>(lb7 _ hx),OB0,B1,mB1,B2,mB2,B3,mB3,B4,mB4,o5.wk (by omega),mo5,ksv.cast (by first | rfl | simp_all),ksw.cast (by first | rfl | simp_all),ksn.cast (by first | rfl | simp_all),by rw [e2,List.take_of_length_le (by omega)]; rfl⟩⟩
 rintro ⟨k,nw,vl,on,bad,at0,wl,nl,sk,gn,inn,m,OL7,ov,sv,sw,sn⟩ r hl7 ⟨le,lp7,la7,lb7,lo7,B1,mB1,B2,mB2,B3,mB3,B4,mB4,o5,mo5,ksv,ksw,ksn,e1⟩
 obtain ⟨A24,n24,c24,rfl⟩:=o5.frm
 obtain ⟨A25,n25,c25,rfl⟩:=ksv.frm
 obtain ⟨A26,n26,c26,rfl⟩:=ksw.frm
 obtain ⟨A27,n27,c27,rfl⟩:=ksn.frm
 have zl7:=lp7.1
 refine aI ?_
 replace OB0:=lo7
 have Rksn:=ksn
 have Rksv:=ksv
 have Rksw:=ksw
 obtain ⟨S28,hS28⟩:=mkO (fun b=>hl7.size ≤ b ∨ b = b3)
 replace mR28:Mod S28 hl7 hl7:=Mod.refl _
 have hd28:∀ b,b < hl7.size∧¬ OL7 b → ¬ S28 b:=fun b hb hs=>(fun hs=>hs.elim (fun hs=>absurd hb.1 (Nat.not_lt.2 hs)) (fun hs=>hb.2 (hs ▸ mB3))) ((hS28 b).1 hs)
 refine bH 6 S28 bC (ha2_y 0 rfl (fun _ mm=>(y_loadB (Blk.mod B1 mm (fun hs=>by rcases (hS28 _).1 hs with hs | hs <;> first | omega)) 0 _))<|ha2_y 1 rfl (fun _ mm=>(y_loadB (Blk.mod B2 mm (fun hs=>by rcases (hS28 _).1 hs with hs | hs <;> first | omega)) 0 _))<|ha2_p 2 rfl (fun _=>y_move)<|?_)
 refine aW 3 (cY rfl (aK aP B3) (fun v29 h29 q29=>?_))
 obtain ⟨rfl,q29⟩:=q29
 have z29:=q29.1
 have ms:=mm hS28 q29.2.1
 refine ⟨ms,?_⟩
 replace o5:=o5.st q29 (o5.1.ne B3 (by decide))
 replace B3:=q29.2.2
 replace B4:=B4.s q29
 refine cV 4 rfl (aK aP B4) (fun v30 h30 q30=>?_)
 obtain ⟨rfl,q30⟩:=q30
 have z30:=q30.1
 replace o5:=o5.st q30 (o5.1.ne B4 (by decide))
 replace B4:=q30.2.2
 refine bG 5 rfl (fun _=>aC)<|bD ?_
 refine aF (ah3 6 7 8) fun r=>?_
 refine hw_rr ?_
 replace B3:=B3.s q30
 refine aQ rfl (.cons (bT B3) (.cons (bT B4) (.cons aU .nil))) ?_
 have hr:=e1.symm
 replace le:=(le.s q29).s q30
 replace ksv:=(ksv.st q29 mB3).st q30 mB4
 replace ksw:=(ksw.st q29 mB3).st q30 mB4
 replace ksn:=(ksn.st q29 mB3).st q30 mB4
 exact ⟨_,_,_,_,by first | rfl | (rw [hr] <;> rfl),le,(ksv.wk (fun x hx=>(lb7 _ (il hO5 (il hO4 (il hO3 (il hO2 (il hO1 hx)))))))).cast (by first | rfl | (rw [hr] <;> rfl)),(ksw.wk (fun x hx=>(lb7 _ (il hO5 (il hO4 (il hO3 (il hO2 (il hO1 hx)))))))).cast (by first | rfl | (rw [hr] <;> rfl)),(ksn.wk (fun x hx=>(lb7 _ (il hO5 (il hO4 (il hO3 (il hO2 (il hO1 hx)))))))).cast (by first | rfl | (rw [hr] <;> rfl)),(o5.wk (by omega)).cast (by first | rfl | (rw [hr] <;> rfl))⟩
end
section
open Go.Conc
abbrev IB (n:Int):Prop:=-9223372036854775808 ≤ n∧n ≤ 9223372036854775807
abbrev KB (s:Str):Prop:=s.length ≤ 3
abbrev VB (v:cD):Prop:=0 ≤ v.now∧v.now ≤ 40∧v.list.length ≤ 60
theorem kX {v:cD} {l:List Write} (h:VB v):VB (fM v l).1:=by
  unfold fM
  split
  · rename_i hok; exact mS hok
  · exact h
theorem rS {v:cD} {t:Int} (h:VB v):VB (hU v t):=by
  unfold hU
  split
  · exact ⟨h.1,h.2.1,Nat.le_trans (List.length_filter_le _ _) h.2.2⟩
  · exact ⟨Int.le_refl _,(by decide:(0:Int) ≤ 40),Nat.zero_le _⟩
set_option maxHeartbeats 1000000 in
theorem aBF {w0:World} {h:Heap} {O:Nat → Prop} {br:Nat} {p:Int} (kr:RD h O br p) (OB0:OB h O) (hp:p + 2 ≤ 1000000000:=by omega):HC (XM PP) w0 87 [.pointer (some ⟨br,0,none⟩)].toArray h (fun rv h'=>∃ (s:Str) ,rv = vs s∧pD O br p 2 h h' ∧ KB s):=by
 have le:=Mod.refl (S:=(· = br)) h
 have brl:=kr.lt
 have mbr:=kr.mem
 have OBe:=OB0
 refine aV 12 [(0,.pointer (some ⟨br,0,none⟩))] Tryz.func87 (fun r=>?_)
 refine hw_sr (aB aC<|aD ?_)
 refine aI ?_
 refine hw_sr (aB y_move<|bL aG (eH kr OB0) (fun v1 h1 q1=>?_))
 obtain ⟨i1,rfl,⟨m1,p1,kr,pa1,pb1⟩,pr1⟩:=q1
 have z1:=m1.1
 refine aB bM<|aD ?_
 refine aZ (fun g5=>?_) (fun g5=>?_)
 refine hw_sr (aB y_move<|?_)
 refine bE (bA (l:=([[],[97,98,99],[65],[97,49],[32]]:List Str))) (fun v2 h2 q2=>?_)
 obtain ⟨lb2,ow2,sb2⟩:=q2
 have z2:=lb2.1
 replace OB0:=OB0.leO m1.1
 have k2:Rs _ O _ _:=Ow.end ⟨ow2,⟨by simp,by simp [Ok.ok]⟩⟩ OB0
 obtain ⟨A3,n3,c3,rfl⟩:=k2.frm
 replace kr:=kr.leO lb2
 replace OB0:=OB0.leO lb2.1
 refine bL aG (nK kr k2 OB0) (fun v4 h4 q4=>?_)
 obtain ⟨s4,rfl,⟨m4,p4,kr,pa4,pb4⟩,pr4⟩:=q4
 have z4:=m4.1
 have sb4:s4.length ≤ 3:=iV (by decide) pr4
 refine aB aC<|aD ?_
 refine aF (ah1 2) fun r=>?_
 refine hw_rr ?_
 refine aQ rfl (.cons aU .nil) ?_
 replace le:=((le.t m1).tl lb2).t m4
 exact ⟨_,by first | rfl | (simp_all [oneOf] <;> omega),⟨le,_,kr,by omega,by omega⟩,by first | omega | (simp; omega)⟩
 refine aM ?_
 refine hw_sr (aB y_move<|?_)
 refine bE (bA (l:=([[97],[98],[99],[100],[97,98],[97,99],[98,98],[122],[101],[102],[103],[104]]:List Str))) (fun v5 h5 q5=>?_)
 obtain ⟨lb5,ow5,sb5⟩:=q5
 have z5:=lb5.1
 replace OB0:=OB0.leO m1.1
 have k5:Rs _ O _ _:=Ow.end ⟨ow5,⟨by simp,by simp [Ok.ok]⟩⟩ OB0
 obtain ⟨A6,n6,c6,rfl⟩:=k5.frm
 replace kr:=kr.leO lb5
 replace OB0:=OB0.leO lb5.1
 refine bL aG (nK kr k5 OB0) (fun v7 h7 q7=>?_)
 obtain ⟨s7,rfl,⟨m7,p7,kr,pa7,pb7⟩,pr7⟩:=q7
 have z7:=m7.1
 have sb7:s7.length ≤ 2:=iV (by decide) pr7
 refine aB aC<|aD ?_
 refine aF (ah1 2) fun r=>?_
 refine hw_rr ?_
 refine aQ rfl (.cons aU .nil) ?_
 replace le:=((le.t m1).tl lb5).t m7
 exact ⟨_,by first | rfl | (simp_all [oneOf] <;> omega),⟨le,_,kr,by omega,by omega⟩,by first | omega | (simp; omega)⟩
set_option maxHeartbeats 1000000 in
theorem wM {w0:World} {h:Heap} {O:Nat → Prop} {br:Nat} {p:Int} (kr:RD h O br p) (OB0:OB h O) (hp:p + 2 ≤ 1000000000:=by omega):HC (XM PP) w0 70 [.pointer (some ⟨br,0,none⟩)].toArray h (fun rv h'=>∃ (n:Int) ,rv = vi n∧pD O br p 2 h h' ∧ IB n):=by
 have le:=Mod.refl (S:=(· = br)) h
 have brl:=kr.lt
 have mbr:=kr.mem
 have OBe:=OB0
 refine aV 12 [(0,.pointer (some ⟨br,0,none⟩))] Tryz.func70 (fun r=>?_)
 refine hw_sr (aB aC<|aD ?_)
 refine aI ?_
 refine hw_sr (aB y_move<|bL aG (eH kr OB0) (fun v1 h1 q1=>?_))
 obtain ⟨i1,rfl,⟨m1,p1,kr,pa1,pb1⟩,pr1⟩:=q1
 have z1:=m1.1
 refine aB bM<|aD ?_
 refine aZ (fun g5=>?_) (fun g5=>?_)
 refine hw_sr (aB y_move<|?_)
 refine bE (bA (l:=([1000,(-1000),9223372036854775807,(-9223372036854775808)]:List Int))) (fun v2 h2 q2=>?_)
 obtain ⟨lb2,ow2,sb2⟩:=q2
 have z2:=lb2.1
 replace OB0:=OB0.leO m1.1
 have k2:Rs _ O _ _:=Ow.end ⟨ow2,⟨by simp,by simp [Ok.ok]⟩⟩ OB0
 obtain ⟨A3,n3,c3,rfl⟩:=k2.frm
 replace kr:=kr.leO lb2
 replace OB0:=OB0.leO lb2.1
 refine bL aG (jH kr k2 OB0) (fun v4 h4 q4=>?_)
 obtain ⟨n4,rfl,⟨m4,p4,kr,pa4,pb4⟩,pr4⟩:=q4
 have z4:=m4.1
 have ib4 : -9223372036854775808 ≤ n4∧n4 ≤ 9223372036854775807:=jM (by decide) pr4
 refine aB aC<|aD ?_
 refine aF (ah1 2) fun r=>?_
 refine hw_rr ?_
 refine aQ rfl (.cons aU .nil) ?_
 replace le:=((le.t m1).tl lb2).t m4
 exact ⟨_,by first | rfl | (simp_all [oneOf] <;> omega),⟨le,_,kr,by omega,by omega⟩,by first | omega | (simp; omega)⟩
 refine aM ?_
 refine hw_sr (aB y_move<|?_)
 refine bE (bA (l:=([0,1,2,3,(-1),(-7),40,500,999,(-999)]:List Int))) (fun v5 h5 q5=>?_)
 obtain ⟨lb5,ow5,sb5⟩:=q5
 have z5:=lb5.1
 replace OB0:=OB0.leO m1.1
 have k5:Rs _ O _ _:=Ow.end ⟨ow5,⟨by simp,by simp [Ok.ok]⟩⟩ OB0
 obtain ⟨A6,n6,c6,rfl⟩:=k5.frm
 replace kr:=kr.leO lb5
 replace OB0:=OB0.leO lb5.1
 refine bL aG (jH kr k5 OB0) (fun v7 h7 q7=>?_)
 obtain ⟨n7,rfl,⟨m7,p7,kr,pa7,pb7⟩,pr7⟩:=q7
 have z7:=m7.1
 have ib7 : -999 ≤ n7∧n7 ≤ 999:=jM (by decide) pr7
 refine aB aC<|aD ?_
 refine aF (ah1 2) fun r=>?_
 refine hw_rr ?_
 refine aQ rfl (.cons aU .nil) ?_
 replace le:=((le.t m1).tl lb5).t m7
 exact ⟨_,by first | rfl | (simp_all [oneOf] <;> omega),⟨le,_,kr,by omega,by omega⟩,by first | omega | (simp; omega)⟩
set_option maxHeartbeats 1000000 in
theorem zY {w0:World} {h:Heap} {O:Nat → Prop} {br:Nat} {p:Int} {list:List Row} {k1v:Value} (kr:RD h O br p) (k1:Rs h O k1v list) (OB0:OB h O) (hp:p + 3 ≤ 1000000000:=by omega):HC (XM PP) w0 69 [.pointer (some ⟨br,0,none⟩),k1v].toArray h (fun rv h'=>∃ (s:Str) ,rv = vs s∧pD O br p 3 h h' ∧ SB s):=by
 obtain ⟨Ak1,nk1,ck1,rfl⟩:=k1.frm
 have le:=Mod.refl (S:=(· = br)) h
 have brl:=kr.lt
 have mbr:=kr.mem
 have OBe:=OB0
 refine aV 23 [(0,.pointer (some ⟨br,0,none⟩)),(1,(.slice Ak1 nk1 ck1))] Tryz.func69 (fun r=>?_)
 refine hw_sr (aB aC<|aD ?_)
 refine aI ?_
 refine hw_sr (aB y_move<|aB (y_lenA k1.1)<|aB cU<|aB y_move<|?_)
 refine dA ((0:Int) < (list.length:Int)) (fun g8=>?_) (fun g8=>?_)
 refine aO (dT g8) y_move<|iR (dT g8) aG (eH kr OB0) (fun v1 h1 q1=>?_)
 obtain ⟨i1,rfl,⟨m1,p1,kr,pa1,pb1⟩,pr1⟩:=q1
 have z1:=m1.1
 refine aO (dT g8) bM<|aB (y_pickT (dT g8))<|aD ?_
 refine aF (ah3 0 1 12) fun r=>?_
 refine aZ (fun g12=>?_) (fun g12=>?_)
 refine hw_sr (aB y_move<|aB y_move<|aB y_move<|aB (y_lenA k1.1)<|?_)
 replace OB0:=OB0.leO m1.1
 refine bL aG (eH kr OB0) (fun v2 h2 q2=>?_)
 obtain ⟨i2,rfl,⟨m2,p2,kr,pa2,pb2⟩,pr2⟩:=q2
 have z2:=m2.1
 obtain ⟨x1,hx1⟩:∃ x,list[(i2).toNat]? = some x:=⟨_,List.getElem?_eq_getElem (by omega)⟩
 have sx1:SB x1.key:=k1.2.at hx1
 refine aB (gR k1.1)<|aB y_fieldAddr<|?_
 replace k1:=(k1.md m1 (fun _ e=>e ▸ mbr)).md m2 (fun _ e=>e ▸ mbr)
 refine aB (y_load (RdF.cell k1.1 hx1 rfl))<|aB aC<|aD ?_
 refine aF (ah1 4) fun r=>?_
 refine hw_rr ?_
 refine aQ rfl (.cons aU .nil) ?_
 replace le:=(le.t m1).t m2
 exact ⟨_,by first | rfl | (simp_all [oneOf] <;> omega),⟨le,_,kr,by omega,by omega⟩,by first | omega | (simp; omega)⟩
 refine aM ?_
 refine hw_sr (aB y_move<|?_)
 replace OB0:=OB0.leO m1.1
 refine bL aG (aBF kr OB0) (fun v3 h3 q3=>?_)
 obtain ⟨s3,rfl,⟨m3,p3,kr,pa3,pb3⟩,pr3⟩:=q3
 have z3:=m3.1
 refine aB aC<|aD ?_
 refine aF (ah1 4) fun r=>?_
 refine hw_rr ?_
 refine aQ rfl (.cons aU .nil) ?_
 replace le:=(le.t m1).t m3
 exact ⟨_,by first | rfl | (simp_all [oneOf] <;> omega),⟨le,_,kr,by omega,by omega⟩,by first | omega | (simp; omega)⟩
 refine aN (neF (dF g8))<|aN (neF (dF g8))<|aN (neF (dF g8))<|aB (aR (dF g8))<|aD ?_
 refine aF (ah3 0 1 12) fun r=>?_
 refine eZ rfl ?_
 refine aM ?_
 refine hw_sr (aB y_move<|bL aG (aBF kr OB0) (fun v4 h4 q4=>?_))
 obtain ⟨s4,rfl,⟨m4,p4,kr,pa4,pb4⟩,pr4⟩:=q4
 have z4:=m4.1
 refine aB aC<|aD ?_
 refine aF (ah1 4) fun r=>?_
 refine hw_rr ?_
 refine aQ rfl (.cons aU .nil) ?_
 replace le:=le.t m4
 exact ⟨_,by first | rfl | (simp_all [oneOf] <;> omega),⟨le,_,kr,by omega,by omega⟩,by first | omega | (simp; omega)⟩
set_option maxHeartbeats 1000000 in
theorem tV {w0:World} {h:Heap} {O:Nat → Prop} {br:Nat} {p:Int} {rows:List Row} {k1v:Value} (kr:RD h O br p) (k1:Rs h O k1v rows) (OB0:OB h O) (hp:p + 60 ≤ 1000000000:=by omega):HC (XM PP) w0 47 [.pointer (some ⟨br,0,none⟩),k1v].toArray h (fun rv h'=>∃ (wl:List Write) ,pD O br p 60 h h' ∧ Rs h' O rv wl∧wl.length ≤ 6):=by
 obtain ⟨Ak1,nk1,ck1,rfl⟩:=k1.frm
 have le:=Mod.refl (S:=(· = br)) h
 have brl:=kr.lt
 have mbr:=kr.mem
 have OBe:=OB0
 refine aV 99 [(0,.pointer (some ⟨br,0,none⟩)),(1,(.slice Ak1 nk1 ck1))] Tryz.func47 (fun r=>?_)
 refine hw_sr (aB aC<|aD ?_)
 refine hw_sr (bE (bA (l:=([]:List Write))) (fun v1 h1 q1=>?_))
 obtain ⟨lb1,ow1,sb1⟩:=q1
 have z1:=lb1.1
 obtain ⟨O1,hO1⟩:=mkO (fun x=>O x ∨ vblk v1 x)
 have o1:Ow _ _ _ _ _:=⟨ow1,OkL.nil⟩
 obtain ⟨A2,n2,c2,rfl⟩:=o1.frm
 refine aB aC<|aD ?_
 refine aI ?_
 refine hw_sr (aB y_move<|?_)
 refine bE (bA (l:=([1,2,1,3,0,5]:List Int))) (fun v3 h3 q3=>?_)
 obtain ⟨lb3,ow3,sb3⟩:=q3
 have z3:=lb3.1
 replace OB0:=OB0.newS lb1.1 hO1 (fun x hv=>(ow1.vb hv).2)
 have k3:Rs _ O1 _ _:=Ow.end ⟨ow3,⟨by simp,by simp [Ok.ok]⟩⟩ OB0
 obtain ⟨A4,n4,c4,rfl⟩:=k3.frm
 replace kr:=(kr.newS lb1 hO1 (fun x hv=>(ow1.vb hv).1)).leO lb3
 replace OB0:=OB0.leO lb3.1
 refine bL aG (jH kr k3 OB0) (fun v5 h5 q5=>?_)
 obtain ⟨n5,rfl,⟨m5,p5,kr,pa5,pb5⟩,pr5⟩:=q5
 have z5:=m5.1
 replace o1:=o1.le lb3
 have ib5:0 ≤ n5∧n5 ≤ 5:=jM (by decide) pr5
 refine aB aC<|aD ?_
 refine aF (ah4 0 1 5 6) fun r=>?_
 replace le:=((le.tl lb1).tl lb3).t m5
 replace o1:=o1.md m5 (fun x hv e=>by have:=o1.vb hv; omega)
 replace OB0:=OB0.leO m5.1
 refine cT (fun (gx:Int × (List Write) × (Nat → Prop) × Value × Int)=>match gx with | (i,m,OL6,ov,p6)=>[(0,.pointer (some ⟨br,0,none⟩)),(1,(.slice Ak1 nk1 ck1)),(5,ov),(6,vi i)]) (fun (gx:Int × (List Write) × (Nat → Prop) × Value × Int) (h' : Heap)=>match gx with | (i,m,OL6,ov,p6)=>Mod (· = br) h h' ∧ Mod O1 h5 h' ∧ (∀ x,OL6 x → O1 x ∨ h5.size ≤ x)∧(∀ x,O1 x → OL6 x)∧OB h' OL6∧Ow h' h.size ov m 107∧(∀ x,vblk ov x → OL6 x)∧RD h' OL6 br p6∧p5 ≤ p6∧p6 ≤ p5 + 10 * (5 - i)∧0 ≤ i∧(m.length:Int) ≤ 5) (aX (cK (fun (gx:Int × (List Write) × (Nat → Prop) × Value × Int)=>match gx with | (i,m,OL6,ov,p6)=>[(0,.pointer (some ⟨br,0,none⟩)),(1,(.slice Ak1 nk1 ck1)),(5,ov),(6,vi i)]) (fun (gx:Int × (List Write) × (Nat → Prop) × Value × Int) (h' : Heap)=>match gx with | (i,m,OL6,ov,p6)=>Mod (· = br) h h' ∧ Mod O1 h5 h' ∧ (∀ x,OL6 x → O1 x ∨ h5.size ≤ x)∧(∀ x,O1 x → OL6 x)∧OB h' OL6∧Ow h' h.size ov m 107∧(∀ x,vblk ov x → OL6 x)∧RD h' OL6 br p6∧p5 ≤ p6∧p6 ≤ p5 + 10 * (5 - i)∧0 ≤ i∧i ≤ 5∧(m.length:Int) ≤ 5 - i) (fun (gx:Int × (List Write) × (Nat → Prop) × Value × Int)=>match gx with | (i,m,OL6,ov,p6)=>i.toNat) (n5,[],O1,(.slice A2 n2 c2),p5) ag4 ⟨le,Mod.refl _,fun x hx=>.inl hx,fun x hx=>hx,OB0,o1.wk (by omega),(fun x hv=>(hO1 x).2 (.inr hv)),kr,by omega,by omega,by exact ⟨by omega,by omega,by simp; omega⟩⟩ ?_)) ?_
 rintro ⟨i,m,OL6,ov,p6⟩ r hl6 ⟨le,lp6,la6,lb6,lo6,o1,mo1,kr,pa6,pb6,e0,e1,e2⟩
 obtain ⟨A7,n7,c7,rfl⟩:=o1.frm
 have zl6:=lp6.1
 have lr6:=lp6
 have lx6:=la6
 refine aI ?_
 refine hw_sr (aB y_move<|aB cU<|aD ?_)
 refine aZ (fun g16=>?_) (fun g16=>?_)
 refine aM ?_
 refine aI ?_
 refine aX ?_
 refine hw_sr (aB y_move<|aB y_move<|?_)
 have OB0:=lo6
 replace k1:=(((k1.ns lb1 hO1 (fun x hv=>(ow1.vb hv).1)).le lb3).md m5 (fun _ e=>e ▸ (il hO1 mbr))).lp lp6 la6
 refine bL aG (zY kr k1 OB0) (fun v8 h8 q8=>?_)
 obtain ⟨s8,rfl,⟨m8,p8,kr,pa8,pb8⟩,pr8⟩:=q8
 have z8:=m8.1
 refine aB y_move<|?_
 replace OB0:=OB0.leO m8.1
 refine bL aG (wM kr OB0) (fun v9 h9 q9=>?_)
 obtain ⟨n9,rfl,⟨m9,p9,kr,pa9,pb9⟩,pr9⟩:=q9
 have z9:=m9.1
 replace o1:=o1.md m8 (fun x hv e=>by have:=o1.vb hv; omega)
 refine aB (y_build rfl rfl)<|bE aY (fun v10 h10 q10=>?_)
 obtain ⟨b10,O10,rfl,eb10,sb10,lb10,B10,hO10⟩:=q10.ox OL6
 replace o1:=o1.md m9 (fun x hv e=>by have:=o1.vb hv; omega)
 have sp_o1_B10:¬ vblk (.slice A7 n7 c7) b10:=fun hv=>by have:=o1.vb hv; omega
 have lx6:=laB lx6 hO10 (by omega)
 refine bO (aK aP B10) (fun v11 h11 q11=>?_)
 obtain ⟨rfl,q11⟩:=q11
 have z11:=q11.1
 have B10:=q11.2.2
 refine aD ?_
 refine aF (ah5 0 1 5 6 7) fun r=>?_
 replace OB0:=((OB0.leO m9.1).newB sb10 hO10 eb10).leO (Nat.le_of_eq q11.1.symm)
 refine dH (fun (gx:Str × Int × Bool × (Nat → Prop) × Int)=>match gx with | (kk,nn,gg,OL12,p12)=>[(0,.pointer (some ⟨br,0,none⟩)),(1,(.slice Ak1 nk1 ck1)),(5,(.slice A7 n7 c7)),(6,vi i),(7,.pointer (some ⟨b10,0,none⟩))]) (fun (gx:Str × Int × Bool × (Nat → Prop) × Int) (h' : Heap)=>match gx with | (kk,nn,gg,OL12,p12)=>Mod (· = br) h h' ∧ Mod O10 h11 h' ∧ (∀ x,OL12 x → O10 x ∨ h11.size ≤ x)∧(∀ x,O10 x → OL12 x)∧OB h' OL12∧Blk h' b10 [vs kk,vi nn,vb gg] 107∧OL12 b10∧Ow h' h.size (.slice A7 n7 c7) m 107∧(∀ x,vblk (.slice A7 n7 c7) x → OL12 x)∧(¬ vblk (.slice A7 n7 c7) b10)∧RD h' OL12 br p12∧p9 ≤ p12∧p12 ≤ p9 + 1∧SB kk) ?_ ?_
 have lr12:=Mod.refl (S:=O10) h11
 replace lr6:=(((lr6.t (Mod.mono m8 (fun x _ e=>e ▸ (il hO1 mbr)))).t (Mod.mono m9 (fun x _ e=>e ▸ (il hO1 mbr)))).tl lb10).s q11
 have lx12:∀ x,O10 x → O10 x ∨ h11.size ≤ x:=fun x hx=>.inl hx
 refine aI ?_
 replace kr:=(kr.newB lb10 hO10 eb10).setO q11 (ir hO10) (by omega)
 refine aE (aB y_move<|bL aG (eH kr OB0) (fun v13 h13 q13=>?_))
 obtain ⟨i13,rfl,⟨m13,p13,kr,pa13,pb13⟩,pr13⟩:=q13
 have z13:=m13.1
 replace o1:=(o1.le lb10).st q11 sp_o1_B10
 refine aB bM<|aD ?_
 refine aZ (fun g27=>?_) (fun g27=>?_)
 replace B10:=B10.mod m13 (by omega)
 refine aE (aB y_fieldAddr<|aB (y_load (Blk.at B10 rfl rfl))<|aB (y_build rfl rfl)<|?_)
 refine bO (aK aP B10) (fun v14 h14 q14=>?_)
 obtain ⟨rfl,q14⟩:=q14
 have z14:=q14.1
 have B10:=q14.2.2
 refine aD ?_
 replace le:=(((((le.t m8).t m9).tl lb10).s q11).t m13).s q14
 replace o1:=(o1.md m13 (fun x hv e=>by have:=o1.vb hv; omega)).st q14 sp_o1_B10
 replace lr6:=(lr6.t (Mod.mono m13 (fun x _ e=>e ▸ (il hO1 mbr)))).s q14
 replace lr12:=(lr12.t (Mod.mono m13 (fun x _ e=>e ▸ (il hO10 (lb6 _ (il hO1 mbr)))))).stO q14 (ir hO10)
 replace kr:=kr.setO q14 (ir hO10) (by omega)
 replace OB0:=OB0.leO (h':=h14) (by omega)
 exact ⟨(s8,0,true,O10,p13),ag5,⟨le,lr12,lx12,fun x hx=>hx,OB0,B10,(ir hO10),o1.wk (by omega),(fun x hv=>(hO10 x).2 (.inl (mo1 x hv))),sp_o1_B10,kr,by omega,by omega,by first | assumption | omega | simp_all⟩⟩
 refine aM ?_
 replace le:=((((le.t m8).t m9).tl lb10).s q11).t m13
 replace o1:=o1.md m13 (fun x hv e=>by have:=o1.vb hv; omega)
 replace B10:=B10.mod m13 (by omega)
 replace lr6:=lr6.t (Mod.mono m13 (fun x _ e=>e ▸ (il hO1 mbr)))
 replace lr12:=lr12.t (Mod.mono m13 (fun x _ e=>e ▸ (il hO10 (lb6 _ (il hO1 mbr)))))
 replace OB0:=OB0.leO m13.1
 exact ⟨(s8,n9,false,O10,p13),ag5,⟨le,lr12,lx12,fun x hx=>hx,OB0,B10,(ir hO10),o1.wk (by omega),(fun x hv=>(hO10 x).2 (.inl (mo1 x hv))),sp_o1_B10,kr,by omega,by omega,by first | assumption | omega | simp_all⟩⟩
 replace le:=(((le.t m8).t m9).tl lb10).s q11
 replace kr:=(kr.newB lb10 hO10 eb10).setO q11 (ir hO10) (by omega)
 replace o1:=(o1.le lb10).st q11 sp_o1_B10
 rintro ⟨kk,nn,gg,OL12,p12⟩ r hl12 ⟨le,lp12,la12,lb12,lo12,B10,mB10,o1,mo1,sp_o1_B10,kr,pa12,pb12,skk⟩
 have zl12:=lp12.1
 replace lr6:=((((lr6.t (Mod.mono m8 (fun x _ e=>e ▸ (il hO1 mbr)))).t (Mod.mono m9 (fun x _ e=>e ▸ (il hO1 mbr)))).tl lb10).s q11).trans2 lp12 lx6
 have lx6:=laL lx6 la12 (by omega)
 refine hw_sr (aB aC<|aD ?_)
 refine dH (fun (k:Nat)=>[(0,.pointer (some ⟨br,0,none⟩)),(1,(.slice Ak1 nk1 ck1)),(5,(.slice A7 n7 c7)),(6,vi i),(7,.pointer (some ⟨b10,0,none⟩)),(8,vi (k:Int))]) (fun (k:Nat) (h' : Heap)=>hl12 = h' ∧ k ≤ m.length) (aX (cK (fun (k:Nat)=>[(0,.pointer (some ⟨br,0,none⟩)),(1,(.slice Ak1 nk1 ck1)),(5,(.slice A7 n7 c7)),(6,vi i),(7,.pointer (some ⟨b10,0,none⟩)),(8,vi (k:Int))]) (fun (k:Nat) (h' : Heap)=>hl12 = h' ∧ k ≤ m.length) (fun (k:Nat)=>m.length - k) (0) ag6 ⟨rfl,by simp⟩ ?_)) ?_
 rintro k r _ ⟨rfl,e3⟩
 refine aI ?_
 refine aI ?_
 refine fR (bN y_move<|bN y_move<|bN (y_lenA o1.1.rd)<|bN dB<|bN y_move<|?_)
 refine mJ 9 [(0,.pointer (some ⟨br,0,none⟩)),(1,(.slice Ak1 nk1 ck1)),(5,(.slice A7 n7 c7)),(6,vi i),(7,.pointer (some ⟨b10,0,none⟩)),(8,vi (k:Int)),(44,vb ((decide ((k:Int) < (m.length:Int))) && ((m[k]?).any (fun y=>(Op.bytesLess y.key kk)))))] (fun r=>?_) (fun jn=>?_)
 refine gO ?_
 refine bF (fun g44=>?_) (fun g44=>?_)
 have g44':=g44
 simp at g44'
 refine aM ?_
 refine aX ?_
 refine aE (aB y_move<|aB bI<|aB aC<|aD ?_)
 exact ⟨k + 1,ag6,⟨rfl,by first | omega | (simp_all; omega)⟩,by first | omega | (dsimp only; omega)⟩
 have g44':=g44
 simp at g44'
 refine cI ?_
 exact ⟨k,ag6,⟨rfl,by first | assumption | omega | simp_all⟩⟩
 refine dA ((k:Int) < (m.length:Int)) (fun g35=>?_) (fun g35=>?_)
 refine dJ (dT g35) y_move<|dJ (dT g35) y_move<|?_
 obtain ⟨x1,hx1⟩:∃ x,m[k]? = some x:=⟨_,List.getElem?_eq_getElem (by omega)⟩
 have sx1:SB x1.key:=o1.2.at hx1
 refine dJ (dT g35) (y_idxA o1.1.rd)<|dJ (dT g35) y_fieldAddr<|dJ (dT g35) (y_load (RdF.cell o1.1.rd hx1 rfl))<|dJ (dT g35) y_fieldAddr<|dJ (dT g35) (y_load (Blk.at B10 rfl rfl))<|dJ (dT g35) aAF<|bN (y_pickT (dT g35))<|?_
 exact jn _ (aA (aA (aA (aA (aA (aA (aA aJ (by simp only [aH,reduceIte,Nat.reduceEqDiff,reduceCtorEq,(dT g35),hx1,bb]))))))))
 refine dI (neF (dF g35))<|dI (neF (dF g35))<|dI (neF (dF g35))<|dI (neF (dF g35))<|dI (neF (dF g35))<|dI (neF (dF g35))<|dI (neF (dF g35))<|dI (neF (dF g35))<|bN (aR (dF g35))<|?_
 exact jn _ (aA (aA (aA (aA (aA (aA (aA aJ (by simp only [aH,reduceIte,Nat.reduceEqDiff,reduceCtorEq,(dF g35),bb]))))))))
 rintro k r _ ⟨rfl,e3⟩
 refine aI ?_
 refine aI ?_
 refine fR (bN y_move<|bN y_move<|bN (y_lenA o1.1.rd)<|bN dB<|bN y_move<|?_)
 refine mJ 9 [(0,.pointer (some ⟨br,0,none⟩)),(1,(.slice Ak1 nk1 ck1)),(5,(.slice A7 n7 c7)),(6,vi i),(7,.pointer (some ⟨b10,0,none⟩)),(8,vi (k:Int)),(60,vb ((decide ((k:Int) < (m.length:Int))) && ((m[k]?).any (fun y=>(decide (y.key = kk))))))] (fun r=>?_) (fun jn=>?_)
 refine gO ?_
 refine bF (fun g60=>?_) (fun g60=>?_)
 have g60':=g60
 simp at g60'
 refine cI ?_
 refine aE (aB y_move<|aB dQ<|aB aC<|aD ?_)
 have OB0:=lo12
 exact ⟨((i - 1),m,OL12,(.slice A7 n7 c7),p12),ag4,⟨le,lr6,lx6,fun x hx=>(lb12 _ (il hO10 (lb6 _ hx))),OB0,o1.wk (by omega),mo1,kr,by omega,by omega,by first | omega | (simp; omega)⟩,by first | omega | (dsimp only; omega)⟩
 have g60':=g60
 simp at g60'
 refine aM ?_
 refine hw_sr (?_)
 have OB0:=lo12
 refine bE (bA (l:=([]:List Write))) (fun v16 h16 q16=>?_)
 obtain ⟨lb16,ow16,sb16⟩:=q16
 have z16:=lb16.1
 obtain ⟨O16,hO16⟩:=mkO (fun x=>OL12 x ∨ vblk v16 x)
 have sp_o1_o16:∀ x,vblk (.slice A7 n7 c7) x → ¬ vblk v16 x:=fun x hv hw=>by have:=o1.vb hv; have:=ow16.vb hw; omega
 have sp_o16_B10:¬ vblk v16 b10:=fun hv=>by have:=ow16.vb hv; omega
 replace kr:=kr.newS lb16 hO16 (fun x hv=>(ow16.vb hv).1)
 have lx6:=laS lx6 hO16 (fun x hv=>by have:=(fun x hv=>(ow16.vb hv).1) x hv; omega)
 have o16:Ow _ _ _ _ _:=⟨ow16,OkL.nil⟩
 obtain ⟨A17,n17,c17,rfl⟩:=o16.frm
 replace o1:=o1.le lb16
 refine aB y_move<|aB y_move<|aB (mP o1.1.rd)<|bE (bW aP o16.1 (RdF.cutLo o1.1.rd (n:=k) (by first | omega | (simp; omega))) (by omega) (Nat.add_le_add o16.2.len (o1.2.drop k).len)) (fun v18 h18 q18=>?_)
 have L1:=o16.2.len
 have L2:=(o1.2.drop k).len
 obtain ⟨O18,hO18,z18,ow18⟩:=q18.ow (OkL.app o16.2 (o1.2.drop k) (by first | omega | (simp only [List.length_append,List.length_take,List.length_drop,List.length_cons,List.length_nil,List.length_set]; omega) | (simp; omega))) O16
 have sp_o1_o16q:=mF sp_o1_o16 q18 (fun x hv=>(o1.vb hv).2)
 have sp_o16_B10q:=fun hv=>(q18.2.2 _ hv).elim sp_o16_B10 (fun e=>by omega)
 replace o1:=o1.ap q18 sp_o1_o16
 have sp_o1_o16:=sp_o1_o16q
 replace B10:=(B10.le lb16).app q18 sp_o16_B10
 have sp_o16_B10:=sp_o16_B10q
 replace lr6:=(lr6.tl lb16).apO q18 (fun x hv=>lx6 x ((fun x hv=>(hO16 x).2 (.inr hv)) x hv))
 replace kr:=kr.appO q18 (fun x hv=>(hO16 x).2 (.inr hv)) hO18 (fun hv=>by have:=o16.vb hv; omega)
 have lx6:=laA lx6 hO18 q18 (fun x hv=>(hO16 x).2 (.inr hv)) (by omega)
 replace le:=(le.tl lb16).ap o16 q18 (by omega)
 have o16:=ow18
 obtain ⟨A19,n19,c19,rfl⟩:=o16.frm
 refine aB aC<|aD ?_
 refine aF (ah7 0 1 5 6 7 8 9) fun r=>?_
 refine aI ?_
 obtain ⟨S20,hS20⟩:=mkO (fun b=>h18.size ≤ b)
 have mR20:Mod S20 h18 h18:=Mod.refl _
 have hd20:∀ b,b < h18.size∧¬ O18 b → ¬ S20 b:=fun b hb hs=>(fun hs=>absurd hb.1 (Nat.not_lt.2 hs)) ((hS20 b).1 hs)
 refine bH 11 S20 bC (ha2_p 1 rfl (fun _=>y_move)<|ha2_p 2 rfl (fun _=>y_move)<|ha2_y 3 rfl (fun _ _=>(iG o1.1.rd))<|ha2_y 5 rfl (fun _ mm=>(y_loadB (Blk.mod B10 mm (fun hs=>by rcases (hS20 _).1 hs with hs <;> first | omega)) 0 _))<|ha2_p 8 rfl (fun _=>y_move)<|?_)
 refine dU 0 6 ?_ ?_
 refine cB rfl (bA (l:=([]:List Write))) (fun v21 h21 q21=>?_)
 obtain ⟨lb21,ow21,sb21⟩:=q21
 have z21:=lb21.1
 replace OB0:=(OB0.newS lb16.1 hO16 (fun x hv=>(ow16.vb hv).2)).app q18 hO18
 obtain ⟨O21,hO21⟩:=mkO (fun x=>O18 x ∨ vblk v21 x)
 have sp_o1_o21:∀ x,vblk (.slice A7 n7 c7) x → ¬ vblk v21 x:=fun x hv hw=>by have:=o1.vb hv; have:=ow21.vb hw; omega
 have sp_o21_B10:¬ vblk v21 b10:=fun hv=>by have:=ow21.vb hv; omega
 have sp_o16_o21:∀ x,vblk (.slice A19 n19 c19) x → ¬ vblk v21 x:=fun x hv hw=>by have:=o16.vb hv; have:=ow21.vb hw; omega
 refine ⟨Le.mod lb21,?_⟩
 replace kr:=kr.newS lb21 hO21 (fun x hv=>(ow21.vb hv).1)
 have lx6:=laS lx6 hO21 (fun x hv=>by have:=(fun x hv=>(ow21.vb hv).1) x hv; omega)
 have o21:Ow _ _ _ _ _:=⟨ow21,OkL.nil⟩
 obtain ⟨A22,n22,c22,rfl⟩:=o21.frm
 refine dU 4 6 ?_ ?_
 replace o1:=o1.le lb21
 refine cB rfl (bW aP o21.1 (RdF.cutHi o1.1.rd (n:=k) (by first | omega | (simp; omega))) (by omega) (Nat.add_le_add o21.2.len (o1.2.take k).len)) (fun v23 h23 q23=>?_)
 have L1:=o21.2.len
 have L2:=(o1.2.take k).len
 obtain ⟨O23,hO23,z23,ow23⟩:=q23.ow (OkL.app o21.2 (o1.2.take k) (by first | omega | (simp only [List.length_append,List.length_take,List.length_drop,List.length_cons,List.length_nil,List.length_set]; omega) | (simp; omega))) O21
 have sp_o1_o21q:=mF sp_o1_o21 q23 (fun x hv=>(o1.vb hv).2)
 have sp_o21_B10q:=fun hv=>(q23.2.2 _ hv).elim sp_o21_B10 (fun e=>by omega)
 replace o16:=o16.le lb21
 have sp_o16_o21q:=mF sp_o16_o21 q23 (fun x hv=>(o16.vb hv).2)
 have ms:=Mod.mono (S':=S20) q23.2.1 (fun x _ e=>(hS20 x).2 (by have:=o21.vb e; first | omega | exact .inl (by omega) | simp [e] | simp [dC e]))
 refine ⟨ms,?_⟩
 replace o1:=o1.ap q23 sp_o1_o21
 have sp_o1_o21:=sp_o1_o21q
 replace B10:=(B10.le lb21).app q23 sp_o21_B10
 have sp_o21_B10:=sp_o21_B10q
 replace o16:=o16.ap q23 sp_o16_o21
 have sp_o16_o21:=sp_o16_o21q
 replace lr6:=(lr6.tl lb21).apO q23 (fun x hv=>lx6 x ((fun x hv=>(hO21 x).2 (.inr hv)) x hv))
 replace kr:=kr.appO q23 (fun x hv=>(hO21 x).2 (.inr hv)) hO23 (fun hv=>by have:=o21.vb hv; omega)
 have lx6:=laA lx6 hO23 q23 (fun x hv=>(hO21 x).2 (.inr hv)) (by omega)
 replace le:=(le.tl lb21).ap o21 q23 (by omega)
 have o21:=ow23
 obtain ⟨A24,n24,c24,rfl⟩:=o21.frm
 refine aW 6 (?_)
 refine cB rfl (bA (l:=([(⟨kk,nn,gg⟩:Write)]:List Write))) (fun v25 h25 q25=>?_)
 obtain ⟨lb25,ow25,sb25⟩:=q25
 have z25:=lb25.1
 refine ⟨Le.mod lb25,?_⟩
 replace OB0:=(OB0.newS lb21.1 hO21 (fun x hv=>(ow21.vb hv).2)).app q23 hO23
 have k25:Rs _ O23 _ _:=Ow.end ⟨ow25,ok1⟩ OB0
 obtain ⟨A26,n26,c26,rfl⟩:=k25.frm
 replace o21:=o21.le lb25
 refine aW 7 (cB rfl (bW aP o21.1 k25.1 (by omega) (Nat.add_le_add o21.2.len k25.2.len)) (fun v27 h27 q27=>?_))
 have L1:=o21.2.len
 have L2:=k25.2.len
 obtain ⟨O27,hO27,z27,ow27⟩:=q27.ow (OkL.app o21.2 k25.2 (by first | omega | (simp only [List.length_append,List.length_take,List.length_drop,List.length_cons,List.length_nil,List.length_set]; omega) | (simp; omega))) O23
 replace o1:=o1.le lb25
 have sp_o1_o21q:=mF sp_o1_o21 q27 (fun x hv=>(o1.vb hv).2)
 have sp_o21_B10q:=fun hv=>(q27.2.2 _ hv).elim sp_o21_B10 (fun e=>by omega)
 replace o16:=o16.le lb25
 have sp_o16_o21q:=mF sp_o16_o21 q27 (fun x hv=>(o16.vb hv).2)
 replace mR20:=((mR20.tl lb21).t ms).tl lb25
 have ms:=Mod.mono (S':=S20) q27.2.1 (fun x _ e=>(hS20 x).2 (by have:=o21.vb e; first | omega | exact .inl (by omega) | simp [e] | simp [dC e]))
 refine ⟨ms,?_⟩
 replace o1:=o1.ap q27 sp_o1_o21
 have sp_o1_o21:=sp_o1_o21q
 replace B10:=(B10.le lb25).app q27 sp_o21_B10
 have sp_o21_B10:=sp_o21_B10q
 replace o16:=o16.ap q27 sp_o16_o21
 have sp_o16_o21:=sp_o16_o21q
 replace kr:=(kr.leO lb25).appO q27 (fun x hv=>(hO23 x).2 (.inr hv)) hO27 (fun hv=>by have:=o21.vb hv; omega)
 replace lr6:=(lr6.tl lb25).apO q27 (fun x hv=>lx6 x ((fun x hv=>(hO23 x).2 (.inr hv)) x hv))
 have lx6:=laA lx6 hO27 q27 (fun x hv=>(hO23 x).2 (.inr hv)) (by omega)
 replace le:=(le.tl lb25).ap o21 q27 (by omega)
 have o21:=ow27
 obtain ⟨A28,n28,c28,rfl⟩:=o21.frm
 refine aW 9 (cB rfl (bW aP o21.1 o16.1.rd (by omega) (Nat.add_le_add o21.2.len o16.2.len)) (fun v29 h29 q29=>?_))
 have L1:=o21.2.len
 have L2:=o16.2.len
 obtain ⟨O29,hO29,z29,ow29⟩:=q29.ow (OkL.app o21.2 o16.2 (by first | omega | (simp only [List.length_append,List.length_take,List.length_drop,List.length_cons,List.length_nil,List.length_set]; omega) | (simp; omega))) O27
 have sp_o1_o21q:=mF sp_o1_o21 q29 (fun x hv=>(o1.vb hv).2)
 have sp_o21_B10q:=fun hv=>(q29.2.2 _ hv).elim sp_o21_B10 (fun e=>by omega)
 have sp_o16_o21q:=mF sp_o16_o21 q29 (fun x hv=>(o16.vb hv).2)
 replace mR20:=mR20.t ms
 have ms:=Mod.mono (S':=S20) q29.2.1 (fun x _ e=>(hS20 x).2 (by have:=o21.vb e; first | omega | exact .inl (by omega) | simp [e] | simp [dC e]))
 refine ⟨ms,?_⟩
 replace o1:=o1.ap q29 sp_o1_o21
 have sp_o1_o21:=sp_o1_o21q
 replace B10:=B10.app q29 sp_o21_B10
 have sp_o21_B10:=sp_o21_B10q
 replace o16:=o16.ap q29 sp_o16_o21
 have sp_o16_o21:=sp_o16_o21q
 replace kr:=kr.appO q29 (fun x hv=>(hO27 x).2 (.inr hv)) hO29 (fun hv=>by have:=o21.vb hv; omega)
 replace lr6:=lr6.apO q29 (fun x hv=>lx6 x ((fun x hv=>(hO27 x).2 (.inr hv)) x hv))
 have lx6:=laA lx6 hO29 q29 (fun x hv=>(hO27 x).2 (.inr hv)) (by omega)
 replace le:=le.ap o21 q29 (by omega)
 have o21:=ow29
 obtain ⟨A30,n30,c30,rfl⟩:=o21.frm
 refine ha2_p 10 rfl (fun _=>aC)<|cN ?_
 refine aF (ah5 0 1 5 6 10) fun r=>?_
 refine hw_sr (aB y_move<|dY aG (iL (Ow.any o21))<|aB y_move<|?_)
 refine eT (b:=fI ((([] ++ (m.take k)) ++ ([(⟨kk,nn,gg⟩:Write)]:List Write)) ++ ([] ++ (m.drop k)))) (fun g78=>?_) (fun g78=>?_)
 refine aN (neT g78)<|aN (neT g78)<|aN (neT g78)<|aB (y_pickT g78)<|aD ?_
 refine aF (ah6 0 1 5 6 10 82) fun r=>?_
 refine fP rfl ?_
 refine aE (aB y_move<|aB aC<|aD ?_)
 refine aE (aB y_move<|aB dQ<|aB aC<|aD ?_)
 replace OB0:=((OB0.leO lb25.1).app q27 hO27).app q29 hO29
 exact ⟨((i - 1),((([] ++ (m.take k)) ++ ([(⟨kk,nn,gg⟩:Write)]:List Write)) ++ ([] ++ (m.drop k))),O29,(.slice A30 n30 c30),p12),ag4,⟨le,lr6,lx6,fun x hx=>(il hO29 (il hO27 (il hO23 (il hO21 (il hO18 (il hO16 (lb12 _ (il hO10 (lb6 _ hx))))))))),OB0,o21.wk (by omega),(fun x hv=>(hO29 x).2 (.inr hv)),kr,by omega,by omega,by first | omega | (simp; omega)⟩,by first | omega | (dsimp only; omega)⟩
 replace OB0:=((OB0.leO lb25.1).app q27 hO27).app q29 hO29
 refine aO g78 y_move<|iR g78 aG (eH kr OB0) (fun v31 h31 q31=>?_)
 obtain ⟨i31,rfl,⟨m31,p31,kr,pa31,pb31⟩,pr31⟩:=q31
 have z31:=m31.1
 refine aO g78 bM<|aB (aR g78)<|aD ?_
 refine aF (ah6 0 1 5 6 10 82) fun r=>?_
 refine aZ (fun g82=>?_) (fun g82=>?_)
 refine aE (aB y_move<|aB aC<|aD ?_)
 refine aE (aB y_move<|aB dQ<|aB aC<|aD ?_)
 replace o1:=o1.md m31 (fun x hv e=>by have:=o1.vb hv; omega)
 replace o21:=o21.md m31 (fun x hv e=>by have:=o21.vb hv; omega)
 replace le:=le.t m31
 replace lr6:=lr6.t (Mod.mono m31 (fun x _ e=>e ▸ (il hO1 mbr)))
 replace OB0:=OB0.leO m31.1
 exact ⟨((i - 1),((([] ++ (m.take k)) ++ ([(⟨kk,nn,gg⟩:Write)]:List Write)) ++ ([] ++ (m.drop k))),O29,(.slice A30 n30 c30),p31),ag4,⟨le,lr6,lx6,fun x hx=>(il hO29 (il hO27 (il hO23 (il hO21 (il hO18 (il hO16 (lb12 _ (il hO10 (lb6 _ hx))))))))),OB0,o21.wk (by omega),(fun x hv=>(hO29 x).2 (.inr hv)),kr,by omega,by omega,by first | omega | (simp; omega)⟩,by first | omega | (dsimp only; omega)⟩
 refine aM ?_
 refine aE (aB y_move<|aB dQ<|aB aC<|aD ?_)
 replace o1:=o1.md m31 (fun x hv e=>by have:=o1.vb hv; omega)
 replace o21:=o21.md m31 (fun x hv e=>by have:=o21.vb hv; omega)
 replace le:=le.t m31
 replace lr6:=lr6.t (Mod.mono m31 (fun x _ e=>e ▸ (il hO1 mbr)))
 replace OB0:=OB0.leO m31.1
 exact ⟨((i - 1),m,O29,(.slice A7 n7 c7),p31),ag4,⟨le,lr6,lx6,fun x hx=>(il hO29 (il hO27 (il hO23 (il hO21 (il hO18 (il hO16 (lb12 _ (il hO10 (lb6 _ hx))))))))),OB0,o1.wk (by omega),(fun x hv=>(hO29 x).2 (.inl ((fun x hv=>(hO27 x).2 (.inl ((fun x hv=>(hO23 x).2 (.inl ((fun x hv=>(hO21 x).2 (.inl ((fun x hv=>(hO18 x).2 (.inl ((fun x hv=>(hO16 x).2 (.inl (mo1 x hv))) x hv))) x hv))) x hv))) x hv))) x hv))),kr,by omega,by omega,by first | omega | (simp; omega)⟩,by first | omega | (dsimp only; omega)⟩
 refine cB rfl (bA (l:=([(⟨kk,nn,gg⟩:Write)]:List Write))) (fun v32 h32 q32=>?_)
 obtain ⟨lb32,ow32,sb32⟩:=q32
 have z32:=lb32.1
 refine ⟨Le.mod lb32,?_⟩
 replace OB0:=OB0.newS lb21.1 hO21 (fun x hv=>(ow21.vb hv).2)
 have k32:Rs _ O21 _ _:=Ow.end ⟨ow32,ok1⟩ OB0
 obtain ⟨A33,n33,c33,rfl⟩:=k32.frm
 replace o1:=(o1.le lb21).le lb32
 replace o21:=o21.le lb32
 refine aW 4 (cB rfl (bW aP o21.1 (RdF.cutHi o1.1.rd (n:=k) (by first | omega | (simp; omega))) (by omega) (Nat.add_le_add o21.2.len (o1.2.take k).len)) (fun v34 h34 q34=>?_))
 have L1:=o21.2.len
 have L2:=(o1.2.take k).len
 obtain ⟨O34,hO34,z34,ow34⟩:=q34.ow (OkL.app o21.2 (o1.2.take k) (by first | omega | (simp only [List.length_append,List.length_take,List.length_drop,List.length_cons,List.length_nil,List.length_set]; omega) | (simp; omega))) O21
 have sp_o1_o21q:=mF sp_o1_o21 q34 (fun x hv=>(o1.vb hv).2)
 have sp_o21_B10q:=fun hv=>(q34.2.2 _ hv).elim sp_o21_B10 (fun e=>by omega)
 replace o16:=(o16.le lb21).le lb32
 have sp_o16_o21q:=mF sp_o16_o21 q34 (fun x hv=>(o16.vb hv).2)
 have ms:=Mod.mono (S':=S20) q34.2.1 (fun x _ e=>(hS20 x).2 (by have:=o21.vb e; first | omega | exact .inl (by omega) | simp [e] | simp [dC e]))
 refine ⟨ms,?_⟩
 replace o1:=o1.ap q34 sp_o1_o21
 have sp_o1_o21:=sp_o1_o21q
 replace B10:=((B10.le lb21).le lb32).app q34 sp_o21_B10
 have sp_o21_B10:=sp_o21_B10q
 replace o16:=o16.ap q34 sp_o16_o21
 have sp_o16_o21:=sp_o16_o21q
 replace lr6:=((lr6.tl lb21).tl lb32).apO q34 (fun x hv=>lx6 x ((fun x hv=>(hO21 x).2 (.inr hv)) x hv))
 replace kr:=(kr.leO lb32).appO q34 (fun x hv=>(hO21 x).2 (.inr hv)) hO34 (fun hv=>by have:=o21.vb hv; omega)
 have lx6:=laA lx6 hO34 q34 (fun x hv=>(hO21 x).2 (.inr hv)) (by omega)
 replace le:=((le.tl lb21).tl lb32).ap o21 q34 (by omega)
 have o21:=ow34
 obtain ⟨A35,n35,c35,rfl⟩:=o21.frm
 refine aW 7 (?_)
 replace k32:=k32.ap q34 (fun x hv=>(hO21 x).2 (.inr hv)) hO34
 refine cB rfl (bW aP o21.1 k32.1 (by omega) (Nat.add_le_add o21.2.len k32.2.len)) (fun v36 h36 q36=>?_)
 have L1:=o21.2.len
 have L2:=k32.2.len
 obtain ⟨O36,hO36,z36,ow36⟩:=q36.ow (OkL.app o21.2 k32.2 (by first | omega | (simp only [List.length_append,List.length_take,List.length_drop,List.length_cons,List.length_nil,List.length_set]; omega) | (simp; omega))) O34
 have sp_o1_o21q:=mF sp_o1_o21 q36 (fun x hv=>(o1.vb hv).2)
 have sp_o21_B10q:=fun hv=>(q36.2.2 _ hv).elim sp_o21_B10 (fun e=>by omega)
 have sp_o16_o21q:=mF sp_o16_o21 q36 (fun x hv=>(o16.vb hv).2)
 replace mR20:=((mR20.tl lb21).tl lb32).t ms
 have ms:=Mod.mono (S':=S20) q36.2.1 (fun x _ e=>(hS20 x).2 (by have:=o21.vb e; first | omega | exact .inl (by omega) | simp [e] | simp [dC e]))
 refine ⟨ms,?_⟩
 replace o1:=o1.ap q36 sp_o1_o21
 have sp_o1_o21:=sp_o1_o21q
 replace B10:=B10.app q36 sp_o21_B10
 have sp_o21_B10:=sp_o21_B10q
 replace o16:=o16.ap q36 sp_o16_o21
 have sp_o16_o21:=sp_o16_o21q
 replace kr:=kr.appO q36 (fun x hv=>(hO34 x).2 (.inr hv)) hO36 (fun hv=>by have:=o21.vb hv; omega)
 replace lr6:=lr6.apO q36 (fun x hv=>lx6 x ((fun x hv=>(hO34 x).2 (.inr hv)) x hv))
 have lx6:=laA lx6 hO36 q36 (fun x hv=>(hO34 x).2 (.inr hv)) (by omega)
 replace le:=le.ap o21 q36 (by omega)
 have o21:=ow36
 obtain ⟨A37,n37,c37,rfl⟩:=o21.frm
 refine aW 9 (cB rfl (bW aP o21.1 o16.1.rd (by omega) (Nat.add_le_add o21.2.len o16.2.len)) (fun v38 h38 q38=>?_))
 have L1:=o21.2.len
 have L2:=o16.2.len
 obtain ⟨O38,hO38,z38,ow38⟩:=q38.ow (OkL.app o21.2 o16.2 (by first | omega | (simp only [List.length_append,List.length_take,List.length_drop,List.length_cons,List.length_nil,List.length_set]; omega) | (simp; omega))) O36
 have sp_o1_o21q:=mF sp_o1_o21 q38 (fun x hv=>(o1.vb hv).2)
 have sp_o21_B10q:=fun hv=>(q38.2.2 _ hv).elim sp_o21_B10 (fun e=>by omega)
 have sp_o16_o21q:=mF sp_o16_o21 q38 (fun x hv=>(o16.vb hv).2)
 replace mR20:=mR20.t ms
 have ms:=Mod.mono (S':=S20) q38.2.1 (fun x _ e=>(hS20 x).2 (by have:=o21.vb e; first | omega | exact .inl (by omega) | simp [e] | simp [dC e]))
 refine ⟨ms,?_⟩
 replace o1:=o1.ap q38 sp_o1_o21
 have sp_o1_o21:=sp_o1_o21q
 replace B10:=B10.app q38 sp_o21_B10
 have sp_o21_B10:=sp_o21_B10q
 replace o16:=o16.ap q38 sp_o16_o21
 have sp_o16_o21:=sp_o16_o21q
 replace kr:=kr.appO q38 (fun x hv=>(hO36 x).2 (.inr hv)) hO38 (fun hv=>by have:=o21.vb hv; omega)
 replace lr6:=lr6.apO q38 (fun x hv=>lx6 x ((fun x hv=>(hO36 x).2 (.inr hv)) x hv))
 have lx6:=laA lx6 hO38 q38 (fun x hv=>(hO36 x).2 (.inr hv)) (by omega)
 replace le:=le.ap o21 q38 (by omega)
 have o21:=ow38
 obtain ⟨A39,n39,c39,rfl⟩:=o21.frm
 refine ha2_p 10 rfl (fun _=>aC)<|cN ?_
 refine aF (ah5 0 1 5 6 10) fun r=>?_
 refine hw_sr (aB y_move<|dY aG (iL (Ow.any o21))<|aB y_move<|?_)
 refine eT (b:=fI ((([] ++ (m.take k)) ++ ([(⟨kk,nn,gg⟩:Write)]:List Write)) ++ ([] ++ (m.drop k)))) (fun g78=>?_) (fun g78=>?_)
 refine aN (neT g78)<|aN (neT g78)<|aN (neT g78)<|aB (y_pickT g78)<|aD ?_
 refine aF (ah6 0 1 5 6 10 82) fun r=>?_
 refine fP rfl ?_
 refine aE (aB y_move<|aB aC<|aD ?_)
 refine aE (aB y_move<|aB dQ<|aB aC<|aD ?_)
 replace OB0:=(((OB0.leO lb32.1).app q34 hO34).app q36 hO36).app q38 hO38
 exact ⟨((i - 1),((([] ++ (m.take k)) ++ ([(⟨kk,nn,gg⟩:Write)]:List Write)) ++ ([] ++ (m.drop k))),O38,(.slice A39 n39 c39),p12),ag4,⟨le,lr6,lx6,fun x hx=>(il hO38 (il hO36 (il hO34 (il hO21 (il hO18 (il hO16 (lb12 _ (il hO10 (lb6 _ hx))))))))),OB0,o21.wk (by omega),(fun x hv=>(hO38 x).2 (.inr hv)),kr,by omega,by omega,by first | omega | (simp; omega)⟩,by first | omega | (dsimp only; omega)⟩
 replace OB0:=(((OB0.leO lb32.1).app q34 hO34).app q36 hO36).app q38 hO38
 refine aO g78 y_move<|iR g78 aG (eH kr OB0) (fun v40 h40 q40=>?_)
 obtain ⟨i40,rfl,⟨m40,p40,kr,pa40,pb40⟩,pr40⟩:=q40
 have z40:=m40.1
 refine aO g78 bM<|aB (aR g78)<|aD ?_
 refine aF (ah6 0 1 5 6 10 82) fun r=>?_
 refine aZ (fun g82=>?_) (fun g82=>?_)
 refine aE (aB y_move<|aB aC<|aD ?_)
 refine aE (aB y_move<|aB dQ<|aB aC<|aD ?_)
 replace o1:=o1.md m40 (fun x hv e=>by have:=o1.vb hv; omega)
 replace o21:=o21.md m40 (fun x hv e=>by have:=o21.vb hv; omega)
 replace le:=le.t m40
 replace lr6:=lr6.t (Mod.mono m40 (fun x _ e=>e ▸ (il hO1 mbr)))
 replace OB0:=OB0.leO m40.1
 exact ⟨((i - 1),((([] ++ (m.take k)) ++ ([(⟨kk,nn,gg⟩:Write)]:List Write)) ++ ([] ++ (m.drop k))),O38,(.slice A39 n39 c39),p40),ag4,⟨le,lr6,lx6,fun x hx=>(il hO38 (il hO36 (il hO34 (il hO21 (il hO18 (il hO16 (lb12 _ (il hO10 (lb6 _ hx))))))))),OB0,o21.wk (by omega),(fun x hv=>(hO38 x).2 (.inr hv)),kr,by omega,by omega,by first | omega | (simp; omega)⟩,by first | omega | (dsimp only; omega)⟩
 refine aM ?_
 refine aE (aB y_move<|aB dQ<|aB aC<|aD ?_)
 replace o1:=o1.md m40 (fun x hv e=>by have:=o1.vb hv; omega)
 replace o21:=o21.md m40 (fun x hv e=>by have:=o21.vb hv; omega)
 replace le:=le.t m40
 replace lr6:=lr6.t (Mod.mono m40 (fun x _ e=>e ▸ (il hO1 mbr)))
 replace OB0:=OB0.leO m40.1
 exact ⟨((i - 1),m,O38,(.slice A7 n7 c7),p40),ag4,⟨le,lr6,lx6,fun x hx=>(il hO38 (il hO36 (il hO34 (il hO21 (il hO18 (il hO16 (lb12 _ (il hO10 (lb6 _ hx))))))))),OB0,o1.wk (by omega),(fun x hv=>(hO38 x).2 (.inl ((fun x hv=>(hO36 x).2 (.inl ((fun x hv=>(hO34 x).2 (.inl ((fun x hv=>(hO21 x).2 (.inl ((fun x hv=>(hO18 x).2 (.inl ((fun x hv=>(hO16 x).2 (.inl (mo1 x hv))) x hv))) x hv))) x hv))) x hv))) x hv))),kr,by omega,by omega,by first | omega | (simp; omega)⟩,by first | omega | (dsimp only; omega)⟩
 refine cB rfl (bA (l:=([(⟨kk,nn,gg⟩:Write)]:List Write))) (fun v41 h41 q41=>?_)
 obtain ⟨lb41,ow41,sb41⟩:=q41
 have z41:=lb41.1
 refine ⟨Le.mod lb41,?_⟩
 replace OB0:=(OB0.newS lb16.1 hO16 (fun x hv=>(ow16.vb hv).2)).app q18 hO18
 have k41:Rs _ O18 _ _:=Ow.end ⟨ow41,ok1⟩ OB0
 obtain ⟨A42,n42,c42,rfl⟩:=k41.frm
 refine aW 0 (?_)
 refine cB rfl (bA (l:=([]:List Write))) (fun v43 h43 q43=>?_)
 obtain ⟨lb43,ow43,sb43⟩:=q43
 have z43:=lb43.1
 obtain ⟨O43,hO43⟩:=mkO (fun x=>O18 x ∨ vblk v43 x)
 replace o1:=o1.le lb41
 have sp_o1_o43:∀ x,vblk (.slice A7 n7 c7) x → ¬ vblk v43 x:=fun x hv hw=>by have:=o1.vb hv; have:=ow43.vb hw; omega
 have sp_o43_B10:¬ vblk v43 b10:=fun hv=>by have:=ow43.vb hv; omega
 replace o16:=o16.le lb41
 have sp_o16_o43:∀ x,vblk (.slice A19 n19 c19) x → ¬ vblk v43 x:=fun x hv hw=>by have:=o16.vb hv; have:=ow43.vb hw; omega
 refine ⟨Le.mod lb43,?_⟩
 replace kr:=(kr.leO lb41).newS lb43 hO43 (fun x hv=>(ow43.vb hv).1)
 have lx6:=laS lx6 hO43 (fun x hv=>by have:=(fun x hv=>(ow43.vb hv).1) x hv; omega)
 have o43:Ow _ _ _ _ _:=⟨ow43,OkL.nil⟩
 obtain ⟨A44,n44,c44,rfl⟩:=o43.frm
 replace o1:=o1.le lb43
 refine aW 4 (cB rfl (bW aP o43.1 (RdF.cutHi o1.1.rd (n:=k) (by first | omega | (simp; omega))) (by omega) (Nat.add_le_add o43.2.len (o1.2.take k).len)) (fun v45 h45 q45=>?_))
 have L1:=o43.2.len
 have L2:=(o1.2.take k).len
 obtain ⟨O45,hO45,z45,ow45⟩:=q45.ow (OkL.app o43.2 (o1.2.take k) (by first | omega | (simp only [List.length_append,List.length_take,List.length_drop,List.length_cons,List.length_nil,List.length_set]; omega) | (simp; omega))) O43
 have sp_o1_o43q:=mF sp_o1_o43 q45 (fun x hv=>(o1.vb hv).2)
 have sp_o43_B10q:=fun hv=>(q45.2.2 _ hv).elim sp_o43_B10 (fun e=>by omega)
 replace o16:=o16.le lb43
 have sp_o16_o43q:=mF sp_o16_o43 q45 (fun x hv=>(o16.vb hv).2)
 have ms:=Mod.mono (S':=S20) q45.2.1 (fun x _ e=>(hS20 x).2 (by have:=o43.vb e; first | omega | exact .inl (by omega) | simp [e] | simp [dC e]))
 refine ⟨ms,?_⟩
 replace o1:=o1.ap q45 sp_o1_o43
 have sp_o1_o43:=sp_o1_o43q
 replace B10:=((B10.le lb41).le lb43).app q45 sp_o43_B10
 have sp_o43_B10:=sp_o43_B10q
 replace o16:=o16.ap q45 sp_o16_o43
 have sp_o16_o43:=sp_o16_o43q
 replace lr6:=((lr6.tl lb41).tl lb43).apO q45 (fun x hv=>lx6 x ((fun x hv=>(hO43 x).2 (.inr hv)) x hv))
 replace kr:=kr.appO q45 (fun x hv=>(hO43 x).2 (.inr hv)) hO45 (fun hv=>by have:=o43.vb hv; omega)
 have lx6:=laA lx6 hO45 q45 (fun x hv=>(hO43 x).2 (.inr hv)) (by omega)
 replace le:=((le.tl lb41).tl lb43).ap o43 q45 (by omega)
 have o43:=ow45
 obtain ⟨A46,n46,c46,rfl⟩:=o43.frm
 refine aW 7 (?_)
 replace k41:=(k41.ns lb43 hO43 (fun x hv=>(ow43.vb hv).1)).ap q45 (fun x hv=>(hO43 x).2 (.inr hv)) hO45
 refine cB rfl (bW aP o43.1 k41.1 (by omega) (Nat.add_le_add o43.2.len k41.2.len)) (fun v47 h47 q47=>?_)
 have L1:=o43.2.len
 have L2:=k41.2.len
 obtain ⟨O47,hO47,z47,ow47⟩:=q47.ow (OkL.app o43.2 k41.2 (by first | omega | (simp only [List.length_append,List.length_take,List.length_drop,List.length_cons,List.length_nil,List.length_set]; omega) | (simp; omega))) O45
 have sp_o1_o43q:=mF sp_o1_o43 q47 (fun x hv=>(o1.vb hv).2)
 have sp_o43_B10q:=fun hv=>(q47.2.2 _ hv).elim sp_o43_B10 (fun e=>by omega)
 have sp_o16_o43q:=mF sp_o16_o43 q47 (fun x hv=>(o16.vb hv).2)
 replace mR20:=((mR20.tl lb41).tl lb43).t ms
 have ms:=Mod.mono (S':=S20) q47.2.1 (fun x _ e=>(hS20 x).2 (by have:=o43.vb e; first | omega | exact .inl (by omega) | simp [e] | simp [dC e]))
 refine ⟨ms,?_⟩
 replace o1:=o1.ap q47 sp_o1_o43
 have sp_o1_o43:=sp_o1_o43q
 replace B10:=B10.app q47 sp_o43_B10
 have sp_o43_B10:=sp_o43_B10q
 replace o16:=o16.ap q47 sp_o16_o43
 have sp_o16_o43:=sp_o16_o43q
 replace kr:=kr.appO q47 (fun x hv=>(hO45 x).2 (.inr hv)) hO47 (fun hv=>by have:=o43.vb hv; omega)
 replace lr6:=lr6.apO q47 (fun x hv=>lx6 x ((fun x hv=>(hO45 x).2 (.inr hv)) x hv))
 have lx6:=laA lx6 hO47 q47 (fun x hv=>(hO45 x).2 (.inr hv)) (by omega)
 replace le:=le.ap o43 q47 (by omega)
 have o43:=ow47
 obtain ⟨A48,n48,c48,rfl⟩:=o43.frm
 refine aW 9 (cB rfl (bW aP o43.1 o16.1.rd (by omega) (Nat.add_le_add o43.2.len o16.2.len)) (fun v49 h49 q49=>?_))
 have L1:=o43.2.len
 have L2:=o16.2.len
 obtain ⟨O49,hO49,z49,ow49⟩:=q49.ow (OkL.app o43.2 o16.2 (by first | omega | (simp only [List.length_append,List.length_take,List.length_drop,List.length_cons,List.length_nil,List.length_set]; omega) | (simp; omega))) O47
 have sp_o1_o43q:=mF sp_o1_o43 q49 (fun x hv=>(o1.vb hv).2)
 have sp_o43_B10q:=fun hv=>(q49.2.2 _ hv).elim sp_o43_B10 (fun e=>by omega)
 have sp_o16_o43q:=mF sp_o16_o43 q49 (fun x hv=>(o16.vb hv).2)
 replace mR20:=mR20.t ms
 have ms:=Mod.mono (S':=S20) q49.2.1 (fun x _ e=>(hS20 x).2 (by have:=o43.vb e; first | omega | exact .inl (by omega) | simp [e] | simp [dC e]))
 refine ⟨ms,?_⟩
 replace o1:=o1.ap q49 sp_o1_o43
 have sp_o1_o43:=sp_o1_o43q
 replace B10:=B10.app q49 sp_o43_B10
 have sp_o43_B10:=sp_o43_B10q
 replace o16:=o16.ap q49 sp_o16_o43
 have sp_o16_o43:=sp_o16_o43q
 replace kr:=kr.appO q49 (fun x hv=>(hO47 x).2 (.inr hv)) hO49 (fun hv=>by have:=o43.vb hv; omega)
 replace lr6:=lr6.apO q49 (fun x hv=>lx6 x ((fun x hv=>(hO47 x).2 (.inr hv)) x hv))
 have lx6:=laA lx6 hO49 q49 (fun x hv=>(hO47 x).2 (.inr hv)) (by omega)
 replace le:=le.ap o43 q49 (by omega)
 have o43:=ow49
 obtain ⟨A50,n50,c50,rfl⟩:=o43.frm
 refine ha2_p 10 rfl (fun _=>aC)<|cN ?_
 refine aF (ah5 0 1 5 6 10) fun r=>?_
 refine hw_sr (aB y_move<|dY aG (iL (Ow.any o43))<|aB y_move<|?_)
 refine eT (b:=fI ((([] ++ (m.take k)) ++ ([(⟨kk,nn,gg⟩:Write)]:List Write)) ++ ([] ++ (m.drop k)))) (fun g78=>?_) (fun g78=>?_)
 refine aN (neT g78)<|aN (neT g78)<|aN (neT g78)<|aB (y_pickT g78)<|aD ?_
 refine aF (ah6 0 1 5 6 10 82) fun r=>?_
 refine fP rfl ?_
 refine aE (aB y_move<|aB aC<|aD ?_)
 refine aE (aB y_move<|aB dQ<|aB aC<|aD ?_)
 replace OB0:=((((OB0.leO lb41.1).newS lb43.1 hO43 (fun x hv=>(ow43.vb hv).2)).app q45 hO45).app q47 hO47).app q49 hO49
 exact ⟨((i - 1),((([] ++ (m.take k)) ++ ([(⟨kk,nn,gg⟩:Write)]:List Write)) ++ ([] ++ (m.drop k))),O49,(.slice A50 n50 c50),p12),ag4,⟨le,lr6,lx6,fun x hx=>(il hO49 (il hO47 (il hO45 (il hO43 (il hO18 (il hO16 (lb12 _ (il hO10 (lb6 _ hx))))))))),OB0,o43.wk (by omega),(fun x hv=>(hO49 x).2 (.inr hv)),kr,by omega,by omega,by first | omega | (simp; omega)⟩,by first | omega | (dsimp only; omega)⟩
 replace OB0:=((((OB0.leO lb41.1).newS lb43.1 hO43 (fun x hv=>(ow43.vb hv).2)).app q45 hO45).app q47 hO47).app q49 hO49
 refine aO g78 y_move<|iR g78 aG (eH kr OB0) (fun v51 h51 q51=>?_)
 obtain ⟨i51,rfl,⟨m51,p51,kr,pa51,pb51⟩,pr51⟩:=q51
 have z51:=m51.1
 refine aO g78 bM<|aB (aR g78)<|aD ?_
 refine aF (ah6 0 1 5 6 10 82) fun r=>?_
 refine aZ (fun g82=>?_) (fun g82=>?_)
 refine aE (aB y_move<|aB aC<|aD ?_)
 refine aE (aB y_move<|aB dQ<|aB aC<|aD ?_)
 replace o1:=o1.md m51 (fun x hv e=>by have:=o1.vb hv; omega)
 replace o43:=o43.md m51 (fun x hv e=>by have:=o43.vb hv; omega)
 replace le:=le.t m51
 replace lr6:=lr6.t (Mod.mono m51 (fun x _ e=>e ▸ (il hO1 mbr)))
 replace OB0:=OB0.leO m51.1
 exact ⟨((i - 1),((([] ++ (m.take k)) ++ ([(⟨kk,nn,gg⟩:Write)]:List Write)) ++ ([] ++ (m.drop k))),O49,(.slice A50 n50 c50),p51),ag4,⟨le,lr6,lx6,fun x hx=>(il hO49 (il hO47 (il hO45 (il hO43 (il hO18 (il hO16 (lb12 _ (il hO10 (lb6 _ hx))))))))),OB0,o43.wk (by omega),(fun x hv=>(hO49 x).2 (.inr hv)),kr,by omega,by omega,by first | omega | (simp; omega)⟩,by first | omega | (dsimp only; omega)⟩
 refine aM ?_
 refine aE (aB y_move<|aB dQ<|aB aC<|aD ?_)
 replace o1:=o1.md m51 (fun x hv e=>by have:=o1.vb hv; omega)
 replace o43:=o43.md m51 (fun x hv e=>by have:=o43.vb hv; omega)
 replace le:=le.t m51
 replace lr6:=lr6.t (Mod.mono m51 (fun x _ e=>e ▸ (il hO1 mbr)))
 replace OB0:=OB0.leO m51.1
 exact ⟨((i - 1),m,O49,(.slice A7 n7 c7),p51),ag4,⟨le,lr6,lx6,fun x hx=>(il hO49 (il hO47 (il hO45 (il hO43 (il hO18 (il hO16 (lb12 _ (il hO10 (lb6 _ hx))))))))),OB0,o1.wk (by omega),(fun x hv=>(hO49 x).2 (.inl ((fun x hv=>(hO47 x).2 (.inl ((fun x hv=>(hO45 x).2 (.inl ((fun x hv=>(hO43 x).2 (.inl ((fun x hv=>(hO18 x).2 (.inl ((fun x hv=>(hO16 x).2 (.inl (mo1 x hv))) x hv))) x hv))) x hv))) x hv))) x hv))),kr,by omega,by omega,by first | omega | (simp; omega)⟩,by first | omega | (dsimp only; omega)⟩
 refine dA ((k:Int) < (m.length:Int)) (fun g51=>?_) (fun g51=>?_)
 refine dJ (dT g51) y_move<|dJ (dT g51) y_move<|?_
 obtain ⟨x1,hx1⟩:∃ x,m[k]? = some x:=⟨_,List.getElem?_eq_getElem (by omega)⟩
 have sx1:SB x1.key:=o1.2.at hx1
 refine dJ (dT g51) (y_idxA o1.1.rd)<|dJ (dT g51) y_fieldAddr<|dJ (dT g51) (y_load (RdF.cell o1.1.rd hx1 rfl))<|dJ (dT g51) y_fieldAddr<|dJ (dT g51) (y_load (Blk.at B10 rfl rfl))<|dJ (dT g51) y_seql<|bN (y_pickT (dT g51))<|?_
 exact jn _ (aA (aA (aA (aA (aA (aA (aA aJ (by simp only [aH,reduceIte,Nat.reduceEqDiff,reduceCtorEq,(dT g51),hx1,bb]))))))))
 refine dI (neF (dF g51))<|dI (neF (dF g51))<|dI (neF (dF g51))<|dI (neF (dF g51))<|dI (neF (dF g51))<|dI (neF (dF g51))<|dI (neF (dF g51))<|dI (neF (dF g51))<|bN (aR (dF g51))<|?_
 exact jn _ (aA (aA (aA (aA (aA (aA (aA aJ (by simp only [aH,reduceIte,Nat.reduceEqDiff,reduceCtorEq,(dF g51),bb]))))))))
 refine cI ?_
 have OB0:=lo6
 exact ⟨(i,m,OL6,(.slice A7 n7 c7),p6),ag4,⟨le,lr6,lx6,fun x hx=>(lb6 _ hx),OB0,o1.wk (by omega),mo1,kr,by omega,by omega,by omega⟩⟩
 rintro ⟨i,m,OL6,ov,p6⟩ r hl6 ⟨le,lp6,la6,lb6,lo6,o1,mo1,kr,pa6,pb6,e0,e1⟩
 obtain ⟨A52,n52,c52,rfl⟩:=o1.frm
 have zl6:=lp6.1
 refine aI ?_
 refine hw_sr (aB y_move<|aB (y_lenA o1.1.rd)<|aB cU<|aB y_move<|?_)
 have OB0:=lo6
 refine dA ((0:Int) < (m.length:Int)) (fun g87=>?_) (fun g87=>?_)
 refine aO (dT g87) y_move<|iR (dT g87) aG (eH kr OB0) (fun v53 h53 q53=>?_)
 obtain ⟨i53,rfl,⟨m53,p53,kr,pa53,pb53⟩,pr53⟩:=q53
 have z53:=m53.1
 refine aO (dT g87) bM<|aB (y_pickT (dT g87))<|aD ?_
 refine aF (ah2 5 91) fun r=>?_
 refine aZ (fun g91=>?_) (fun g91=>?_)
 refine aE (aB y_move<|aB y_move<|?_)
 replace o1:=o1.md m53 (fun x hv e=>by have:=o1.vb hv; omega)
 obtain ⟨x2,hx2⟩:∃ x,m[0]? = some x:=⟨_,List.getElem?_eq_getElem (by omega)⟩
 have sx2:SB x2.key:=o1.2.at hx2
 refine aB (y_idxA (i:=0) o1.1.rd)<|aB (y_loadEl o1.1.rd hx2)<|?_
 refine bE (bA (l:=([x2]:List Write))) (fun v54 h54 q54=>?_)
 obtain ⟨lb54,ow54,sb54⟩:=q54
 have z54:=lb54.1
 replace OB0:=OB0.leO m53.1
 have k54:Rs _ OL6 _ _:=Ow.end ⟨ow54,ok1⟩ OB0
 obtain ⟨A55,n55,c55,rfl⟩:=k54.frm
 replace o1:=o1.le lb54
 refine bE (bW aP o1.1 k54.1 (by omega) (Nat.add_le_add o1.2.len k54.2.len)) (fun v56 h56 q56=>?_)
 have L1:=o1.2.len
 have L2:=k54.2.len
 obtain ⟨O56,hO56,z56,ow56⟩:=q56.ow (OkL.app o1.2 k54.2 (by first | omega | (simp only [List.length_append,List.length_take,List.length_drop,List.length_cons,List.length_nil,List.length_set]; omega) | (simp; omega))) OL6
 replace le:=((le.t m53).tl lb54).ap o1 q56 (by omega)
 replace kr:=(kr.leO lb54).appO q56 mo1 hO56 (fun hv=>by have:=o1.vb hv; omega)
 have o1:=ow56
 obtain ⟨A57,n57,c57,rfl⟩:=o1.frm
 refine aB aC<|aD ?_
 refine aF (ah1 5) fun r=>?_
 refine hw_sr (aB y_move<|aB aC<|aD ?_)
 refine hw_rr ?_
 refine aQ rfl (.cons aU .nil) ?_
 exact ⟨_,⟨le,_,RD.weakO kr (fun x hx=>(il hO56 (lb6 _ (il hO1 hx)))) mbr,by omega,by omega⟩,(o1.fin OBe (by omega)).cast (by first | rfl | (simp_all [oneOf] <;> omega)),by first | omega | (simp; omega)⟩
 refine aM ?_
 refine hw_sr (aB y_move<|aB aC<|aD ?_)
 refine hw_rr ?_
 refine aQ rfl (.cons aU .nil) ?_
 replace o1:=o1.md m53 (fun x hv e=>by have:=o1.vb hv; omega)
 replace le:=le.t m53
 exact ⟨_,⟨le,_,RD.weakO kr (fun x hx=>(lb6 _ (il hO1 hx))) mbr,by omega,by omega⟩,(o1.fin OBe (by omega)).cast (by first | rfl | (simp_all [oneOf] <;> omega)),by first | omega | (simp; omega)⟩
 refine aN (neF (dF g87))<|aN (neF (dF g87))<|aN (neF (dF g87))<|aB (aR (dF g87))<|aD ?_
 refine aF (ah2 5 91) fun r=>?_
 refine eZ rfl ?_
 refine aM ?_
 refine hw_sr (aB y_move<|aB aC<|aD ?_)
 refine hw_rr ?_
 refine aQ rfl (.cons aU .nil) ?_
 exact ⟨_,⟨le,_,RD.weakO kr (fun x hx=>(lb6 _ (il hO1 hx))) mbr,by omega,by omega⟩,(o1.fin OBe (by omega)).cast (by first | rfl | (simp_all [oneOf] <;> omega)),by first | omega | (simp; omega)⟩
set_option maxHeartbeats 1000000 in
theorem aC5 {w0:World} {h:Heap} {O:Nat → Prop} {br:Nat} {p:Int} (kr:RD h O br p) (OB0:OB h O) (hp:p + 1200 ≤ 1000000000:=by omega):HC (XM PP) w0 46 [.pointer (some ⟨br,0,none⟩)].toArray h (fun rv h'=>∃ (v:cD) (s1:Value),rv = .agg #[vi v.now,s1]∧pD O br p 1200 h h' ∧ Rs h' O s1 v.list∧VB v):=by
 have le:=Mod.refl (S:=(· = br)) h
 have brl:=kr.lt
 have mbr:=kr.mem
 have OBe:=OB0
 refine aV 40 [(0,.pointer (some ⟨br,0,none⟩))] Tryz.func46 (fun r=>?_)
 refine hw_sr (bE aY (fun v1 h1 q1=>?_))
 obtain ⟨b1,O1,rfl,eb1,sb1,lb1,B1,hO1⟩:=q1.ox O
 refine aD ?_
 refine hw_sr (?_)
 refine bE (bA (l:=([]:List Ver))) (fun v2 h2 q2=>?_)
 obtain ⟨lb2,ow2,sb2⟩:=q2
 have z2:=lb2.1
 replace OB0:=OB0.newB sb1 hO1 eb1
 have k2:Rs _ O1 _ _:=Ow.end ⟨ow2,OkL.nil⟩ OB0
 obtain ⟨A3,n3,c3,rfl⟩:=k2.frm
 refine aB (y_build rfl rfl)<|bE aY (fun v4 h4 q4=>?_)
 obtain ⟨b4,O4,rfl,eb4,sb4,lb4,B4,hO4⟩:=q4.ox O1
 refine bO (aK aP B4) (fun v5 h5 q5=>?_)
 obtain ⟨rfl,q5⟩:=q5
 have z5:=q5.1
 have B4:=q5.2.2
 refine aD ?_
 refine aI ?_
 refine hw_sr (aB y_move<|?_)
 refine bE (bA (l:=([4,7,10,2,0,16]:List Int))) (fun v6 h6 q6=>?_)
 obtain ⟨lb6,ow6,sb6⟩:=q6
 have z6:=lb6.1
 replace OB0:=((OB0.leO lb2.1).newB sb4 hO4 eb4).leO (Nat.le_of_eq q5.1.symm)
 have k6:Rs _ O4 _ _:=Ow.end ⟨ow6,⟨by simp,by simp [Ok.ok]⟩⟩ OB0
 replace kr:=((((kr.newB lb1 hO1 eb1).leO lb2).newB lb4 hO4 eb4).setO q5 (ir hO4) (by omega)).leO lb6
 obtain ⟨A7,n7,c7,rfl⟩:=k6.frm
 replace OB0:=OB0.leO lb6.1
 refine bL aG (jH kr k6 OB0) (fun v8 h8 q8=>?_)
 obtain ⟨n8,rfl,⟨m8,p8,kr,pa8,pb8⟩,pr8⟩:=q8
 have z8:=m8.1
 have ib8:0 ≤ n8∧n8 ≤ 16:=jM (by decide) pr8
 refine aB aC<|aD ?_
 refine aF (ah4 0 2 3 4) fun r=>?_
 replace le:=(((((le.tl lb1).tl lb2).tl lb4).s q5).tl lb6).t m8
 replace B1:=((((B1.le lb2).le lb4).s q5).le lb6).mod m8 (by omega)
 replace B4:=(B4.le lb6).mod m8 (by omega)
 replace OB0:=OB0.leO m8.1
 replace k2:=(((k2.nb lb4 hO4 eb4).st q5 (ir hO4)).le lb6).md m8 (fun _ e=>e ▸ (il hO4 (il hO1 mbr)))
 refine cT (fun (gx:Int × Int × (List Ver) × (Nat → Prop) × Int × Value)=>match gx with | (i,nw,vl,OL9,p9,sv)=>[(0,.pointer (some ⟨br,0,none⟩)),(2,.pointer (some ⟨b1,0,none⟩)),(3,.pointer (some ⟨b4,0,none⟩)),(4,vi i)]) (fun (gx:Int × Int × (List Ver) × (Nat → Prop) × Int × Value) (h' : Heap)=>match gx with | (i,nw,vl,OL9,p9,sv)=>Mod (· = br) h h' ∧ Mod O4 h8 h' ∧ (∀ x,OL9 x → O4 x ∨ h8.size ≤ x)∧(∀ x,O4 x → OL9 x)∧OB h' OL9∧Blk h' b1 [vi 0,.slice none 0 0] 52∧OL9 b1∧Blk h' b4 [vi nw,sv] 52∧OL9 b4∧RD h' OL9 br p9∧p8 ≤ p9∧p9 ≤ p8 + 70 * (16 - i)∧Rs h' OL9 sv vl∧0 ≤ i∧VB ⟨nw,vl⟩) (aX (cK (fun (gx:Int × Int × (List Ver) × (Nat → Prop) × Int × Value)=>match gx with | (i,nw,vl,OL9,p9,sv)=>[(0,.pointer (some ⟨br,0,none⟩)),(2,.pointer (some ⟨b1,0,none⟩)),(3,.pointer (some ⟨b4,0,none⟩)),(4,vi i)]) (fun (gx:Int × Int × (List Ver) × (Nat → Prop) × Int × Value) (h' : Heap)=>match gx with | (i,nw,vl,OL9,p9,sv)=>Mod (· = br) h h' ∧ Mod O4 h8 h' ∧ (∀ x,OL9 x → O4 x ∨ h8.size ≤ x)∧(∀ x,O4 x → OL9 x)∧OB h' OL9∧Blk h' b1 [vi 0,.slice none 0 0] 52∧OL9 b1∧Blk h' b4 [vi nw,sv] 52∧OL9 b4∧RD h' OL9 br p9∧p8 ≤ p9∧p9 ≤ p8 + 70 * (16 - i)∧Rs h' OL9 sv vl∧0 ≤ i∧i ≤ 16∧VB ⟨nw,vl⟩) (fun (gx:Int × Int × (List Ver) × (Nat → Prop) × Int × Value)=>match gx with | (i,nw,vl,OL9,p9,sv)=>i.toNat) (n8,0,([]:List Ver),O4,p8,(.slice A3 n3 c3)) ag4 ⟨le,Mod.refl _,fun x hx=>.inl hx,fun x hx=>hx,OB0,B1,(il hO4 (ir hO1)),B4,(ir hO4),kr,by omega,by omega,k2,by exact ⟨by omega,by omega,by decide,by decide,by decide⟩⟩ ?_)) ?_
 rintro ⟨i,nw,vl,OL9,p9,sv⟩ r hl9 ⟨le,lp9,la9,lb9,lo9,B1,mB1,B4,mB4,kr,pa9,pb9,ksv,e0,e1,e2⟩
 obtain ⟨A10,n10,c10,rfl⟩:=ksv.frm
 have zl9:=lp9.1
 have e3:0 ≤ nw∧nw ≤ 40∧vl.length ≤ 60:=e2
 have lr9:=lp9
 have lx9:=la9
 refine aI ?_
 refine hw_sr (aB y_move<|aB cU<|aD ?_)
 refine aZ (fun g12=>?_) (fun g12=>?_)
 refine aM ?_
 refine aI ?_
 refine aX ?_
 refine hw_sr (aB y_move<|aB (y_loadB B4 0 _)<|aB y_fieldAddr<|aB (y_load (Blk.at B4 rfl rfl))<|?_)
 have OB0:=lo9
 refine bL aG (nZ (v:=(⟨nw,vl⟩:cD)) ksv OB0) (fun v11 h11 q11=>?_)
 obtain ⟨lc11,k11_1⟩:=q11
 have z11:=lc11.1
 replace k11_1:=k11_1.end OB0
 obtain ⟨A12,n12,c12,rfl⟩:=k11_1.frm
 replace kr:=kr.leO lc11
 replace OB0:=OB0.leO lc11.1
 refine bL aG (tV kr k11_1 OB0) (fun v13 h13 q13=>?_)
 obtain ⟨wl13,⟨m13,p13,kr,pa13,pb13⟩,k13_1,pr13⟩:=q13
 have z13:=m13.1
 obtain ⟨A14,n14,c14,rfl⟩:=k13_1.frm
 refine aB aC<|aD ?_
 refine aF (ah5 0 2 3 4 5) fun r=>?_
 refine hw_sr (aB y_move<|dY aG (iL k13_1)<|aD ?_)
 refine bF (fun g22=>?_) (fun g22=>?_)
 replace B4:=(B4.le lc11).mod m13 (by omega)
 refine aE (aB (y_loadB B4 0 _)<|aB y_move<|?_)
 replace ksv:=(ksv.le lc11).md m13 (fun _ e=>e ▸ (lb9 _ (il hO4 (il hO1 mbr))))
 replace OB0:=OB0.leO m13.1
 refine bL aG (aA2 (v:=(⟨nw,vl⟩:cD)) ksv k13_1 OB0) (fun v15 h15 q15=>?_)
 obtain ⟨s15_1,rfl,lc15,k15_1⟩:=q15
 have z15:=lc15.1
 obtain ⟨A16,n16,c16,rfl⟩:=k15_1.frm
 replace B4:=B4.le lc15
 refine aB y_move<|aB aL<|aB aL<|bO (aK aP B4) (fun v17 h17 q17=>?_)
 obtain ⟨rfl,q17⟩:=q17
 have z17:=q17.1
 have B4:=q17.2.2
 refine aD ?_
 refine aF (ah4 0 2 3 4) fun r=>?_
 refine aE (aB y_move<|aB dQ<|aB aC<|aD ?_)
 replace B1:=(((B1.le lc11).mod m13 (by omega)).le lc15).s q17
 replace le:=(((le.tl lc11).t m13).tl lc15).s q17
 replace lr9:=(((lr9.tl lc11).t (Mod.mono m13 (fun x _ e=>e ▸ (il hO4 (il hO1 mbr))))).tl lc15).stO q17 (ir hO4)
 replace kr:=(kr.leO lc15).setO q17 mB4 (by omega)
 replace k15_1:=k15_1.st q17 mB4
 replace OB0:=OB0.leO (h':=h17) (by omega)
 exact ⟨((i - 1),((fM (⟨nw,vl⟩:cD) wl13).1).now,((fM (⟨nw,vl⟩:cD) wl13).1).list,OL9,p13,(.slice A16 n16 c16)),ag4,⟨le,lr9,lx9,fun x hx=>(lb9 _ hx),OB0,B1,mB1,B4,mB4,kr,by omega,by omega,k15_1.cast (by first | rfl | simp_all),by exact ⟨by omega,by omega,kX e2⟩⟩,by first | omega | (dsimp only; omega)⟩
 refine aM ?_
 refine aE (aB y_move<|aB dQ<|aB aC<|aD ?_)
 replace B1:=(B1.le lc11).mod m13 (by omega)
 replace B4:=(B4.le lc11).mod m13 (by omega)
 replace le:=(le.tl lc11).t m13
 replace lr9:=(lr9.tl lc11).t (Mod.mono m13 (fun x _ e=>e ▸ (il hO4 (il hO1 mbr))))
 replace ksv:=(ksv.le lc11).md m13 (fun _ e=>e ▸ (lb9 _ (il hO4 (il hO1 mbr))))
 replace OB0:=OB0.leO m13.1
 exact ⟨((i - 1),nw,vl,OL9,p13,(.slice A10 n10 c10)),ag4,⟨le,lr9,lx9,fun x hx=>(lb9 _ hx),OB0,B1,mB1,B4,mB4,kr,by omega,by omega,ksv.cast (by first | rfl | simp_all),by exact ⟨by omega,by omega,e2⟩⟩,by first | omega | (dsimp only; omega)⟩
 refine cI ?_
 have OB0:=lo9
 exact ⟨(i,nw,vl,OL9,p9,(.slice A10 n10 c10)),ag4,⟨le,lr9,lx9,fun x hx=>(lb9 _ hx),OB0,B1,mB1,B4,mB4,kr,by omega,by omega,ksv.cast (by first | rfl | simp_all),by exact ⟨by omega,e2⟩⟩⟩
 rintro ⟨i,nw,vl,OL9,p9,sv⟩ r hl9 ⟨le,lp9,la9,lb9,lo9,B1,mB1,B4,mB4,kr,pa9,pb9,ksv,e0,e2⟩
 obtain ⟨A18,n18,c18,rfl⟩:=ksv.frm
 have zl9:=lp9.1
 have e3:0 ≤ nw∧nw ≤ 40∧vl.length ≤ 60:=e2
 refine aI ?_
 refine hw_sr (aB y_move<|?_)
 have OB0:=lo9
 refine bL aG (eH kr OB0) (fun v19 h19 q19=>?_)
 obtain ⟨i19,rfl,⟨m19,p19,kr,pa19,pb19⟩,pr19⟩:=q19
 have z19:=m19.1
 refine aB bM<|aD ?_
 refine aZ (fun g31=>?_) (fun g31=>?_)
 refine aI ?_
 replace ksv:=ksv.md m19 (fun _ e=>e ▸ (lb9 _ (il hO4 (il hO1 mbr))))
 have Rksv:=ksv
 obtain ⟨S20,hS20⟩:=mkO (fun b=>h19.size ≤ b ∨ b = br)
 have mR20:Mod S20 h19 h19:=Mod.refl _
 have hd20:∀ b,b < h19.size∧¬ OL9 b → ¬ S20 b:=fun b hb hs=>(fun hs=>hs.elim (fun hs=>absurd hb.1 (Nat.not_lt.2 hs)) (fun hs=>hb.2 (hs ▸ (lb9 _ (il hO4 (il hO1 mbr)))))) ((hS20 b).1 hs)
 replace B4:=B4.mod m19 (by omega)
 refine bH 8 S20 bC (ha2_y 0 rfl (fun _ mm=>(y_loadB (Blk.mod B4 mm (fun hs=>by rcases (hS20 _).1 hs with hs | hs <;> first | omega)) 0 _))<|ha2_p 1 rfl (fun _=>y_move)<|ha2_p 2 rfl (fun _=>y_fieldAddr)<|ha2_y 3 rfl (fun _ mm=>(y_load (Blk.at (Blk.mod B4 mm (fun hs=>by rcases (hS20 _).1 hs with hs | hs <;> first | omega)) rfl rfl)))<|?_)
 refine ha2_p 4 rfl (fun _=>bI)<|?_
 replace OB0:=OB0.leO m19.1
 refine aW 5 (cC rfl aG (eH kr OB0) (fun v21 h21 q21=>?_))
 obtain ⟨i21,rfl,⟨m21,p21,kr,pa21,pb21⟩,pr21⟩:=q21
 have z21:=m21.1
 have ms:=Mod.mono (S':=S20) m21 (fun x _ e=>(hS20 x).2 (by simp [e]))
 refine ⟨ms,?_⟩
 refine aW 6 (?_)
 replace ksv:=ksv.md m21 (fun _ e=>e ▸ (lb9 _ (il hO4 (il hO1 mbr))))
 replace OB0:=OB0.leO m21.1
 refine cC rfl aG (aBm (v:=(⟨nw,vl⟩:cD)) ksv OB0) (fun v22 h22 q22=>?_)
 obtain ⟨s22_1,rfl,lc22,k22_1⟩:=q22
 have z22:=lc22.1
 refine ⟨Le.mod lc22,?_⟩
 obtain ⟨A23,n23,c23,rfl⟩:=k22_1.frm
 replace B1:=((B1.mod m19 (by omega)).mod m21 (by omega)).le lc22
 refine aW 7 (lN rfl (aK aP B1) (fun v24 h24 q24=>?_))
 obtain ⟨rfl,q24⟩:=q24
 have z24:=q24.1
 have B1:=q24.2.2
 refine aF (ah1 2) fun r=>?_
 refine hw_rr ?_
 refine aQ rfl (.cons (bT B1) .nil) ?_
 replace le:=(((le.t m19).t m21).tl lc22).s q24
 replace kr:=(kr.leO lc22).setO q24 mB1 (by omega)
 replace k22_1:=k22_1.st q24 mB1
 exact ⟨⟨_,_⟩,_,by first | rfl | (simp_all [oneOf] <;> omega),⟨le,_,RD.weakO kr (fun x hx=>(lb9 _ (il hO4 (il hO1 hx)))) mbr,by omega,by omega⟩,(k22_1.wk (fun x hx=>(lb9 _ (il hO4 (il hO1 hx))))).cast (by first | rfl | (simp_all [oneOf] <;> omega)),by first | exact rS e2 | exact e2⟩
 refine aM ?_
 refine aI ?_
 replace B4:=B4.mod m19 (by omega)
 refine aE (aB (y_loadB B4 0 _)<|?_)
 replace B1:=B1.mod m19 (by omega)
 refine bO (aK aP B1) (fun v25 h25 q25=>?_)
 obtain ⟨rfl,q25⟩:=q25
 have z25:=q25.1
 have B1:=q25.2.2
 refine aD ?_
 refine hw_rr ?_
 refine aQ rfl (.cons (bT B1) .nil) ?_
 replace le:=(le.t m19).s q25
 replace kr:=kr.setO q25 mB1 (by omega)
 replace ksv:=(ksv.md m19 (fun _ e=>e ▸ (lb9 _ (il hO4 (il hO1 mbr))))).st q25 mB1
 exact ⟨⟨_,_⟩,_,by first | rfl | (simp_all [oneOf] <;> omega),⟨le,_,RD.weakO kr (fun x hx=>(lb9 _ (il hO4 (il hO1 hx)))) mbr,by omega,by omega⟩,(ksv.wk (fun x hx=>(lb9 _ (il hO4 (il hO1 hx))))).cast (by first | rfl | (simp_all [oneOf] <;> omega)),by first | exact rS e2 | exact e2⟩
end
section
open Go.Conc
abbrev LB (l:Letter):Prop:=l.sign.length ≤ 2∧l.body.length ≤ 2000
abbrev NB (l:List Named):Prop:=∀ x ∈ l,x.name.length ≤ 1
theorem aA3 {w0:World} {h:Heap} {O:Nat → Prop} {s:Str} {n:Int} (OB0:OB h O) (s0:SB s:=by first | assumption | omega | (simp; done) | (simp; omega)) (hT:s.length * n.toNat ≤ 1000000:=by first | omega | (simp; omega)) (hn:n ≤ 1000000:=by omega):HC (XM PP) w0 78 [vs s,vi n].toArray h (fun rv h'=>∃ (r:Str) ,rv = vs r∧Le h h' ∧ r.length ≤ s.length * n.toNat) :=
  (aCb s0 hT hn).mono fun v h' q=>by obtain ⟨r,e1,rfl,e3⟩:=q; exact ⟨r,e1,Le.refl _,e3⟩
set_option maxHeartbeats 1000000 in
theorem aA1 {w0:World} {h:Heap} {O:Nat → Prop} {br:Nat} {p:Int} (kr:RD h O br p) (OB0:OB h O) (hp:p + 5 ≤ 1000000000:=by omega):HC (XM PP) w0 55 [.pointer (some ⟨br,0,none⟩)].toArray h (fun rv h'=>∃ (l:Letter) ,rv = .agg #[vs l.sign,vs l.body]∧pD O br p 5 h h' ∧ LB l):=by
 replace le:=Mod.refl (S:=(· = br)) h
 have brl:=kr.lt
 have mbr:=kr.mem
 have OBe:=OB0
 refine aV 39 [(0,.pointer (some ⟨br,0,none⟩))] Tryz.func55 (fun r=>?_)
 refine hw_sr (bE aY (fun v1 h1 q1=>?_))
 obtain ⟨b1,O1,rfl,eb1,sb1,lb1,B1,hO1⟩:=q1.ox O
 refine aD ?_
 refine hw_sr (aB y_move<|?_)
 refine bE (bA (l:=([[81],[80],[69],[83],[88],[90],[49]]:List Str))) (fun v2 h2 q2=>?_)
 obtain ⟨lb2,ow2,sb2⟩:=q2
 have z2:=lb2.1
 replace OB0:=OB0.newB sb1 hO1 eb1
 replace k2:Rs _ O1 _ _:=Ow.end ⟨ow2,⟨by simp,by simp [Ok.ok]⟩⟩ OB0
 obtain ⟨A3,n3,c3,rfl⟩:=k2.frm
 replace kr:=(kr.newB lb1 hO1 eb1).leO lb2
 replace OB0:=OB0.leO lb2.1
 refine bL aG (nK kr k2 OB0) (fun v4 h4 q4=>?_)
 clear kr
 obtain ⟨s4,rfl,⟨m4,p4,kr,pa4,pb4⟩,pr4⟩:=q4
 have z4:=m4.1
 have sb4:s4.length ≤ 1:=iV (by decide) pr4
 refine aB y_move<|?_
 refine bE (bA (l:=([[],[103,101,116,32,97],[112,117,116,32,97,98,32,45,55],[110,32,103,101,116,32,97],[110],[98,101,103,105,110],[97,108,108,32,97,32,122,122]]:List Str))) (fun v5 h5 q5=>?_)
 obtain ⟨lb5,ow5,sb5⟩:=q5
 have z5:=lb5.1
 replace OB0:=OB0.leO m4.1
 replace k5:Rs _ O1 _ _:=Ow.end ⟨ow5,⟨by simp,by simp [Ok.ok]⟩⟩ OB0
 obtain ⟨A6,n6,c6,rfl⟩:=k5.frm
 replace kr:=kr.leO lb5
 replace OB0:=OB0.leO lb5.1
 refine bL aG (nK kr k5 OB0) (fun v7 h7 q7=>?_)
 clear kr
 obtain ⟨s7,rfl,⟨m7,p7,kr,pa7,pb7⟩,pr7⟩:=q7
 have z7:=m7.1
 have sb7:s7.length ≤ 9:=iV (by decide) pr7
 refine aB (y_build rfl rfl)<|bE aY (fun v8 h8 q8=>?_)
 obtain ⟨b8,O8,rfl,eb8,sb8,lb8,B8,hO8⟩:=q8.ox O1
 refine bO (aK aP B8) (fun v9 h9 q9=>?_)
 obtain ⟨rfl,q9⟩:=q9
 have z9:=q9.1
 replace B8:=q9.2.2
 refine aD ?_
 refine aF (ah3 0 2 3) fun r=>?_
 refine aI ?_
 refine hw_sr (aB y_move<|?_)
 replace kr:=(kr.newB lb8 hO8 eb8).setO q9 (ir hO8) (by omega)
 replace OB0:=((OB0.leO m7.1).newB sb8 hO8 eb8).leO (Nat.le_of_eq q9.1.symm)
 refine bL aG (eH kr OB0) (fun v10 h10 q10=>?_)
 clear kr
 obtain ⟨i10,rfl,⟨m10,p10,kr,pa10,pb10⟩,pr10⟩:=q10
 have z10:=m10.1
 refine aD ?_
 refine aX ?_
 refine hw_sr (aB bM<|aB aC<|aD ?_)
 refine aZ (fun g13=>?_) (fun g13=>?_)
 refine aE (aB y_move<|?_)
 refine bE (bA (l:=([[],[113],[81,81],[32]]:List Str))) (fun v11 h11 q11=>?_)
 obtain ⟨lb11,ow11,sb11⟩:=q11
 have z11:=lb11.1
 replace OB0:=OB0.leO m10.1
 replace k11:Rs _ O8 _ _:=Ow.end ⟨ow11,⟨by simp,by simp [Ok.ok]⟩⟩ OB0
 obtain ⟨A12,n12,c12,rfl⟩:=k11.frm
 replace kr:=kr.leO lb11
 replace OB0:=OB0.leO lb11.1
 refine bL aG (nK kr k11 OB0) (fun v13 h13 q13=>?_)
 clear kr
 obtain ⟨s13,rfl,⟨m13,p13,kr,pa13,pb13⟩,pr13⟩:=q13
 have z13:=m13.1
 have sb13:s13.length ≤ 2:=iV (by decide) pr13
 replace B8:=((B8.mod m10 (by omega)).le lb11).mod m13 (by omega)
 refine aB y_fieldAddr<|bO (aK aP B8) (fun v14 h14 q14=>?_)
 obtain ⟨rfl,q14⟩:=q14
 have z14:=q14.1
 replace B8:=q14.2.2
 refine aD ?_
 refine aF (ah2 2 3) fun r=>?_
 refine hw_sr (aB (y_loadB B8 0 _)<|?_)
 replace B1:=(((((((((B1.le lb2).mod m4 (by omega)).le lb5).mod m7 (by omega)).le lb8).s q9).mod m10 (by omega)).le lb11).mod m13 (by omega)).s q14
 refine bO (aK aP B1) (fun v15 h15 q15=>?_)
 replace kr:=kr.setO q14 (ir hO8) (by omega)
 obtain ⟨rfl,q15⟩:=q15
 have z15:=q15.1
 replace B1:=q15.2.2
 refine aD ?_
 refine hw_rr ?_
 refine aQ rfl (.cons (bT B1) .nil) ?_
 replace le:=(((((((((((le.tl lb1).tl lb2).t m4).tl lb5).t m7).tl lb8).s q9).t m10).tl lb11).t m13).s q14).s q15
 replace kr:=kr.setO q15 (il hO8 (ir hO1)) (by omega)
 exact ⟨⟨_,_⟩,by first | rfl | (simp_all [oneOf] <;> omega),⟨le,_,RD.weakO kr (fun x hx=>(il hO8 (il hO1 hx))) mbr,by omega,by omega⟩,⟨by dsimp only; omega,by dsimp only; first | omega | (simp; omega)⟩⟩
 refine hw_sr (aB bM<|aB aC<|aD ?_)
 refine aZ (fun g19=>?_) (fun g19=>?_)
 replace B8:=B8.mod m10 (by omega)
 refine aE (aB y_fieldAddr<|aB (y_load (Blk.at B8 rfl rfl))<|?_)
 refine aB dX<|aB y_fieldAddr<|bO (aK aP B8) (fun v16 h16 q16=>?_)
 obtain ⟨rfl,q16⟩:=q16
 have z16:=q16.1
 replace B8:=q16.2.2
 refine aD ?_
 refine aF (ah2 2 3) fun r=>?_
 refine hw_sr (aB (y_loadB B8 0 _)<|?_)
 replace B1:=(((((((B1.le lb2).mod m4 (by omega)).le lb5).mod m7 (by omega)).le lb8).s q9).mod m10 (by omega)).s q16
 refine bO (aK aP B1) (fun v17 h17 q17=>?_)
 replace kr:=kr.setO q16 (ir hO8) (by omega)
 obtain ⟨rfl,q17⟩:=q17
 have z17:=q17.1
 replace B1:=q17.2.2
 refine aD ?_
 refine hw_rr ?_
 refine aQ rfl (.cons (bT B1) .nil) ?_
 replace le:=(((((((((le.tl lb1).tl lb2).t m4).tl lb5).t m7).tl lb8).s q9).t m10).s q16).s q17
 replace kr:=kr.setO q17 (il hO8 (ir hO1)) (by omega)
 exact ⟨⟨_,_⟩,by first | rfl | (simp_all [oneOf] <;> omega),⟨le,_,RD.weakO kr (fun x hx=>(il hO8 (il hO1 hx))) mbr,by omega,by omega⟩,⟨by dsimp only; omega,by dsimp only; first | omega | (simp; omega)⟩⟩
 refine hw_sr (aB bM<|aB aC<|aD ?_)
 refine aZ (fun g25=>?_) (fun g25=>?_)
 refine aE (aB y_move<|?_)
 replace OB0:=OB0.leO m10.1
 refine bL aG (eH kr OB0) (fun v18 h18 q18=>?_)
 clear kr
 obtain ⟨i18,rfl,⟨m18,p18,kr,pa18,pb18⟩,pr18⟩:=q18
 have z18:=m18.1
 refine aB bI<|?_
 replace OB0:=OB0.leO m18.1
 refine bL aG (aA3 OB0) (fun v19 h19 q19=>?_)
 obtain ⟨r19,rfl,lc19,pr19⟩:=q19
 have z19:=lc19.1
 replace B8:=((B8.mod m10 (by omega)).mod m18 (by omega)).le lc19
 refine aB y_fieldAddr<|bO (aK aP B8) (fun v20 h20 q20=>?_)
 obtain ⟨rfl,q20⟩:=q20
 have z20:=q20.1
 replace B8:=q20.2.2
 refine aD ?_
 refine aF (ah2 2 3) fun r=>?_
 refine hw_sr (aB (y_loadB B8 0 _)<|?_)
 replace B1:=(((((((((B1.le lb2).mod m4 (by omega)).le lb5).mod m7 (by omega)).le lb8).s q9).mod m10 (by omega)).mod m18 (by omega)).le lc19).s q20
 refine bO (aK aP B1) (fun v21 h21 q21=>?_)
 replace kr:=(kr.leO lc19).setO q20 (ir hO8) (by omega)
 obtain ⟨rfl,q21⟩:=q21
 have z21:=q21.1
 replace B1:=q21.2.2
 refine aD ?_
 refine hw_rr ?_
 refine aQ rfl (.cons (bT B1) .nil) ?_
 have pq:=pr19
 simp only [List.length_cons,List.length_nil,Nat.zero_add,Nat.one_mul] at pq
 replace le:=(((((((((((le.tl lb1).tl lb2).t m4).tl lb5).t m7).tl lb8).s q9).t m10).t m18).tl lc19).s q20).s q21
 replace kr:=kr.setO q21 (il hO8 (ir hO1)) (by omega)
 exact ⟨⟨_,_⟩,by first | rfl | (simp_all [oneOf] <;> omega),⟨le,_,RD.weakO kr (fun x hx=>(il hO8 (il hO1 hx))) mbr,by omega,by omega⟩,⟨by dsimp only; omega,by dsimp only; first | omega | (simp; omega)⟩⟩
 refine hw_sr (aB bM<|aB aC<|aD ?_)
 refine aZ (fun g32=>?_) (fun g32=>?_)
 replace B8:=B8.mod m10 (by omega)
 refine aE (aB y_fieldAddr<|aB (y_load (Blk.at B8 rfl rfl))<|?_)
 refine aB dX<|aB y_fieldAddr<|bO (aK aP B8) (fun v22 h22 q22=>?_)
 obtain ⟨rfl,q22⟩:=q22
 have z22:=q22.1
 replace B8:=q22.2.2
 refine aD ?_
 refine aF (ah2 2 3) fun r=>?_
 refine hw_sr (aB (y_loadB B8 0 _)<|?_)
 replace B1:=(((((((B1.le lb2).mod m4 (by omega)).le lb5).mod m7 (by omega)).le lb8).s q9).mod m10 (by omega)).s q22
 refine bO (aK aP B1) (fun v23 h23 q23=>?_)
 replace kr:=kr.setO q22 (ir hO8) (by omega)
 obtain ⟨rfl,q23⟩:=q23
 have z23:=q23.1
 replace B1:=q23.2.2
 refine aD ?_
 refine hw_rr ?_
 refine aQ rfl (.cons (bT B1) .nil) ?_
 replace le:=(((((((((le.tl lb1).tl lb2).t m4).tl lb5).t m7).tl lb8).s q9).t m10).s q22).s q23
 replace kr:=kr.setO q23 (il hO8 (ir hO1)) (by omega)
 exact ⟨⟨_,_⟩,by first | rfl | (simp_all [oneOf] <;> omega),⟨le,_,RD.weakO kr (fun x hx=>(il hO8 (il hO1 hx))) mbr,by omega,by omega⟩,⟨by dsimp only; omega,by dsimp only; first | omega | (simp; omega)⟩⟩
 refine aM ?_
 refine aI ?_
 replace B8:=B8.mod m10 (by omega)
 refine aE (aB (y_loadB B8 0 _)<|?_)
 replace B1:=((((((B1.le lb2).mod m4 (by omega)).le lb5).mod m7 (by omega)).le lb8).s q9).mod m10 (by omega)
 refine bO (aK aP B1) (fun v24 h24 q24=>?_)
 obtain ⟨rfl,q24⟩:=q24
 have z24:=q24.1
 replace B1:=q24.2.2
 refine aD ?_
 refine hw_rr ?_
 refine aQ rfl (.cons (bT B1) .nil) ?_
 replace le:=((((((((le.tl lb1).tl lb2).t m4).tl lb5).t m7).tl lb8).s q9).t m10).s q24
 replace kr:=kr.setO q24 (il hO8 (ir hO1)) (by omega)
 exact ⟨⟨_,_⟩,by first | rfl | (simp_all [oneOf] <;> omega),⟨le,_,RD.weakO kr (fun x hx=>(il hO8 (il hO1 hx))) mbr,by omega,by omega⟩,⟨by dsimp only; omega,by dsimp only; first | omega | (simp; omega)⟩⟩
set_option maxHeartbeats 1000000 in
theorem aC0 {w0:World} {h:Heap} {O:Nat → Prop} {br:Nat} {p:Int} {s:Str} (kr:RD h O br p) (OB0:OB h O) (hp:p + 5 ≤ 1000000000:=by omega) (s1:SB s:=by first | assumption | omega | (simp; done) | (simp; omega)) (hs:s.length ≤ 10000:=by first | assumption | omega):HC (XM PP) w0 25 [.pointer (some ⟨br,0,none⟩),vs s].toArray h (fun rv h'=>∃ (t:Str) ,rv = vs t∧pD O br p 5 h h' ∧ t.length ≤ 20000):=by
 replace le:=Mod.refl (S:=(· = br)) h
 have brl:=kr.lt
 have mbr:=kr.mem
 have OBe:=OB0
 refine aV 54 [(0,.pointer (some ⟨br,0,none⟩)),(1,vs s)] Tryz.func25 (fun r=>?_)
 refine hw_sr (aB aC<|aD ?_)
 refine aI ?_
 refine hw_sr (aB y_move<|aB y_len_str<|aB bM<|aB y_move<|?_)
 refine dA ((s.length:Int) = 0) (fun g9=>?_) (fun g9=>?_)
 refine aN (neT (dT g9))<|aN (neT (dT g9))<|aN (neT (dT g9))<|aB (y_pickT (dT g9))<|aD ?_
 refine aF (ah3 0 1 13) fun r=>?_
 refine fP rfl ?_
 refine hw_sr (aB y_move<|aB aC<|aD ?_)
 refine hw_rr ?_
 refine aQ rfl (.cons aU .nil) ?_
 exact ⟨_,by first | rfl | (simp_all [oneOf] <;> omega),⟨le,_,kr,by omega,by omega⟩,by first | omega | (simp; omega)⟩
 refine aO (dF g9) y_move<|iR (dF g9) aG (eH kr OB0) (fun v1 h1 q1=>?_)
 clear kr
 obtain ⟨i1,rfl,⟨m1,p1,kr,pa1,pb1⟩,pr1⟩:=q1
 have z1:=m1.1
 refine aO (dF g9) bM<|aB (aR (dF g9))<|aD ?_
 refine aF (ah3 0 1 13) fun r=>?_
 refine aZ (fun g13=>?_) (fun g13=>?_)
 refine hw_sr (aB y_move<|aB aC<|aD ?_)
 refine hw_rr ?_
 refine aQ rfl (.cons aU .nil) ?_
 replace le:=le.t m1
 exact ⟨_,by first | rfl | (simp_all [oneOf] <;> omega),⟨le,_,kr,by omega,by omega⟩,by first | omega | (simp; omega)⟩
 refine aM ?_
 refine hw_sr (aB y_move<|aB y_move<|aB y_len_str<|?_)
 replace OB0:=OB0.leO m1.1
 refine bL aG (eH kr OB0) (fun v2 h2 q2=>?_)
 clear kr
 obtain ⟨i2,rfl,⟨m2,p2,kr,pa2,pb2⟩,pr2⟩:=q2
 have z2:=m2.1
 refine aB aC<|aD ?_
 refine aF (ah3 0 1 5) fun r=>?_
 refine aI ?_
 refine hw_sr (aB y_move<|?_)
 replace OB0:=OB0.leO m2.1
 refine bL aG (eH kr OB0) (fun v3 h3 q3=>?_)
 clear kr
 obtain ⟨i3,rfl,⟨m3,p3,kr,pa3,pb3⟩,pr3⟩:=q3
 have z3:=m3.1
 refine aD ?_
 refine aX ?_
 refine hw_sr (aB bM<|aB aC<|aD ?_)
 refine aZ (fun g21=>?_) (fun g21=>?_)
 refine hw_sr (aB y_move<|aB y_move<|aB iY<|aB aC<|aD ?_)
 refine aF (ah1 4) fun r=>?_
 refine hw_rr ?_
 refine aQ rfl (.cons aU .nil) ?_
 replace le:=((le.t m1).t m2).t m3
 exact ⟨_,by first | rfl | (simp_all [oneOf] <;> omega),⟨le,_,kr,by omega,by omega⟩,by first | omega | (simp; omega)⟩
 refine hw_sr (aB bM<|aB aC<|aD ?_)
 refine aZ (fun g26=>?_) (fun g26=>?_)
 refine aI ?_
 refine fR (bN y_move<|bN y_move<|bN iY<|bN y_move<|bN y_move<|bN bI<|bN hQ<|bN dX<|bN aC<|gO ?_)
 refine aF (ah1 4) fun r=>?_
 refine hw_rr ?_
 refine aQ rfl (.cons aU .nil) ?_
 replace le:=((le.t m1).t m2).t m3
 exact ⟨_,by first | rfl | (simp_all [oneOf] <;> omega),⟨le,_,kr,by omega,by omega⟩,by first | omega | (simp; omega)⟩
 refine hw_sr (aB bM<|aB aC<|aD ?_)
 refine aZ (fun g36=>?_) (fun g36=>?_)
 refine aI ?_
 obtain ⟨S4,hS4⟩:=mkO (fun b=>h3.size ≤ b ∨ b = br)
 replace mR4:Mod S4 h3 h3:=Mod.refl _
 have hd4:∀ b,b < h3.size∧¬ O b → ¬ S4 b:=fun b hb hs=>(fun hs=>hs.elim (fun hs=>absurd hb.1 (Nat.not_lt.2 hs)) (fun hs=>hb.2 (hs ▸ mbr))) ((hS4 b).1 hs)
 refine bH 12 S4 bC (ha2_p 0 rfl (fun _=>y_move)<|ha2_p 1 rfl (fun _=>y_move)<|ha2_y 2 rfl (fun _ _=>iY)<|ha2_p 3 rfl (fun _=>y_move)<|ha2_p 7 rfl (fun _=>y_move)<|ha2_p 8 rfl (fun _=>y_move)<|ha2_y 9 rfl (fun _ _=>hQ)<|?_)
 refine aW 4 (cB rfl (bA (l:=([[48],[57],[81],[120],[10],[32],[53,48]]:List Str))) (fun v5 h5 q5=>?_))
 obtain ⟨lb5,ow5,sb5⟩:=q5
 have z5:=lb5.1
 refine ⟨Le.mod lb5,?_⟩
 replace OB0:=OB0.leO m3.1
 replace k5:Rs _ O _ _:=Ow.end ⟨ow5,⟨by simp,by simp [Ok.ok]⟩⟩ OB0
 obtain ⟨A6,n6,c6,rfl⟩:=k5.frm
 refine aW 5 (?_)
 replace kr:=kr.leO lb5
 replace OB0:=OB0.leO lb5.1
 refine cC rfl aG (nK kr k5 OB0) (fun v7 h7 q7=>?_)
 clear kr
 obtain ⟨s7,rfl,⟨m7,p7,kr,pa7,pb7⟩,pr7⟩:=q7
 have z7:=m7.1
 have ms:=Mod.mono (S':=S4) m7 (fun x _ e=>(hS4 x).2 (by simp [e]))
 refine ⟨ms,?_⟩
 have sb7:s7.length ≤ 2:=iV (by decide) pr7
 refine bG 6 rfl (fun _=>dX)<|bG 10 rfl (fun _=>dX)<|bG 11 rfl (fun _=>aC)<|bD ?_
 refine aF (ah1 4) fun r=>?_
 refine hw_rr ?_
 refine aQ rfl (.cons aU .nil) ?_
 replace le:=((((le.t m1).t m2).t m3).tl lb5).t m7
 exact ⟨_,by first | rfl | (simp_all [oneOf] <;> omega),⟨le,_,kr,by omega,by omega⟩,by first | omega | (simp; omega)⟩
 refine aM ?_
 refine hw_sr (aB y_move<|aB y_move<|?_)
 refine bE (bA (l:=([[81],[81,48],[81,48,53],[81,48,53,103,101,116],[113],[81,53],[81,120],[81,52,49]]:List Str))) (fun v8 h8 q8=>?_)
 obtain ⟨lb8,ow8,sb8⟩:=q8
 have z8:=lb8.1
 replace OB0:=OB0.leO m3.1
 replace k8:Rs _ O _ _:=Ow.end ⟨ow8,⟨by simp,by simp [Ok.ok]⟩⟩ OB0
 obtain ⟨A9,n9,c9,rfl⟩:=k8.frm
 replace kr:=kr.leO lb8
 replace OB0:=OB0.leO lb8.1
 refine bL aG (nK kr k8 OB0) (fun v10 h10 q10=>?_)
 clear kr
 obtain ⟨s10,rfl,⟨m10,p10,kr,pa10,pb10⟩,pr10⟩:=q10
 have z10:=m10.1
 have sb10:s10.length ≤ 6:=iV (by decide) pr10
 refine aB dX<|aB aC<|aD ?_
 refine aF (ah1 4) fun r=>?_
 refine hw_rr ?_
 refine aQ rfl (.cons aU .nil) ?_
 replace le:=((((le.t m1).t m2).t m3).tl lb8).t m10
 exact ⟨_,by first | rfl | (simp_all [oneOf] <;> omega),⟨le,_,kr,by omega,by omega⟩,by first | omega | (simp; omega)⟩
set_option maxHeartbeats 1000000 in
theorem l4Ask_c {w0:World} {h:Heap} {O:Nat → Prop} {br:Nat} {p:Int} {rows:List Row} {k1v:Value} (kr:RD h O br p) (k1:Rs h O k1v rows) (OB0:OB h O) (hp:p + 10 ≤ 1000000000:=by omega):HC (XM PP) w0 77 [.pointer (some ⟨br,0,none⟩),k1v].toArray h (fun rv h'=>∃ (a:Ask) ,rv = .agg #[vi a.kind,vs a.key,vs a.hi,vi a.num]∧pD O br p 10 h h' ∧ (SB a.key∧SB a.hi)):=by
 obtain ⟨Ak1,nk1,ck1,rfl⟩:=k1.frm
 replace le:=Mod.refl (S:=(· = br)) h
 have brl:=kr.lt
 have mbr:=kr.mem
 have OBe:=OB0
 refine aV 52 [(0,.pointer (some ⟨br,0,none⟩)),(1,(.slice Ak1 nk1 ck1))] Tryz.func77 (fun r=>?_)
 refine hw_sr (bE aY (fun v1 h1 q1=>?_))
 obtain ⟨b1,O1,rfl,eb1,sb1,lb1,B1,hO1⟩:=q1.ox O
 refine aD ?_
 refine hw_sr (aB y_move<|?_)
 refine bE (bA (l:=([1,1,2,3,4,4,4,5,5,6,7,7,8,8,9]:List Int))) (fun v2 h2 q2=>?_)
 obtain ⟨lb2,ow2,sb2⟩:=q2
 have z2:=lb2.1
 replace OB0:=OB0.newB sb1 hO1 eb1
 replace k2:Rs _ O1 _ _:=Ow.end ⟨ow2,⟨by simp,by simp [Ok.ok]⟩⟩ OB0
 obtain ⟨A3,n3,c3,rfl⟩:=k2.frm
 replace kr:=(kr.newB lb1 hO1 eb1).leO lb2
 replace OB0:=OB0.leO lb2.1
 refine bL aG (jH kr k2 OB0) (fun v4 h4 q4=>?_)
 clear kr
 obtain ⟨n4,rfl,⟨m4,p4,kr,pa4,pb4⟩,pr4⟩:=q4
 have z4:=m4.1
 have ib4:1 ≤ n4∧n4 ≤ 9:=jM (by decide) pr4
 refine aB (y_build rfl rfl)<|bE aY (fun v5 h5 q5=>?_)
 obtain ⟨b5,O5,rfl,eb5,sb5,lb5,B5,hO5⟩:=q5.ox O1
 refine bO (aK aP B5) (fun v6 h6 q6=>?_)
 obtain ⟨rfl,q6⟩:=q6
 have z6:=q6.1
 replace B5:=q6.2.2
 refine aD ?_
 refine aF (ah4 0 1 4 5) fun r=>?_
 refine hw_sr (aB y_fieldAddr<|aB (y_load (Blk.at B5 rfl rfl))<|?_)
 refine dY aG oW<|aB y_move<|aB aL<|aB aL<|aB aL<|aB aC<|aB aC<|aB aC<|aD ?_
 refine aF (ah7 0 1 4 5 6 7 8) fun r=>?_
 replace OB0:=((OB0.leO m4.1).newB sb5 hO5 eb5).leO (Nat.le_of_eq q6.1.symm)
 refine dH (fun (gx:Str × (Nat → Prop) × Int)=>match gx with | (kk,OL7,p7)=>[(0,.pointer (some ⟨br,0,none⟩)),(4,.pointer (some ⟨b1,0,none⟩)),(5,.pointer (some ⟨b5,0,none⟩)),(7,vb (shH n4)),(8,vb (shN n4))]) (fun (gx:Str × (Nat → Prop) × Int) (h' : Heap)=>match gx with | (kk,OL7,p7)=>Mod (· = br) h h' ∧ Mod O5 h6 h' ∧ (∀ x,OL7 x → O5 x ∨ h6.size ≤ x)∧(∀ x,O5 x → OL7 x)∧OB h' OL7∧Blk h' b1 [vi 0,vs [],vs [],vi 0] 118∧OL7 b1∧Blk h' b5 [vi n4,vs kk,vs [],vi 0] 118∧OL7 b5∧RD h' OL7 br p7∧p4 ≤ p7∧p7 ≤ p4 + 3∧SB kk) ?_ ?_
 replace lr7:=Mod.refl (S:=O5) h6
 replace lx7:∀ x,O5 x → O5 x ∨ h6.size ≤ x:=fun x hx=>.inl hx
 refine hw_sr (aB y_move<|aD ?_)
 refine bF (fun g20=>?_) (fun g20=>?_)
 refine aE (aB y_move<|aB y_move<|?_)
 replace kr:=(kr.newB lb5 hO5 eb5).setO q6 (ir hO5) (by omega)
 replace k1:=((((k1.nb lb1 hO1 eb1).le lb2).md m4 (fun _ e=>e ▸ (il hO1 mbr))).nb lb5 hO5 eb5).st q6 (ir hO5)
 refine bL aG (zY kr k1 OB0) (fun v8 h8 q8=>?_)
 clear kr
 obtain ⟨s8,rfl,⟨m8,p8,kr,pa8,pb8⟩,pr8⟩:=q8
 have z8:=m8.1
 replace B5:=B5.mod m8 (by omega)
 refine aB y_fieldAddr<|bO (aK aP B5) (fun v9 h9 q9=>?_)
 obtain ⟨rfl,q9⟩:=q9
 have z9:=q9.1
 replace B5:=q9.2.2
 refine aD ?_
 replace le:=((((((le.tl lb1).tl lb2).t m4).tl lb5).s q6).t m8).s q9
 replace B1:=(((((B1.le lb2).mod m4 (by omega)).le lb5).s q6).mod m8 (by omega)).s q9
 replace lr7:=(lr7.t (Mod.mono m8 (fun x _ e=>e ▸ (il hO5 (il hO1 mbr))))).stO q9 (ir hO5)
 replace kr:=kr.setO q9 (ir hO5) (by omega)
 replace OB0:=OB0.leO (h':=h9) (by omega)
 exact ⟨(s8,O5,p8),ag5,⟨le,lr7,lx7,fun x hx=>hx,OB0,B1,(il hO5 (ir hO1)),B5,(ir hO5),kr,by omega,by omega,by first | assumption | decide⟩⟩
 refine aM ?_
 replace le:=((((le.tl lb1).tl lb2).t m4).tl lb5).s q6
 replace B1:=(((B1.le lb2).mod m4 (by omega)).le lb5).s q6
 replace kr:=(kr.newB lb5 hO5 eb5).setO q6 (ir hO5) (by omega)
 exact ⟨([],O5,p4),ag5,⟨le,lr7,lx7,fun x hx=>hx,OB0,B1,(il hO5 (ir hO1)),B5,(ir hO5),kr,by omega,by omega,by first | assumption | decide⟩⟩
 replace le:=((((le.tl lb1).tl lb2).t m4).tl lb5).s q6
 replace B1:=(((B1.le lb2).mod m4 (by omega)).le lb5).s q6
 replace kr:=(kr.newB lb5 hO5 eb5).setO q6 (ir hO5) (by omega)
 rintro ⟨kk,OL7,p7⟩ r hl7 ⟨le,lp7,la7,lb7,lo7,B1,mB1,B5,mB5,kr,pa7,pb7,skk⟩
 have zl7:=lp7.1
 replace OB0:=lo7
 refine dH (fun (gx:Str × (Nat → Prop) × Int)=>match gx with | (hh,OL10,p10)=>[(0,.pointer (some ⟨br,0,none⟩)),(4,.pointer (some ⟨b1,0,none⟩)),(5,.pointer (some ⟨b5,0,none⟩)),(8,vb (shN n4))]) (fun (gx:Str × (Nat → Prop) × Int) (h' : Heap)=>match gx with | (hh,OL10,p10)=>Mod (· = br) h h' ∧ Mod OL7 hl7 h' ∧ (∀ x,OL10 x → OL7 x ∨ hl7.size ≤ x)∧(∀ x,OL7 x → OL10 x)∧OB h' OL10∧Blk h' b1 [vi 0,vs [],vs [],vi 0] 118∧OL10 b1∧Blk h' b5 [vi n4,vs kk,vs hh,vi 0] 118∧OL10 b5∧RD h' OL10 br p10∧p7 ≤ p10∧p10 ≤ p7 + 1∧SB hh) ?_ ?_
 replace lr10:=Mod.refl (S:=OL7) hl7
 replace lx10:∀ x,OL7 x → OL7 x ∨ hl7.size ≤ x:=fun x hx=>.inl hx
 refine hw_sr (aB y_move<|aD ?_)
 refine bF (fun g25=>?_) (fun g25=>?_)
 refine aE (aB y_move<|bE (bA (l:=([[122],[99],[122,122],[98],[97]]:List Str))) (fun v11 h11 q11=>?_))
 obtain ⟨lb11,ow11,sb11⟩:=q11
 have z11:=lb11.1
 replace k11:Rs _ OL7 _ _:=Ow.end ⟨ow11,⟨by simp,by simp [Ok.ok]⟩⟩ OB0
 obtain ⟨A12,n12,c12,rfl⟩:=k11.frm
 replace kr:=kr.leO lb11
 replace OB0:=OB0.leO lb11.1
 refine bL aG (nK kr k11 OB0) (fun v13 h13 q13=>?_)
 clear kr
 obtain ⟨s13,rfl,⟨m13,p13,kr,pa13,pb13⟩,pr13⟩:=q13
 have z13:=m13.1
 have sb13:s13.length ≤ 2:=iV (by decide) pr13
 replace B5:=(B5.le lb11).mod m13 (by omega)
 refine aB y_fieldAddr<|bO (aK aP B5) (fun v14 h14 q14=>?_)
 obtain ⟨rfl,q14⟩:=q14
 have z14:=q14.1
 replace B5:=q14.2.2
 refine aD ?_
 replace B1:=((B1.le lb11).mod m13 (by omega)).s q14
 replace le:=((le.tl lb11).t m13).s q14
 replace lr10:=((lr10.tl lb11).t (Mod.mono m13 (fun x _ e=>e ▸ (lb7 _ (il hO5 (il hO1 mbr)))))).stO q14 mB5
 replace kr:=kr.setO q14 mB5 (by omega)
 replace OB0:=OB0.leO (h':=h14) (by omega)
 exact ⟨(s13,OL7,p13),ag4,⟨le,lr10,lx10,fun x hx=>hx,OB0,B1,mB1,B5,mB5,kr,by omega,by omega,by first | (show List.length _ ≤ 4294967296; omega) | decide⟩⟩
 refine aM ?_
 exact ⟨([],OL7,p7),ag4,⟨le,lr10,lx10,fun x hx=>hx,OB0,B1,mB1,B5,mB5,kr,by omega,by omega,by first | (show List.length _ ≤ 4294967296; omega) | decide⟩⟩
 rintro ⟨hh,OL10,p10⟩ r hl10 ⟨le,lp10,la10,lb10,lo10,B1,mB1,B5,mB5,kr,pa10,pb10,shh⟩
 have zl10:=lp10.1
 replace OB0:=lo10
 refine dH (fun (gx:Int × (Nat → Prop) × Int)=>match gx with | (nn,OL15,p15)=>[(0,.pointer (some ⟨br,0,none⟩)),(4,.pointer (some ⟨b1,0,none⟩)),(5,.pointer (some ⟨b5,0,none⟩))]) (fun (gx:Int × (Nat → Prop) × Int) (h' : Heap)=>match gx with | (nn,OL15,p15)=>Mod (· = br) h h' ∧ Mod OL10 hl10 h' ∧ (∀ x,OL15 x → OL10 x ∨ hl10.size ≤ x)∧(∀ x,OL10 x → OL15 x)∧OB h' OL15∧Blk h' b1 [vi 0,vs [],vs [],vi 0] 118∧OL15 b1∧Blk h' b5 [vi n4,vs kk,vs hh,vi nn] 118∧OL15 b5∧RD h' OL15 br p15∧p10 ≤ p15∧p15 ≤ p10 + 2) ?_ ?_
 replace lr15:=Mod.refl (S:=OL10) hl10
 replace lx15:∀ x,OL10 x → OL10 x ∨ hl10.size ≤ x:=fun x hx=>.inl hx
 refine hw_sr (aB y_move<|aD ?_)
 refine bF (fun g30=>?_) (fun g30=>?_)
 refine aE (aB y_move<|bL aG (wM kr OB0) (fun v16 h16 q16=>?_))
 clear kr
 obtain ⟨n16,rfl,⟨m16,p16,kr,pa16,pb16⟩,pr16⟩:=q16
 have z16:=m16.1
 replace B5:=B5.mod m16 (by omega)
 refine aB y_fieldAddr<|bO (aK aP B5) (fun v17 h17 q17=>?_)
 obtain ⟨rfl,q17⟩:=q17
 have z17:=q17.1
 replace B5:=q17.2.2
 refine aD ?_
 replace B1:=(B1.mod m16 (by omega)).s q17
 replace le:=(le.t m16).s q17
 replace lr15:=(lr15.t (Mod.mono m16 (fun x _ e=>e ▸ (lb10 _ (lb7 _ (il hO5 (il hO1 mbr))))))).stO q17 mB5
 replace kr:=kr.setO q17 mB5 (by omega)
 replace OB0:=OB0.leO (h':=h17) (by omega)
 exact ⟨(n16,OL10,p16),ag3,⟨le,lr15,lx15,fun x hx=>hx,OB0,B1,mB1,B5,mB5,kr,by omega,by omega⟩⟩
 refine aM ?_
 exact ⟨(0,OL10,p10),ag3,⟨le,lr15,lx15,fun x hx=>hx,OB0,B1,mB1,B5,mB5,kr,by omega,by omega⟩⟩
 rintro ⟨nn,OL15,p15⟩ r hl15 ⟨le,lp15,la15,lb15,lo15,B1,mB1,B5,mB5,kr,pa15,pb15⟩
 have zl15:=lp15.1
 refine aI ?_
 refine hw_sr (aB y_move<|?_)
 replace OB0:=lo15
 refine bL aG (eH kr OB0) (fun v18 h18 q18=>?_)
 clear kr
 obtain ⟨i18,rfl,⟨m18,p18,kr,pa18,pb18⟩,pr18⟩:=q18
 have z18:=m18.1
 refine aD ?_
 refine aX ?_
 refine hw_sr (aB bM<|aB aC<|aD ?_)
 refine aZ (fun g36=>?_) (fun g36=>?_)
 refine aE (aB y_move<|?_)
 refine bE (bA (l:=([0,10,(-1)]:List Int))) (fun v19 h19 q19=>?_)
 obtain ⟨lb19,ow19,sb19⟩:=q19
 have z19:=lb19.1
 replace OB0:=OB0.leO m18.1
 replace k19:Rs _ OL15 _ _:=Ow.end ⟨ow19,⟨by simp,by simp [Ok.ok]⟩⟩ OB0
 obtain ⟨A20,n20,c20,rfl⟩:=k19.frm
 replace kr:=kr.leO lb19
 replace OB0:=OB0.leO lb19.1
 refine bL aG (jH kr k19 OB0) (fun v21 h21 q21=>?_)
 clear kr
 obtain ⟨n21,rfl,⟨m21,p21,kr,pa21,pb21⟩,pr21⟩:=q21
 have z21:=m21.1
 have ib21 : -1 ≤ n21∧n21 ≤ 10:=jM (by decide) pr21
 replace B5:=((B5.mod m18 (by omega)).le lb19).mod m21 (by omega)
 refine aB y_fieldAddr<|bO (aK aP B5) (fun v22 h22 q22=>?_)
 obtain ⟨rfl,q22⟩:=q22
 have z22:=q22.1
 replace B5:=q22.2.2
 refine aD ?_
 refine aF (ah2 4 5) fun r=>?_
 refine hw_sr (aB (y_loadB B5 0 _)<|?_)
 replace B1:=(((B1.mod m18 (by omega)).le lb19).mod m21 (by omega)).s q22
 refine bO (aK aP B1) (fun v23 h23 q23=>?_)
 obtain ⟨rfl,q23⟩:=q23
 have z23:=q23.1
 replace B1:=q23.2.2
 refine aD ?_
 refine hw_rr ?_
 refine aQ rfl (.cons (bT B1) .nil) ?_
 replace le:=((((le.t m18).tl lb19).t m21).s q22).s q23
 replace kr:=(kr.setO q22 mB5 (by omega)).setO q23 mB1 (by omega)
 exact ⟨⟨_,_,_,_⟩,by first | rfl | (simp_all [oneOf] <;> omega),⟨le,_,RD.weakO kr (fun x hx=>(lb15 _ (lb10 _ (lb7 _ (il hO5 (il hO1 hx)))))) mbr,by omega,by omega⟩,⟨by (try dsimp only); first | assumption | decide,by (try dsimp only); first | assumption | decide⟩⟩
 refine hw_sr (aB bM<|aB aC<|aD ?_)
 refine aZ (fun g42=>?_) (fun g42=>?_)
 replace B5:=B5.mod m18 (by omega)
 refine aE (aB y_fieldAddr<|bO (aK aP B5) (fun v24 h24 q24=>?_))
 obtain ⟨rfl,q24⟩:=q24
 have z24:=q24.1
 replace B5:=q24.2.2
 refine aD ?_
 refine hw_sr (aB (y_loadB B5 0 _)<|?_)
 replace B1:=(B1.mod m18 (by omega)).s q24
 refine bO (aK aP B1) (fun v25 h25 q25=>?_)
 obtain ⟨rfl,q25⟩:=q25
 have z25:=q25.1
 replace B1:=q25.2.2
 refine aD ?_
 refine hw_rr ?_
 refine aQ rfl (.cons (bT B1) .nil) ?_
 replace le:=((le.t m18).s q24).s q25
 replace kr:=(kr.setO q24 mB5 (by omega)).setO q25 mB1 (by omega)
 exact ⟨⟨_,_,_,_⟩,by first | rfl | (simp_all [oneOf] <;> omega),⟨le,_,RD.weakO kr (fun x hx=>(lb15 _ (lb10 _ (lb7 _ (il hO5 (il hO1 hx)))))) mbr,by omega,by omega⟩,⟨by (try dsimp only); first | assumption | decide,by (try dsimp only); first | assumption | decide⟩⟩
 refine hw_sr (aB bM<|aB aC<|aD ?_)
 refine aZ (fun g45=>?_) (fun g45=>?_)
 replace B5:=B5.mod m18 (by omega)
 refine aE (aB y_fieldAddr<|bO (aK aP B5) (fun v26 h26 q26=>?_))
 obtain ⟨rfl,q26⟩:=q26
 have z26:=q26.1
 replace B5:=q26.2.2
 refine aD ?_
 refine hw_sr (aB (y_loadB B5 0 _)<|?_)
 replace B1:=(B1.mod m18 (by omega)).s q26
 refine bO (aK aP B1) (fun v27 h27 q27=>?_)
 obtain ⟨rfl,q27⟩:=q27
 have z27:=q27.1
 replace B1:=q27.2.2
 refine aD ?_
 refine hw_rr ?_
 refine aQ rfl (.cons (bT B1) .nil) ?_
 replace le:=((le.t m18).s q26).s q27
 replace kr:=(kr.setO q26 mB5 (by omega)).setO q27 mB1 (by omega)
 exact ⟨⟨_,_,_,_⟩,by first | rfl | (simp_all [oneOf] <;> omega),⟨le,_,RD.weakO kr (fun x hx=>(lb15 _ (lb10 _ (lb7 _ (il hO5 (il hO1 hx)))))) mbr,by omega,by omega⟩,⟨by (try dsimp only); first | assumption | decide,by (try dsimp only); first | assumption | decide⟩⟩
 refine hw_sr (aB bM<|aB aC<|aD ?_)
 refine aZ (fun g48=>?_) (fun g48=>?_)
 replace B5:=B5.mod m18 (by omega)
 refine aE (aB y_fieldAddr<|bO (aK aP B5) (fun v28 h28 q28=>?_))
 obtain ⟨rfl,q28⟩:=q28
 have z28:=q28.1
 replace B5:=q28.2.2
 refine aD ?_
 refine hw_sr (aB (y_loadB B5 0 _)<|?_)
 replace B1:=(B1.mod m18 (by omega)).s q28
 refine bO (aK aP B1) (fun v29 h29 q29=>?_)
 obtain ⟨rfl,q29⟩:=q29
 have z29:=q29.1
 replace B1:=q29.2.2
 refine aD ?_
 refine hw_rr ?_
 refine aQ rfl (.cons (bT B1) .nil) ?_
 replace le:=((le.t m18).s q28).s q29
 replace kr:=(kr.setO q28 mB5 (by omega)).setO q29 mB1 (by omega)
 exact ⟨⟨_,_,_,_⟩,by first | rfl | (simp_all [oneOf] <;> omega),⟨le,_,RD.weakO kr (fun x hx=>(lb15 _ (lb10 _ (lb7 _ (il hO5 (il hO1 hx)))))) mbr,by omega,by omega⟩,⟨by (try dsimp only); first | assumption | decide,by (try dsimp only); first | assumption | decide⟩⟩
 refine aM ?_
 refine aI ?_
 replace B5:=B5.mod m18 (by omega)
 refine aE (aB (y_loadB B5 0 _)<|?_)
 replace B1:=B1.mod m18 (by omega)
 refine bO (aK aP B1) (fun v30 h30 q30=>?_)
 obtain ⟨rfl,q30⟩:=q30
 have z30:=q30.1
 replace B1:=q30.2.2
 refine aD ?_
 refine hw_rr ?_
 refine aQ rfl (.cons (bT B1) .nil) ?_
 replace le:=(le.t m18).s q30
 replace kr:=kr.setO q30 mB1 (by omega)
 exact ⟨⟨_,_,_,_⟩,by first | rfl | (simp_all [oneOf] <;> omega),⟨le,_,RD.weakO kr (fun x hx=>(lb15 _ (lb10 _ (lb7 _ (il hO5 (il hO1 hx)))))) mbr,by omega,by omega⟩,⟨by (try dsimp only); first | assumption | decide,by (try dsimp only); first | assumption | decide⟩⟩
set_option maxHeartbeats 1000000 in
theorem tU {w0:World} {h:Heap} {O:Nat → Prop} {br:Nat} {p:Int} {rows:List Row} {k1v:Value} {names:List Named} {k2v:Value} (kr:RD h O br p) (k1:Rs h O k1v rows) (k2:Rs h O k2v names) (OB0:OB h O) (hp:p + 20 ≤ 1000000000:=by omega) (hN:NB names:=by assumption):HC (XM PP) w0 54 [.pointer (some ⟨br,0,none⟩),k1v,k2v].toArray h (fun rv h'=>∃ (l:Letter) ,rv = .agg #[vs l.sign,vs l.body]∧pD O br p 20 h h' ∧ LB l):=by
 obtain ⟨Ak1,nk1,ck1,rfl⟩:=k1.frm
 obtain ⟨Ak2,nk2,ck2,rfl⟩:=k2.frm
 replace le:=Mod.refl (S:=(· = br)) h
 have brl:=kr.lt
 have mbr:=kr.mem
 have OBe:=OB0
 refine aV 79 [(0,.pointer (some ⟨br,0,none⟩)),(1,(.slice Ak1 nk1 ck1)),(2,(.slice Ak2 nk2 ck2))] Tryz.func54 (fun r=>?_)
 refine hw_sr (bE aY (fun v1 h1 q1=>?_))
 obtain ⟨b1,O1,rfl,eb1,sb1,lb1,B1,hO1⟩:=q1.ox O
 refine aD ?_
 refine hw_sr (aB y_move<|aB y_move<|?_)
 replace kr:=kr.newB lb1 hO1 eb1
 replace k1:=k1.nb lb1 hO1 eb1
 replace OB0:=OB0.newB sb1 hO1 eb1
 refine bL aG (l4Ask_c kr k1 OB0) (fun v2 h2 q2=>?_)
 clear kr
 obtain ⟨a2,rfl,⟨m2,p2,kr,pa2,pb2⟩,pr2⟩:=q2
 have z2:=m2.1
 replace OB0:=OB0.leO m2.1
 refine bL aG (xF (a:=a2) OB0) (fun v3 h3 q3=>?_)
 obtain ⟨rfl,lc3⟩:=q3
 have z3:=lc3.1
 refine aB aC<|aD ?_
 refine aF (ah4 0 2 6 7) fun r=>?_
 refine hw_sr (aB y_move<|?_)
 refine bE (bA (l:=([[97],[98],[99],[100]]:List Str))) (fun v4 h4 q4=>?_)
 obtain ⟨lb4,ow4,sb4⟩:=q4
 have z4:=lb4.1
 replace OB0:=OB0.leO lc3.1
 replace k4:Rs _ O1 _ _:=Ow.end ⟨ow4,⟨by simp,by simp [Ok.ok]⟩⟩ OB0
 obtain ⟨A5,n5,c5,rfl⟩:=k4.frm
 replace kr:=(kr.leO lc3).leO lb4
 replace OB0:=OB0.leO lb4.1
 refine bL aG (nK kr k4 OB0) (fun v6 h6 q6=>?_)
 clear kr
 obtain ⟨s6,rfl,⟨m6,p6,kr,pa6,pb6⟩,pr6⟩:=q6
 have z6:=m6.1
 have sb6:s6.length ≤ 1:=iV (by decide) pr6
 refine aB aC<|aD ?_
 refine aF (ah5 0 2 6 7 8) fun r=>?_
 refine dH (fun (gx:Str × Int)=>match gx with | (nm,p7)=>[(0,.pointer (some ⟨br,0,none⟩)),(6,.pointer (some ⟨b1,0,none⟩)),(7,vs (fO a2)),(8,vs nm)]) (fun (gx:Str × Int) (h' : Heap)=>match gx with | (nm,p7)=>Mod (· = br) h6 h' ∧ RD h' O1 br p7∧p6 ≤ p7∧p7 ≤ p6 + 2∧nm.length ≤ 1) ?_ ?_
 replace lr7:=Mod.refl (S:=(· = br)) h6
 refine hw_sr (aB y_move<|aB (y_lenA k2.1)<|aB cU<|aB y_move<|?_)
 refine dA ((0:Int) < (names.length:Int)) (fun g19=>?_) (fun g19=>?_)
 replace OB0:=OB0.leO m6.1
 refine aO (dT g19) y_move<|iR (dT g19) aG (eH kr OB0) (fun v8 h8 q8=>?_)
 clear kr
 obtain ⟨i8,rfl,⟨m8,p8,kr,pa8,pb8⟩,pr8⟩:=q8
 have z8:=m8.1
 refine aO (dT g19) cU<|aB (y_pickT (dT g19))<|aD ?_
 refine aF (ah6 0 2 6 7 8 23) fun r=>?_
 refine aZ (fun g23=>?_) (fun g23=>?_)
 refine aE (aB y_move<|aB y_move<|aB y_move<|aB (y_lenA k2.1)<|?_)
 replace OB0:=OB0.leO m8.1
 refine bL aG (eH kr OB0) (fun v9 h9 q9=>?_)
 clear kr
 obtain ⟨i9,rfl,⟨m9,p9,kr,pa9,pb9⟩,pr9⟩:=q9
 have z9:=m9.1
 obtain ⟨x1,hx1⟩:∃ x,names[(i9).toNat]? = some x:=⟨_,List.getElem?_eq_getElem (by omega)⟩
 obtain ⟨sx1_0,sx1_1,sx1_2⟩:SB x1.name∧SB x1.ask.key∧SB x1.ask.hi:=k2.2.at hx1
 have hxn:=hN x1 (List.mem_of_getElem? hx1)
 refine aB (gR k2.1)<|aB y_fieldAddr<|?_
 replace k2:=((((((k2.nb lb1 hO1 eb1).md m2 (fun _ e=>e ▸ (il hO1 mbr))).le lc3).le lb4).md m6 (fun _ e=>e ▸ (il hO1 mbr))).md m8 (fun _ e=>e ▸ (il hO1 mbr))).md m9 (fun _ e=>e ▸ (il hO1 mbr))
 refine aB (y_load (RdF.cell k2.1 hx1 rfl))<|aB aC<|aD ?_
 replace lr7:=(lr7.t m8).t m9
 exact ⟨(x1.name,p9),ag4,⟨lr7,kr,by omega,by omega,by first | omega | assumption⟩⟩
 refine aM ?_
 replace lr7:=lr7.t m8
 exact ⟨(s6,p8),ag4,⟨lr7,kr,by omega,by omega,by first | omega | assumption⟩⟩
 refine aN (neF (dF g19))<|aN (neF (dF g19))<|aN (neF (dF g19))<|aB (aR (dF g19))<|aD ?_
 refine aF (ah6 0 2 6 7 8 23) fun r=>?_
 refine eZ rfl ?_
 refine aM ?_
 exact ⟨(s6,p6),ag4,⟨lr7,kr,by omega,by omega,by first | omega | assumption⟩⟩
 rintro ⟨nm,p7⟩ r hl7 ⟨lp7,kr,pa7,pb7,snm⟩
 have zl7:=lp7.1
 refine aI ?_
 refine hw_sr (aB y_move<|?_)
 replace OB0:=OB0.leO (h':=hl7) (by omega)
 refine bL aG (eH kr OB0) (fun v10 h10 q10=>?_)
 clear kr
 obtain ⟨i10,rfl,⟨m10,p10,kr,pa10,pb10⟩,pr10⟩:=q10
 have z10:=m10.1
 refine aD ?_
 refine aX ?_
 refine dH (fun (gu:Unit)=>[(0,.pointer (some ⟨br,0,none⟩)),(6,.pointer (some ⟨b1,0,none⟩)),(7,vs (fO a2)),(8,vs nm),(33,vi i10),(34,vb ((decide (i10 = 0)) || ((decide (i10 = 1)) || ((decide (i10 = 2)) || ((decide (i10 = 3)) || (decide (i10 = 4)))))))]) (fun (gu:Unit) (h' : Heap)=>h10 = h') ?_ ?_
 refine hw_sr (aB bM<|aB aC<|aD ?_)
 refine aZ (fun g34=>?_) (fun g34=>?_)
 refine aM ?_
 exact ⟨(),(aA (aA (aA (aA (aA (aA aJ (by simp only [aH,reduceIte,Nat.reduceEqDiff,reduceCtorEq,(dT g34),bb] <;> rfl))))))),(rfl)⟩
 refine hw_sr (aB bM<|aB aC<|aD ?_)
 refine aZ (fun g34_1=>?_) (fun g34_1=>?_)
 refine aM ?_
 exact ⟨(),(aA (aA (aA (aA (aA (aA aJ (by first | (simp only [aH,reduceIte,Nat.reduceEqDiff,reduceCtorEq,(dF g34),(dT g34_1),bb]; done) | (simp only [aH,reduceIte,Nat.reduceEqDiff,reduceCtorEq]; try simp only [(dF g34),bb]; try simp only [(dT g34_1),bb]; done) | (simp only [aH,reduceIte,Nat.reduceEqDiff,reduceCtorEq,(dF g34),(dT g34_1),bb]; rfl)))))))),(rfl)⟩
 refine hw_sr (aB bM<|aB aC<|aD ?_)
 refine aZ (fun g34_2=>?_) (fun g34_2=>?_)
 refine aM ?_
 exact ⟨(),(aA (aA (aA (aA (aA (aA aJ (by first | (simp only [aH,reduceIte,Nat.reduceEqDiff,reduceCtorEq,(dF g34),(dF g34_1),(dT g34_2),bb]; done) | (simp only [aH,reduceIte,Nat.reduceEqDiff,reduceCtorEq]; try simp only [(dF g34),bb]; try simp only [(dF g34_1),bb]; try simp only [(dT g34_2),bb]; done) | (simp only [aH,reduceIte,Nat.reduceEqDiff,reduceCtorEq,(dF g34),(dF g34_1),(dT g34_2),bb]; rfl)))))))),(rfl)⟩
 refine hw_sr (aB bM<|aB aC<|aD ?_)
 refine aZ (fun g34_3=>?_) (fun g34_3=>?_)
 refine aM ?_
 exact ⟨(),(aA (aA (aA (aA (aA (aA aJ (by first | (simp only [aH,reduceIte,Nat.reduceEqDiff,reduceCtorEq,(dF g34),(dF g34_1),(dF g34_2),(dT g34_3),bb]; done) | (simp only [aH,reduceIte,Nat.reduceEqDiff,reduceCtorEq]; try simp only [(dF g34),bb]; try simp only [(dF g34_1),bb]; try simp only [(dF g34_2),bb]; try simp only [(dT g34_3),bb]; done) | (simp only [aH,reduceIte,Nat.reduceEqDiff,reduceCtorEq,(dF g34),(dF g34_1),(dF g34_2),(dT g34_3),bb]; rfl)))))))),(rfl)⟩
 refine aE (aB bM<|aB aC<|aD ?_)
 exact ⟨(),(aA (aA (aA (aA (aA (aA aJ (by first | (simp only [aH,reduceIte,Nat.reduceEqDiff,reduceCtorEq,(dF g34),(dF g34_1),(dF g34_2),(dF g34_3),bb]; done) | (simp only [aH,reduceIte,Nat.reduceEqDiff,reduceCtorEq]; try simp only [(dF g34),bb]; try simp only [(dF g34_1),bb]; try simp only [(dF g34_2),bb]; try simp only [(dF g34_3),bb]; done) | (simp only [aH,reduceIte,Nat.reduceEqDiff,reduceCtorEq,(dF g34),(dF g34_1),(dF g34_2),(dF g34_3),bb]; rfl)))))))),(rfl)⟩
 rintro gu r _ rfl
 refine bF (fun g34=>?_) (fun g34=>?_)
 have g34':=g34
 simp at g34'
 refine hw_sr (aB y_move<|aB (y_build rfl rfl)<|?_)
 replace B1:=(((((B1.mod m2 (by omega)).le lc3).le lb4).mod m6 (by omega)).mod lp7 (by omega)).mod m10 (by omega)
 refine bO (aK aP B1) (fun v12 h12 q12=>?_)
 obtain ⟨rfl,q12⟩:=q12
 have z12:=q12.1
 replace B1:=q12.2.2
 refine aD ?_
 refine aF (ah1 6) fun r=>?_
 refine hw_rr ?_
 refine aQ rfl (.cons (bT B1) .nil) ?_
 replace le:=(((((((le.tl lb1).t m2).tl lc3).tl lb4).t m6).t lp7).t m10).s q12
 replace kr:=kr.setO q12 (ir hO1) (by omega)
 exact ⟨⟨_,_⟩,by first | rfl | (simp_all [oneOf] <;> omega),⟨le,_,RD.weakO kr (fun x hx=>(il hO1 hx)) mbr,by omega,by omega⟩,⟨by dsimp only; first | omega | decide,by dsimp only; first | omega | decide | (exact Nat.le_trans (dW _) (by decide)) | (rw [List.length_append,List.length_append]; exact Nat.le_trans (Nat.add_le_add (Nat.add_le_add snm (Nat.le_refl 1)) (dW _)) (by decide)) | (simp; omega)⟩⟩
 have g34':=g34
 simp at g34'
 refine dH (fun (gu:Unit)=>[(0,.pointer (some ⟨br,0,none⟩)),(6,.pointer (some ⟨b1,0,none⟩)),(7,vs (fO a2)),(8,vs nm),(33,vi i10),(42,vb ((decide (i10 = 5)) || ((decide (i10 = 6)) || (decide (i10 = 7)))))]) (fun (gu:Unit) (h' : Heap)=>h10 = h') ?_ ?_
 refine hw_sr (aB bM<|aB aC<|aD ?_)
 refine aZ (fun g42=>?_) (fun g42=>?_)
 refine aM ?_
 exact ⟨(),(aA (aA (aA (aA (aA (aA aJ (by simp only [aH,reduceIte,Nat.reduceEqDiff,reduceCtorEq,(dT g42),bb] <;> rfl))))))),(rfl)⟩
 refine hw_sr (aB bM<|aB aC<|aD ?_)
 refine aZ (fun g42_1=>?_) (fun g42_1=>?_)
 refine aM ?_
 exact ⟨(),(aA (aA (aA (aA (aA (aA aJ (by first | (simp only [aH,reduceIte,Nat.reduceEqDiff,reduceCtorEq,(dF g42),(dT g42_1),bb]; done) | (simp only [aH,reduceIte,Nat.reduceEqDiff,reduceCtorEq]; try simp only [(dF g42),bb]; try simp only [(dT g42_1),bb]; done) | (simp only [aH,reduceIte,Nat.reduceEqDiff,reduceCtorEq,(dF g42),(dT g42_1),bb]; rfl)))))))),(rfl)⟩
 refine aE (aB bM<|aB aC<|aD ?_)
 exact ⟨(),(aA (aA (aA (aA (aA (aA aJ (by first | (simp only [aH,reduceIte,Nat.reduceEqDiff,reduceCtorEq,(dF g42),(dF g42_1),bb]; done) | (simp only [aH,reduceIte,Nat.reduceEqDiff,reduceCtorEq]; try simp only [(dF g42),bb]; try simp only [(dF g42_1),bb]; done) | (simp only [aH,reduceIte,Nat.reduceEqDiff,reduceCtorEq,(dF g42),(dF g42_1),bb]; rfl)))))))),(rfl)⟩
 rintro gu r _ rfl
 refine bF (fun g42=>?_) (fun g42=>?_)
 have g42':=g42
 simp at g42'
 refine hw_sr (aB y_move<|aB dX<|aB y_move<|aB (dX (hl:=Nat.le_trans (Nat.add_le_add (by rw [List.length_append]; exact Nat.add_le_add snm (Nat.le_refl 1)) (dW _)) (by decide)))<|aB (y_build rfl rfl)<|?_)
 replace B1:=(((((B1.mod m2 (by omega)).le lc3).le lb4).mod m6 (by omega)).mod lp7 (by omega)).mod m10 (by omega)
 refine bO (aK aP B1) (fun v14 h14 q14=>?_)
 obtain ⟨rfl,q14⟩:=q14
 have z14:=q14.1
 replace B1:=q14.2.2
 refine aD ?_
 refine aF (ah1 6) fun r=>?_
 refine hw_rr ?_
 refine aQ rfl (.cons (bT B1) .nil) ?_
 replace le:=(((((((le.tl lb1).t m2).tl lc3).tl lb4).t m6).t lp7).t m10).s q14
 replace kr:=kr.setO q14 (ir hO1) (by omega)
 exact ⟨⟨_,_⟩,by first | rfl | (simp_all [oneOf] <;> omega),⟨le,_,RD.weakO kr (fun x hx=>(il hO1 hx)) mbr,by omega,by omega⟩,⟨by dsimp only; first | omega | decide,by dsimp only; first | omega | decide | (exact Nat.le_trans (dW _) (by decide)) | (rw [List.length_append,List.length_append]; exact Nat.le_trans (Nat.add_le_add (Nat.add_le_add snm (Nat.le_refl 1)) (dW _)) (by decide)) | (simp; omega)⟩⟩
 have g42':=g42
 simp at g42'
 refine dH (fun (gu:Unit)=>[(0,.pointer (some ⟨br,0,none⟩)),(6,.pointer (some ⟨b1,0,none⟩)),(8,vs nm),(33,vi i10),(51,vb ((decide (i10 = 8)) || ((decide (i10 = 9)) || ((decide (i10 = 10)) || (decide (i10 = 11))))))]) (fun (gu:Unit) (h' : Heap)=>h10 = h') ?_ ?_
 refine hw_sr (aB bM<|aB aC<|aD ?_)
 refine aZ (fun g51=>?_) (fun g51=>?_)
 refine aM ?_
 exact ⟨(),(aA (aA (aA (aA (aA aJ (by simp only [aH,reduceIte,Nat.reduceEqDiff,reduceCtorEq,(dT g51),bb] <;> rfl)))))),(rfl)⟩
 refine hw_sr (aB bM<|aB aC<|aD ?_)
 refine aZ (fun g51_1=>?_) (fun g51_1=>?_)
 refine aM ?_
 exact ⟨(),(aA (aA (aA (aA (aA aJ (by first | (simp only [aH,reduceIte,Nat.reduceEqDiff,reduceCtorEq,(dF g51),(dT g51_1),bb]; done) | (simp only [aH,reduceIte,Nat.reduceEqDiff,reduceCtorEq]; try simp only [(dF g51),bb]; try simp only [(dT g51_1),bb]; done) | (simp only [aH,reduceIte,Nat.reduceEqDiff,reduceCtorEq,(dF g51),(dT g51_1),bb]; rfl))))))),(rfl)⟩
 refine hw_sr (aB bM<|aB aC<|aD ?_)
 refine aZ (fun g51_2=>?_) (fun g51_2=>?_)
 refine aM ?_
 exact ⟨(),(aA (aA (aA (aA (aA aJ (by first | (simp only [aH,reduceIte,Nat.reduceEqDiff,reduceCtorEq,(dF g51),(dF g51_1),(dT g51_2),bb]; done) | (simp only [aH,reduceIte,Nat.reduceEqDiff,reduceCtorEq]; try simp only [(dT g51_2),bb]; try simp only [(dF g51),bb]; try simp only [(dF g51_1),bb]; done) | (simp only [aH,reduceIte,Nat.reduceEqDiff,reduceCtorEq,(dF g51),(dF g51_1),(dT g51_2),bb]; rfl))))))),(rfl)⟩
 refine aE (aB bM<|aB aC<|aD ?_)
 exact ⟨(),(aA (aA (aA (aA (aA aJ (by first | (simp only [aH,reduceIte,Nat.reduceEqDiff,reduceCtorEq,(dF g51),(dF g51_1),(dF g51_2),bb]; done) | (simp only [aH,reduceIte,Nat.reduceEqDiff,reduceCtorEq]; try simp only [(dF g51_2),bb]; try simp only [(dF g51),bb]; try simp only [(dF g51_1),bb]; done) | (simp only [aH,reduceIte,Nat.reduceEqDiff,reduceCtorEq,(dF g51),(dF g51_1),(dF g51_2),bb]; rfl))))))),(rfl)⟩
 rintro gu r _ rfl
 refine bF (fun g51=>?_) (fun g51=>?_)
 have g51':=g51
 simp at g51'
 refine hw_sr (aB y_move<|aB (y_build rfl rfl)<|?_)
 replace B1:=(((((B1.mod m2 (by omega)).le lc3).le lb4).mod m6 (by omega)).mod lp7 (by omega)).mod m10 (by omega)
 refine bO (aK aP B1) (fun v16 h16 q16=>?_)
 obtain ⟨rfl,q16⟩:=q16
 have z16:=q16.1
 replace B1:=q16.2.2
 refine aD ?_
 refine aF (ah1 6) fun r=>?_
 refine hw_rr ?_
 refine aQ rfl (.cons (bT B1) .nil) ?_
 replace le:=(((((((le.tl lb1).t m2).tl lc3).tl lb4).t m6).t lp7).t m10).s q16
 replace kr:=kr.setO q16 (ir hO1) (by omega)
 exact ⟨⟨_,_⟩,by first | rfl | (simp_all [oneOf] <;> omega),⟨le,_,RD.weakO kr (fun x hx=>(il hO1 hx)) mbr,by omega,by omega⟩,⟨by dsimp only; first | omega | decide,by dsimp only; first | omega | decide | (exact Nat.le_trans (dW _) (by decide)) | (rw [List.length_append,List.length_append]; exact Nat.le_trans (Nat.add_le_add (Nat.add_le_add snm (Nat.le_refl 1)) (dW _)) (by decide)) | (simp; omega)⟩⟩
 have g51':=g51
 simp at g51'
 refine dH (fun (gu:Unit)=>[(0,.pointer (some ⟨br,0,none⟩)),(6,.pointer (some ⟨b1,0,none⟩)),(33,vi i10),(58,vb ((decide (i10 = 12)) || (decide (i10 = 13))))]) (fun (gu:Unit) (h' : Heap)=>h10 = h') ?_ ?_
 refine hw_sr (aB bM<|aB aC<|aD ?_)
 refine aZ (fun g58=>?_) (fun g58=>?_)
 refine aM ?_
 exact ⟨(),(aA (aA (aA (aA aJ (by simp only [aH,reduceIte,Nat.reduceEqDiff,reduceCtorEq,(dT g58),bb] <;> rfl))))),(rfl)⟩
 refine aE (aB bM<|aB aC<|aD ?_)
 exact ⟨(),(aA (aA (aA (aA aJ (by simp only [aH,reduceIte,Nat.reduceEqDiff,reduceCtorEq,(dF g58),bb] <;> rfl))))),(rfl)⟩
 rintro gu r _ rfl
 refine bF (fun g58=>?_) (fun g58=>?_)
 have g58':=g58
 simp at g58'
 refine hw_sr (aB (y_build rfl rfl)<|?_)
 replace B1:=(((((B1.mod m2 (by omega)).le lc3).le lb4).mod m6 (by omega)).mod lp7 (by omega)).mod m10 (by omega)
 refine bO (aK aP B1) (fun v18 h18 q18=>?_)
 obtain ⟨rfl,q18⟩:=q18
 have z18:=q18.1
 replace B1:=q18.2.2
 refine aD ?_
 refine hw_rr ?_
 refine aQ rfl (.cons (bT B1) .nil) ?_
 replace le:=(((((((le.tl lb1).t m2).tl lc3).tl lb4).t m6).t lp7).t m10).s q18
 replace kr:=kr.setO q18 (ir hO1) (by omega)
 exact ⟨⟨_,_⟩,by first | rfl | (simp_all [oneOf] <;> omega),⟨le,_,RD.weakO kr (fun x hx=>(il hO1 hx)) mbr,by omega,by omega⟩,⟨by dsimp only; first | omega | decide,by dsimp only; first | omega | decide | (exact Nat.le_trans (dW _) (by decide)) | (rw [List.length_append,List.length_append]; exact Nat.le_trans (Nat.add_le_add (Nat.add_le_add snm (Nat.le_refl 1)) (dW _)) (by decide)) | (simp; omega)⟩⟩
 have g58':=g58
 simp at g58'
 refine hw_sr (aB bM<|aB aC<|aD ?_)
 refine aZ (fun g62=>?_) (fun g62=>?_)
 refine hw_sr (aB y_move<|?_)
 refine bE (bA (l:=([[81],[80],[69],[83],[81],[83]]:List Str))) (fun v19 h19 q19=>?_)
 obtain ⟨lb19,ow19,sb19⟩:=q19
 have z19:=lb19.1
 replace OB0:=OB0.leO m10.1
 replace k19:Rs _ O1 _ _:=Ow.end ⟨ow19,⟨by simp,by simp [Ok.ok]⟩⟩ OB0
 obtain ⟨A20,n20,c20,rfl⟩:=k19.frm
 replace kr:=kr.leO lb19
 replace OB0:=OB0.leO lb19.1
 refine bL aG (nK kr k19 OB0) (fun v21 h21 q21=>?_)
 clear kr
 obtain ⟨s21,rfl,⟨m21,p21,kr,pa21,pb21⟩,pr21⟩:=q21
 have z21:=m21.1
 have sb21:s21.length ≤ 1:=iV (by decide) pr21
 refine aB y_move<|?_
 refine bE (bA (l:=([[],[102,108,121],[97],[97,98,32,103,101,116,32,97],[97,32,32,103,101,116,32,97],[122,122]]:List Str))) (fun v22 h22 q22=>?_)
 obtain ⟨lb22,ow22,sb22⟩:=q22
 have z22:=lb22.1
 replace OB0:=OB0.leO m21.1
 replace k22:Rs _ O1 _ _:=Ow.end ⟨ow22,⟨by simp,by simp [Ok.ok]⟩⟩ OB0
 obtain ⟨A23,n23,c23,rfl⟩:=k22.frm
 replace kr:=kr.leO lb22
 replace OB0:=OB0.leO lb22.1
 refine bL aG (nK kr k22 OB0) (fun v24 h24 q24=>?_)
 clear kr
 obtain ⟨s24,rfl,⟨m24,p24,kr,pa24,pb24⟩,pr24⟩:=q24
 have z24:=m24.1
 have sb24:s24.length ≤ 8:=iV (by decide) pr24
 refine aB (y_build rfl rfl)<|?_
 replace B1:=(((((((((B1.mod m2 (by omega)).le lc3).le lb4).mod m6 (by omega)).mod lp7 (by omega)).mod m10 (by omega)).le lb19).mod m21 (by omega)).le lb22).mod m24 (by omega)
 refine bO (aK aP B1) (fun v25 h25 q25=>?_)
 obtain ⟨rfl,q25⟩:=q25
 have z25:=q25.1
 replace B1:=q25.2.2
 refine aD ?_
 refine aF (ah1 6) fun r=>?_
 refine hw_rr ?_
 refine aQ rfl (.cons (bT B1) .nil) ?_
 replace le:=(((((((((((le.tl lb1).t m2).tl lc3).tl lb4).t m6).t lp7).t m10).tl lb19).t m21).tl lb22).t m24).s q25
 replace kr:=kr.setO q25 (ir hO1) (by omega)
 exact ⟨⟨_,_⟩,by first | rfl | (simp_all [oneOf] <;> omega),⟨le,_,RD.weakO kr (fun x hx=>(il hO1 hx)) mbr,by omega,by omega⟩,⟨by dsimp only; first | omega | decide,by dsimp only; first | omega | decide | (exact Nat.le_trans (dW _) (by decide)) | (rw [List.length_append,List.length_append]; exact Nat.le_trans (Nat.add_le_add (Nat.add_le_add snm (Nat.le_refl 1)) (dW _)) (by decide)) | (simp; omega)⟩⟩
 refine aM ?_
 refine aI ?_
 refine hw_sr (aB y_move<|?_)
 replace OB0:=OB0.leO m10.1
 refine bL aG (eH kr OB0) (fun v26 h26 q26=>?_)
 clear kr
 obtain ⟨i26,rfl,⟨m26,p26,kr,pa26,pb26⟩,pr26⟩:=q26
 have z26:=m26.1
 refine aB bM<|aD ?_
 refine aZ (fun g73=>?_) (fun g73=>?_)
 refine hw_sr (aB y_move<|?_)
 refine bE (bA (l:=([[88],[65],[48],[88]]:List Str))) (fun v27 h27 q27=>?_)
 obtain ⟨lb27,ow27,sb27⟩:=q27
 have z27:=lb27.1
 replace OB0:=OB0.leO m26.1
 replace k27:Rs _ O1 _ _:=Ow.end ⟨ow27,⟨by simp,by simp [Ok.ok]⟩⟩ OB0
 obtain ⟨A28,n28,c28,rfl⟩:=k27.frm
 replace kr:=kr.leO lb27
 replace OB0:=OB0.leO lb27.1
 refine bL aG (nK kr k27 OB0) (fun v29 h29 q29=>?_)
 clear kr
 obtain ⟨s29,rfl,⟨m29,p29,kr,pa29,pb29⟩,pr29⟩:=q29
 have z29:=m29.1
 have sb29:s29.length ≤ 1:=iV (by decide) pr29
 refine aB (y_build rfl rfl)<|?_
 replace B1:=((((((((B1.mod m2 (by omega)).le lc3).le lb4).mod m6 (by omega)).mod lp7 (by omega)).mod m10 (by omega)).mod m26 (by omega)).le lb27).mod m29 (by omega)
 refine bO (aK aP B1) (fun v30 h30 q30=>?_)
 obtain ⟨rfl,q30⟩:=q30
 have z30:=q30.1
 replace B1:=q30.2.2
 refine aD ?_
 refine aF (ah1 6) fun r=>?_
 refine hw_rr ?_
 refine aQ rfl (.cons (bT B1) .nil) ?_
 replace le:=((((((((((le.tl lb1).t m2).tl lc3).tl lb4).t m6).t lp7).t m10).t m26).tl lb27).t m29).s q30
 replace kr:=kr.setO q30 (ir hO1) (by omega)
 exact ⟨⟨_,_⟩,by first | rfl | (simp_all [oneOf] <;> omega),⟨le,_,RD.weakO kr (fun x hx=>(il hO1 hx)) mbr,by omega,by omega⟩,⟨by dsimp only; first | omega | decide,by dsimp only; first | omega | decide | (exact Nat.le_trans (dW _) (by decide)) | (rw [List.length_append,List.length_append]; exact Nat.le_trans (Nat.add_le_add (Nat.add_le_add snm (Nat.le_refl 1)) (dW _)) (by decide)) | (simp; omega)⟩⟩
 refine aM ?_
 refine hw_sr (aB (y_build rfl rfl)<|?_)
 replace B1:=((((((B1.mod m2 (by omega)).le lc3).le lb4).mod m6 (by omega)).mod lp7 (by omega)).mod m10 (by omega)).mod m26 (by omega)
 refine bO (aK aP B1) (fun v31 h31 q31=>?_)
 obtain ⟨rfl,q31⟩:=q31
 have z31:=q31.1
 replace B1:=q31.2.2
 refine aD ?_
 refine hw_rr ?_
 refine aQ rfl (.cons (bT B1) .nil) ?_
 replace le:=((((((((le.tl lb1).t m2).tl lc3).tl lb4).t m6).t lp7).t m10).t m26).s q31
 replace kr:=kr.setO q31 (ir hO1) (by omega)
 exact ⟨⟨_,_⟩,by first | rfl | (simp_all [oneOf] <;> omega),⟨le,_,RD.weakO kr (fun x hx=>(il hO1 hx)) mbr,by omega,by omega⟩,⟨by dsimp only; first | omega | decide,by dsimp only; first | omega | decide | (exact Nat.le_trans (dW _) (by decide)) | (rw [List.length_append,List.length_append]; exact Nat.le_trans (Nat.add_le_add (Nat.add_le_add snm (Nat.le_refl 1)) (dW _)) (by decide)) | (simp; omega)⟩⟩
end
section
open Go.Conc
theorem zL (x:Named) (l:List Named):∀ p,∀ y ∈ (l.foldl (gV x) p).1,y ∈ p.1 ∨ y = x ∨ y ∈ l:=by
  induction l with
  | nil=>intro p y hy; exact .inl hy
  | cons z l ih =>
    intro p y hy
    rw [List.foldl_cons] at hy
    rcases ih _ y hy with h | h | h
    · have h2:y ∈ p.1 ∨ y = x ∨ y = z:=by
        unfold gV at h
        dsimp only at h
        split at h <;> split at h <;> (try simp only [List.mem_append,List.mem_singleton] at h) <;> first
          | exact .inl h
          | (rcases h with h | h; exact .inl h; exact .inr (.inl h))
          | (rcases h with h | h; exact .inl h; exact .inr (.inr h))
          | (rcases h with (h | h) | h; exact .inl h; exact .inr (.inl h); exact .inr (.inr h))
      rcases h2 with h2 | h2 | h2
      · exact .inl h2
      · exact .inr (.inl h2)
      · exact .inr (.inr (h2 ▸ List.mem_cons_self))
    · exact .inr (.inl h)
    · exact .inr (.inr (List.mem_cons_of_mem _ h))
theorem aAY {l:List Named} {x:Named} (h:NB l) (hx:x.name.length ≤ 1):NB (kS l x):=by
  intro y hy
  have hm:=zL x l ([],false)
  unfold kS at hy
  dsimp only at hy
  split at hy
  · rcases hm y hy with h1 | rfl | h1
    · cases h1
    · exact hx
    · exact h y h1
  · rcases List.mem_append.1 hy with hy | hy
    · rcases hm y hy with h1 | rfl | h1
      · cases h1
      · exact hx
      · exact h y h1
    · obtain rfl:=List.mem_singleton.1 hy
      exact hx
theorem tC {t:cS} {s:Str} (h:NB t.names):NB (cR t s).1.names:=by
  unfold cR
  split
  · split
    · exact h
    · split
      · exact aAY h (by simp; omega)
      · exact h
  · exact h
theorem vX {v:cD} {t:cS} {l:Letter} (h:NB t.names):NB (eO v t l).2.1.names:=by
  unfold eO
  repeat' split
  all_goals first | exact h | exact tC h | exact (fun _ hx=>nomatch hx)
theorem talkLetter_nb {v:cD} {t:cS} {l:Letter} (h:NB t.names):NB (bJ v t l).2.1.names:=by
  unfold bJ
  split
  · exact h
  split
  · exact vX h
  · exact vX h
theorem tA {v:cD} {w:kU} (h:VB v):VB (workEnd v w).1:=by
  unfold workEnd
  repeat' split
  all_goals first | exact h | exact kX h | exact ⟨by decide,by decide,by decide⟩
theorem yX {v:cD} {s:iX} {a:Ask} (h:VB v):VB (dR v s a).1:=by
  unfold dR
  repeat' split
  all_goals first | exact h | exact tA h
theorem yY {v:cD} {s:iX} {k:Int} (h:VB v):VB (seatEnds v s k).1:=by
  unfold seatEnds
  repeat' split
  all_goals first | exact h | exact tA h
theorem aDv {v:cD} {s:iX} {a:Ask} (h:VB v):VB (eF v s a).1:=by
  unfold eF oJ
  repeat' split
  all_goals first | exact h | exact yY h | exact yX h
theorem vW {v:cD} {t:cS} {l:Letter} (h:VB v):VB (eO v t l).1:=by
  unfold eO
  repeat' split
  all_goals first | exact h | exact aDv h
theorem uZ {v:cD} {t:cS} {l:Letter} (h:VB v):VB (bJ v t l).1:=by
  unfold bJ
  split
  · exact h
  split
  · exact vW h
  · exact vW h
theorem tE (list:List Letter):∀ p:cD × cS × List Letter,(VB p.1 → VB (list.foldl iB p).1)∧(list.foldl iB p).2.1.inn.length ≤ p.2.1.inn.length∧((list.foldl iB p).2.1.names.length ≤ p.2.1.names.length ∨ (list.foldl iB p).2.1.names.length ≤ 3)∧(list.foldl iB p).2.2.length ≤ p.2.2.length + 12 * list.length:=by
  induction list with
  | nil=>intro p; exact ⟨fun h=>h,Nat.le_refl _,.inl (Nat.le_refl _),Nat.le_refl _⟩
  | cons l list ih =>
    intro p
    have hb:=jX p.1 p.2.1 l
    obtain ⟨h1,h2,h3,h4⟩:=ih (iB p l)
    rw [List.foldl_cons]
    simp only [iB,List.length_append,List.length_cons] at *
    exact ⟨fun h=>h1 (uZ h),by omega,by omega,by omega⟩
theorem memB {m:List Letter} {l:Letter} (h:∀ x ∈ m,x.body.length ≤ 2000) (hl:l.body.length ≤ 2000):∀ x ∈ m ++ [l],x.body.length ≤ 2000:=by
  intro x hx
  rcases List.mem_append.1 hx with hx | hx
  · exact h x hx
  · obtain rfl:=List.mem_singleton.1 hx; exact hl
set_option maxHeartbeats 1000000 in
theorem eK {w0:World} {h:Heap} {O:Nat → Prop} {br:Nat} {p:Int} {v:cD} {k1v:Value} {t:cS} {k2v:Value} {k3v:Value} {n:Int} (kr:RD h O br p) (k1:Rs h O k1v v.list) (k2:Rs h O k2v t.seat.work.writes) (k3:Rs h O k3v t.names) (OB0:OB h O) (hp:p + 200 ≤ 1000000000:=by omega) (s1:SB t.inn:=by first | assumption | omega | (simp; done) | (simp; omega)) (hn:n ≤ 8:=by first | assumption | omega) (hN:NB t.names:=by first | assumption | exact (fun _ hx=>nomatch hx)) (hM:t.names.length ≤ 3:=by first | omega | decide | (dsimp only; omega)):HC (XM PP) w0 30 [.pointer (some ⟨br,0,none⟩),.agg #[vi v.now,k1v],.agg #[vb t.seat.on,vb t.seat.bad,vi t.seat.work.at',k2v,k3v,vb t.skip,vb t.gone,vs t.inn],vi n].toArray h (fun rv h'=>∃ (ol:List Letter) ,pD O br p 200 h h' ∧ Rs h' O rv ol∧(ol.length ≤ 8∧∀ x ∈ ol,x.body.length ≤ 2000)):=by
 obtain ⟨Ak1,nk1,ck1,rfl⟩:=k1.frm
 obtain ⟨Ak2,nk2,ck2,rfl⟩:=k2.frm
 obtain ⟨Ak3,nk3,ck3,rfl⟩:=k3.frm
 replace le:=Mod.refl (S:=(· = br)) h
 have brl:=kr.lt
 have mbr:=kr.mem
 have OBe:=OB0
 refine aV 43 [(0,.pointer (some ⟨br,0,none⟩)),(1,.agg #[vi v.now,(.slice Ak1 nk1 ck1)]),(2,.agg #[vb t.seat.on,vb t.seat.bad,vi t.seat.work.at',(.slice Ak2 nk2 ck2),(.slice Ak3 nk3 ck3),vb t.skip,vb t.gone,vs t.inn]),(3,vi n)] Tryz.func30 (fun r=>?_)
 refine hw_sr (bE cW (fun v1 h1 q1=>?_))
 obtain ⟨b1,O1,rfl,eb1,sb1,lb1,B1,hO1⟩:=q1.ox O
 refine bE cW (fun v2 h2 q2=>?_)
 obtain ⟨b2,O2,rfl,eb2,sb2,lb2,B2,hO2⟩:=q2.ox O1
 refine aB aC<|aD ?_
 refine aF (ah4 0 3 5 6) fun r=>?_
 refine hw_sr (?_)
 refine bE (bA (l:=([]:List Letter))) (fun v3 h3 q3=>?_)
 obtain ⟨lb3,ow3,sb3⟩:=q3
 have z3:=lb3.1
 obtain ⟨O3,hO3⟩:=mkO (fun x=>O2 x ∨ vblk v3 x)
 replace o3:Ow _ _ _ _ _:=⟨ow3,OkL.nil⟩
 obtain ⟨A4,n4,c4,rfl⟩:=o3.frm
 refine aB aC<|aD ?_
 refine aI ?_
 refine hw_sr (aB aC<|aD ?_)
 replace kr:=((kr.newB lb1 hO1 eb1).newB lb2 hO2 eb2).newS lb3 hO3 (fun x hv=>(ow3.vb hv).1)
 replace le:=((le.tl lb1).tl lb2).tl lb3
 replace B1:=(B1.le lb2).le lb3
 replace OB0:=((OB0.newB sb1 hO1 eb1).newB sb2 hO2 eb2).newS lb3.1 hO3 (fun x hv=>(ow3.vb hv).2)
 replace B2:=B2.le lb3
 replace k1:=((k1.nb lb1 hO1 eb1).nb lb2 hO2 eb2).ns lb3 hO3 (fun x hv=>(ow3.vb hv).1)
 replace k2:=((k2.nb lb1 hO1 eb1).nb lb2 hO2 eb2).ns lb3 hO3 (fun x hv=>(ow3.vb hv).1)
 replace k3:=((k3.nb lb1 hO1 eb1).nb lb2 hO2 eb2).ns lb3 hO3 (fun x hv=>(ow3.vb hv).1)
 refine cT (fun (gx:Nat × Int × (List Ver) × Bool × Bool × Int × (List Write) × (List Named) × Bool × Bool × Str × (List Letter) × (Nat → Prop) × Value × Int × Value × Value × Value)=>match gx with | (k,nw,vl,on,bad,at0,wl,nl,sk,gn,inn,m,OL5,ov,p5,sv,sw,sn)=>[(0,.pointer (some ⟨br,0,none⟩)),(3,vi n),(5,.pointer (some ⟨b1,0,none⟩)),(6,.pointer (some ⟨b2,0,none⟩)),(9,ov),(10,vi (k:Int))]) (fun (gx:Nat × Int × (List Ver) × Bool × Bool × Int × (List Write) × (List Named) × Bool × Bool × Str × (List Letter) × (Nat → Prop) × Value × Int × Value × Value × Value) (h' : Heap)=>match gx with | (k,nw,vl,on,bad,at0,wl,nl,sk,gn,inn,m,OL5,ov,p5,sv,sw,sn)=>Mod (· = br) h h' ∧ Mod O3 h3 h' ∧ (∀ x,OL5 x → O3 x ∨ h3.size ≤ x)∧(∀ x,O3 x → OL5 x)∧OB h' OL5∧Blk h' b1 [vi nw,sv] 52∧OL5 b1∧Blk h' b2 [vb on,vb bad,vi at0,sw,sn,vb sk,vb gn,vs inn] 60∧OL5 b2∧Ow h' h.size ov m 28∧(∀ x,vblk ov x → OL5 x)∧RD h' OL5 br p5∧p ≤ p5∧p5 ≤ p + 20 * (k:Int)∧Rs h' OL5 sv vl∧Rs h' OL5 sw wl∧Rs h' OL5 sn nl∧k ≤ 8∧m.length ≤ 8∧(∀ x ∈ m,x.body.length ≤ 2000)) (aX (cK (fun (gx:Nat × Int × (List Ver) × Bool × Bool × Int × (List Write) × (List Named) × Bool × Bool × Str × (List Letter) × (Nat → Prop) × Value × Int × Value × Value × Value)=>match gx with | (k,nw,vl,on,bad,at0,wl,nl,sk,gn,inn,m,OL5,ov,p5,sv,sw,sn)=>[(0,.pointer (some ⟨br,0,none⟩)),(3,vi n),(5,.pointer (some ⟨b1,0,none⟩)),(6,.pointer (some ⟨b2,0,none⟩)),(9,ov),(10,vi (k:Int))]) (fun (gx:Nat × Int × (List Ver) × Bool × Bool × Int × (List Write) × (List Named) × Bool × Bool × Str × (List Letter) × (Nat → Prop) × Value × Int × Value × Value × Value) (h' : Heap)=>match gx with | (k,nw,vl,on,bad,at0,wl,nl,sk,gn,inn,m,OL5,ov,p5,sv,sw,sn)=>Mod (· = br) h h' ∧ Mod O3 h3 h' ∧ (∀ x,OL5 x → O3 x ∨ h3.size ≤ x)∧(∀ x,O3 x → OL5 x)∧OB h' OL5∧Blk h' b1 [vi nw,sv] 52∧OL5 b1∧Blk h' b2 [vb on,vb bad,vi at0,sw,sn,vb sk,vb gn,vs inn] 60∧OL5 b2∧Ow h' h.size ov m 28∧(∀ x,vblk ov x → OL5 x)∧RD h' OL5 br p5∧p ≤ p5∧p5 ≤ p + 20 * (k:Int)∧Rs h' OL5 sv vl∧Rs h' OL5 sw wl∧Rs h' OL5 sn nl∧k ≤ 8∧m.length ≤ k∧(∀ x ∈ m,x.body.length ≤ 2000)∧NB nl∧nl.length ≤ 3∧inn.length ≤ t.inn.length) (fun (gx:Nat × Int × (List Ver) × Bool × Bool × Int × (List Write) × (List Named) × Bool × Bool × Str × (List Letter) × (Nat → Prop) × Value × Int × Value × Value × Value)=>match gx with | (k,nw,vl,on,bad,at0,wl,nl,sk,gn,inn,m,OL5,ov,p5,sv,sw,sn)=>8 - k) (0,v.now,v.list,t.seat.on,t.seat.bad,t.seat.work.at',t.seat.work.writes,t.names,t.skip,t.gone,t.inn,[],O3,(.slice A4 n4 c4),p,(.slice Ak1 nk1 ck1),(.slice Ak2 nk2 ck2),(.slice Ak3 nk3 ck3)) ag6 ⟨le,Mod.refl _,fun x hx=>.inl hx,fun x hx=>hx,OB0,B1,(il hO3 (il hO2 (ir hO1))),B2,(il hO3 (ir hO2)),o3.wk (by omega),(fun x hv=>(hO3 x).2 (.inr hv)),kr,by omega,by omega,k1,k2,k3,by exact ⟨by omega,by simp,(fun _ hx=>nomatch hx),hN,by omega,Nat.le_refl _⟩⟩ ?_)) ?_
 rintro ⟨k,nw,vl,on,bad,at0,wl,nl,sk,gn,inn,m,OL5,ov,p5,sv,sw,sn⟩ r hl5 ⟨le,lp5,la5,lb5,lo5,B1,mB1,B2,mB2,o3,mo3,kr,pa5,pb5,ksv,ksw,ksn,e0,e1,e2,e3,e4,e5⟩
 obtain ⟨A6,n6,c6,rfl⟩:=o3.frm
 obtain ⟨A7,n7,c7,rfl⟩:=ksv.frm
 obtain ⟨A8,n8,c8,rfl⟩:=ksw.frm
 obtain ⟨A9,n9,c9,rfl⟩:=ksn.frm
 have zl5:=lp5.1
 replace lr5:=lp5
 replace lx5:=la5
 refine aI ?_
 refine hw_sr (aB y_move<|aB y_move<|aB dB<|aD ?_)
 refine aZ (fun g15=>?_) (fun g15=>?_)
 refine aM ?_
 refine aI ?_
 refine aX ?_
 replace OB0:=lo5
 refine dH (fun (gx:Letter × (Nat → Prop) × Nat × Int)=>match gx with | (jl13,OL12,b10,p12)=>[(0,.pointer (some ⟨br,0,none⟩)),(3,vi n),(5,.pointer (some ⟨b1,0,none⟩)),(6,.pointer (some ⟨b2,0,none⟩)),(9,(.slice A6 n6 c6)),(10,vi (k:Int)),(11,.pointer (some ⟨b10,0,none⟩))]) (fun (gx:Letter × (Nat → Prop) × Nat × Int) (h' : Heap)=>match gx with | (jl13,OL12,b10,p12)=>Mod (· = br) h h' ∧ Mod OL5 hl5 h' ∧ (∀ x,OL12 x → OL5 x ∨ hl5.size ≤ x)∧(∀ x,OL5 x → OL12 x)∧OB h' OL12∧Blk h' b1 [vi nw,(.slice A7 n7 c7)] 52∧OL12 b1∧Blk h' b2 [vb on,vb bad,vi at0,(.slice A8 n8 c8),(.slice A9 n9 c9),vb sk,vb gn,vs inn] 60∧OL12 b2∧Blk h' b10 [vs jl13.sign,vs jl13.body] 28∧OL12 b10∧hl5.size ≤ b10∧Ow h' h.size (.slice A6 n6 c6) m 28∧(∀ x,vblk (.slice A6 n6 c6) x → OL12 x)∧(¬ vblk (.slice A6 n6 c6) b10)∧RD h' OL12 br p12∧p5 ≤ p12∧p12 ≤ p5 + 20∧(LB jl13)) ?_ ?_
 replace lr12:=Mod.refl (S:=OL5) hl5
 replace lx12:∀ x,OL5 x → OL5 x ∨ hl5.size ≤ x:=fun x hx=>.inl hx
 have Rksn:=ksn
 have Rksv:=ksv
 have Rksw:=ksw
 obtain ⟨S13,hS13⟩:=mkO (fun b=>hl5.size ≤ b ∨ b = br)
 replace mR13:Mod S13 hl5 hl5:=Mod.refl _
 have hd13:∀ b,b < hl5.size∧¬ OL5 b → ¬ S13 b:=fun b hb hs=>(fun hs=>hs.elim (fun hs=>absurd hb.1 (Nat.not_lt.2 hs)) (fun hs=>hb.2 (hs ▸ (lb5 _ (il hO3 (il hO2 (il hO1 mbr))))))) ((hS13 b).1 hs)
 refine bH 10 S13 bC (ha2_p 0 rfl (fun _=>y_move)<|ha2_y 1 rfl (fun _ mm=>(y_loadB (Blk.mod B1 mm (fun hs=>by rcases (hS13 _).1 hs with hs | hs <;> first | omega)) 0 _))<|ha2_p 2 rfl (fun _=>y_fieldAddr)<|ha2_y 3 rfl (fun _ mm=>(y_load (Blk.at (Blk.mod B1 mm (fun hs=>by rcases (hS13 _).1 hs with hs | hs <;> first | omega)) rfl rfl)))<|ha2_p 5 rfl (fun _=>y_fieldAddr)<|ha2_y 6 rfl (fun _ mm=>(y_load (Blk.at (Blk.mod B2 mm (fun hs=>by rcases (hS13 _).1 hs with hs | hs <;> first | omega)) rfl rfl)))<|?_)
 refine dU 4 8 ?_ ?_
 refine cC rfl aG (nZ (v:=(⟨nw,vl⟩:cD)) ksv OB0) (fun v14 h14 q14=>?_)
 obtain ⟨lc14,k14_1⟩:=q14
 have z14:=lc14.1
 refine ⟨Le.mod lc14,?_⟩
 replace k14_1:=k14_1.end OB0
 obtain ⟨A15,n15,c15,rfl⟩:=k14_1.frm
 refine dU 7 8 ?_ ?_
 replace kr:=kr.leO lc14
 replace ksn:=ksn.le lc14
 replace OB0:=OB0.leO lc14.1
 refine cC rfl aG (tU kr k14_1 ksn OB0) (fun v16 h16 q16=>?_)
 clear kr
 obtain ⟨l16,rfl,⟨m16,p16,kr,pa16,pb16⟩,pr16⟩:=q16
 have z16:=m16.1
 have ms:=Mod.mono (S':=S13) m16 (fun x _ e=>(hS13 x).2 (by simp [e]))
 refine ⟨ms,?_⟩
 replace o3:=o3.le lc14
 refine aW 8 (cB rfl aY (fun v17 h17 q17=>?_))
 obtain ⟨b17,O17,rfl,eb17,sb17,lb17,B17,hO17⟩:=q17.ox OL5
 replace o3:=o3.md m16 (fun x hv e=>by have:=o3.vb hv; omega)
 replace sp_o3_B17:¬ vblk (.slice A6 n6 c6) b17:=fun hv=>by have:=o3.vb hv; omega
 refine ⟨Le.mod lb17,?_⟩
 replace lx5:=laB lx5 hO17 (by omega)
 replace lx12:=laB lx12 hO17 (by omega)
 refine cV 9 rfl (aK aP B17) (fun v18 h18 q18=>?_)
 obtain ⟨rfl,q18⟩:=q18
 have z18:=q18.1
 replace B17:=q18.2.2
 refine bD ?_
 replace B1:=(((B1.le lc14).mod m16 (by omega)).le lb17).s q18
 replace B2:=(((B2.le lc14).mod m16 (by omega)).le lb17).s q18
 replace le:=(((le.tl lc14).t m16).tl lb17).s q18
 replace lr5:=(((lr5.tl lc14).t (Mod.mono m16 (fun x _ e=>e ▸ (il hO3 (il hO2 (il hO1 mbr)))))).tl lb17).s q18
 replace lr12:=(((lr12.tl lc14).t (Mod.mono m16 (fun x _ e=>e ▸ (lb5 _ (il hO3 (il hO2 (il hO1 mbr))))))).tl lb17).s q18
 replace kr:=(kr.newB lb17 hO17 eb17).setO q18 (ir hO17) (by omega)
 replace o3:=(o3.le lb17).st q18 sp_o3_B17
 replace OB0:=((OB0.leO m16.1).newB sb17 hO17 eb17).leO (Nat.le_of_eq q18.1.symm)
 exact ⟨(l16,O17,b17,p16),ag7,⟨le,lr12,lx12,fun x hx=>(il hO17 hx),OB0,B1,(il hO17 mB1),B2,(il hO17 mB2),B17,(ir hO17),by omega,o3.wk (by omega),(fun x hv=>(hO17 x).2 (.inl (mo3 x hv))),sp_o3_B17,kr,by omega,by omega,pr16⟩⟩
 refine cB rfl aY (fun v19 h19 q19=>?_)
 obtain ⟨b19,O19,rfl,eb19,sb19,lb19,B19,hO19⟩:=q19.ox OL5
 replace o3:=o3.le lc14
 replace sp_o3_B19:¬ vblk (.slice A6 n6 c6) b19:=fun hv=>by have:=o3.vb hv; omega
 refine ⟨Le.mod lb19,?_⟩
 replace lx5:=laB lx5 hO19 (by omega)
 replace lx12:=laB lx12 hO19 (by omega)
 refine aW 7 (?_)
 replace kr:=(kr.leO lc14).newB lb19 hO19 eb19
 replace k14_1:=k14_1.nb lb19 hO19 eb19
 replace ksn:=(ksn.le lc14).nb lb19 hO19 eb19
 replace OB0:=(OB0.leO lc14.1).newB sb19 hO19 eb19
 refine cC rfl aG (tU kr k14_1 ksn OB0) (fun v20 h20 q20=>?_)
 clear kr
 obtain ⟨l20,rfl,⟨m20,p20,kr,pa20,pb20⟩,pr20⟩:=q20
 have z20:=m20.1
 have ms:=Mod.mono (S':=S13) m20 (fun x _ e=>(hS13 x).2 (by simp [e]))
 refine ⟨ms,?_⟩
 replace o3:=o3.le lb19
 replace B19:=B19.mod m20 (by omega)
 refine cV 9 rfl (aK aP B19) (fun v21 h21 q21=>?_)
 obtain ⟨rfl,q21⟩:=q21
 have z21:=q21.1
 replace B19:=q21.2.2
 refine bD ?_
 replace B1:=(((B1.le lc14).le lb19).mod m20 (by omega)).s q21
 replace B2:=(((B2.le lc14).le lb19).mod m20 (by omega)).s q21
 replace le:=(((le.tl lc14).tl lb19).t m20).s q21
 replace lr5:=(((lr5.tl lc14).tl lb19).t (Mod.mono m20 (fun x _ e=>e ▸ (il hO3 (il hO2 (il hO1 mbr)))))).s q21
 replace lr12:=(((lr12.tl lc14).tl lb19).t (Mod.mono m20 (fun x _ e=>e ▸ (lb5 _ (il hO3 (il hO2 (il hO1 mbr))))))).s q21
 replace o3:=(o3.md m20 (fun x hv e=>by have:=o3.vb hv; omega)).st q21 sp_o3_B19
 replace kr:=kr.setO q21 (ir hO19) (by omega)
 replace OB0:=OB0.leO (h':=h21) (by omega)
 exact ⟨(l20,O19,b19,p20),ag7,⟨le,lr12,lx12,fun x hx=>(il hO19 hx),OB0,B1,(il hO19 mB1),B2,(il hO19 mB2),B19,(ir hO19),by omega,o3.wk (by omega),(fun x hv=>(hO19 x).2 (.inl (mo3 x hv))),sp_o3_B19,kr,by omega,by omega,pr20⟩⟩
 refine cB rfl aY (fun v22 h22 q22=>?_)
 obtain ⟨b22,O22,rfl,eb22,sb22,lb22,B22,hO22⟩:=q22.ox OL5
 replace sp_o3_B22:¬ vblk (.slice A6 n6 c6) b22:=fun hv=>by have:=o3.vb hv; omega
 refine ⟨Le.mod lb22,?_⟩
 replace lx5:=laB lx5 hO22 (by omega)
 replace lx12:=laB lx12 hO22 (by omega)
 refine aW 4 (?_)
 replace ksv:=ksv.nb lb22 hO22 eb22
 replace OB0:=OB0.newB sb22 hO22 eb22
 refine cC rfl aG (nZ (v:=(⟨nw,vl⟩:cD)) ksv OB0) (fun v23 h23 q23=>?_)
 obtain ⟨lc23,k23_1⟩:=q23
 have z23:=lc23.1
 refine ⟨Le.mod lc23,?_⟩
 replace k23_1:=k23_1.end OB0
 obtain ⟨A24,n24,c24,rfl⟩:=k23_1.frm
 refine aW 7 (?_)
 replace kr:=(kr.newB lb22 hO22 eb22).leO lc23
 replace ksn:=(ksn.nb lb22 hO22 eb22).le lc23
 replace OB0:=OB0.leO lc23.1
 refine cC rfl aG (tU kr k23_1 ksn OB0) (fun v25 h25 q25=>?_)
 clear kr
 obtain ⟨l25,rfl,⟨m25,p25,kr,pa25,pb25⟩,pr25⟩:=q25
 have z25:=m25.1
 have ms:=Mod.mono (S':=S13) m25 (fun x _ e=>(hS13 x).2 (by simp [e]))
 refine ⟨ms,?_⟩
 replace o3:=(o3.le lb22).le lc23
 replace B22:=(B22.le lc23).mod m25 (by omega)
 refine cV 9 rfl (aK aP B22) (fun v26 h26 q26=>?_)
 obtain ⟨rfl,q26⟩:=q26
 have z26:=q26.1
 replace B22:=q26.2.2
 refine bD ?_
 replace B1:=(((B1.le lb22).le lc23).mod m25 (by omega)).s q26
 replace B2:=(((B2.le lb22).le lc23).mod m25 (by omega)).s q26
 replace le:=(((le.tl lb22).tl lc23).t m25).s q26
 replace lr5:=(((lr5.tl lb22).tl lc23).t (Mod.mono m25 (fun x _ e=>e ▸ (il hO3 (il hO2 (il hO1 mbr)))))).s q26
 replace lr12:=(((lr12.tl lb22).tl lc23).t (Mod.mono m25 (fun x _ e=>e ▸ (lb5 _ (il hO3 (il hO2 (il hO1 mbr))))))).s q26
 replace o3:=(o3.md m25 (fun x hv e=>by have:=o3.vb hv; omega)).st q26 sp_o3_B22
 replace kr:=kr.setO q26 (ir hO22) (by omega)
 replace OB0:=OB0.leO (h':=h26) (by omega)
 exact ⟨(l25,O22,b22,p25),ag7,⟨le,lr12,lx12,fun x hx=>(il hO22 hx),OB0,B1,(il hO22 mB1),B2,(il hO22 mB2),B22,(ir hO22),by omega,o3.wk (by omega),(fun x hv=>(hO22 x).2 (.inl (mo3 x hv))),sp_o3_B22,kr,by omega,by omega,pr25⟩⟩
 rintro ⟨jl13,OL12,b10,p12⟩ r hl12 ⟨le,lp12,la12,lb12,lo12,B1,mB1,B2,mB2,B10,mB10,nbl10,o3,mo3,sq_o3_B10,kr,pa12,pb12,jp11⟩
 have nbu10:=B10.lt
 have zl12:=lp12.1
 replace lr5:=lr5.trans2 lp12 lx5
 replace lx5:=laL lx5 la12 (by omega)
 refine hw_sr (aB y_move<|aB (y_loadB B10 0 _)<|?_)
 replace OB0:=lo12
 refine bE (bA (l:=([jl13]:List Letter))) (fun v27 h27 q27=>?_)
 obtain ⟨lb27,ow27,sb27⟩:=q27
 have z27:=lb27.1
 replace k27:Rs _ OL12 _ _:=Ow.end ⟨ow27,ok1⟩ OB0
 obtain ⟨A28,n28,c28,rfl⟩:=k27.frm
 replace o3:=o3.le lb27
 refine bE (bW aP o3.1 k27.1 (by omega) (Nat.add_le_add o3.2.len k27.2.len)) (fun v29 h29 q29=>?_)
 have L1:=o3.2.len
 have L2:=k27.2.len
 obtain ⟨O29,hO29,z29,ow29⟩:=q29.ow (OkL.app o3.2 k27.2 (by first | omega | (simp only [List.length_append,List.length_take,List.length_drop,List.length_cons,List.length_nil,List.length_set]; omega) | (simp; omega))) OL12
 have sq_o3_B10q:=fun hv=>(q29.2.2 _ hv).elim sq_o3_B10 (fun e=>by omega)
 replace B1:=B1.le lb27
 replace B2:=B2.le lb27
 replace B10:=(B10.le lb27).app q29 sq_o3_B10
 have sq_o3_B10:=sq_o3_B10q
 replace lr5:=(lr5.tl lb27).apO q29 (fun x hv=>lx5 x (mo3 x hv))
 replace lx5:=laA lx5 hO29 q29 mo3 (by omega)
 replace kr:=(kr.leO lb27).appO q29 mo3 hO29 (fun hv=>by have:=o3.vb hv; omega)
 replace le:=(le.tl lb27).ap o3 q29 (by omega)
 replace B1:=B1.app q29 (o3.1.ne B1 (by decide))
 replace B2:=B2.app q29 (o3.1.ne B2 (by decide))
 replace o3:=ow29
 obtain ⟨A30,n30,c30,rfl⟩:=o3.frm
 refine aB aC<|aD ?_
 refine aF (ah7 0 3 5 6 9 10 11) fun r=>?_
 refine hw_sr (aB (y_loadB B10 0 _)<|?_)
 replace OB0:=(OB0.leO lb27.1).app q29 hO29
 refine bL aG (nH (l:=jl13) OB0) (fun v31 h31 q31=>?_)
 obtain ⟨rfl,lc31⟩:=q31
 have z31:=lc31.1
 refine aD ?_
 refine bF (fun g31=>?_) (fun g31=>?_)
 replace ksn:=(((ksn.lp lp12 la12).le lb27).ap q29 mo3 hO29).le lc31
 have Rksn:=ksn
 replace ksv:=(((ksv.lp lp12 la12).le lb27).ap q29 mo3 hO29).le lc31
 have Rksv:=ksv
 replace ksw:=(((ksw.lp lp12 la12).le lb27).ap q29 mo3 hO29).le lc31
 have Rksw:=ksw
 obtain ⟨S32,hS32⟩:=mkO (fun b=>h31.size ≤ b)
 replace mR32:Mod S32 h31 h31:=Mod.refl _
 have hd32:∀ b,b < h31.size∧¬ O29 b → ¬ S32 b:=fun b hb hs=>(fun hs=>absurd hb.1 (Nat.not_lt.2 hs)) ((hS32 b).1 hs)
 replace B1:=B1.le lc31
 replace B2:=B2.le lc31
 replace B10:=B10.le lc31
 refine bH 12 S32 bC (ha2_y 0 rfl (fun _ mm=>(y_loadB (Blk.mod B1 mm (fun hs=>by rcases (hS32 _).1 hs with hs <;> first | omega)) 0 _))<|ha2_y 2 rfl (fun _ mm=>(y_loadB (Blk.mod B2 mm (fun hs=>by rcases (hS32 _).1 hs with hs <;> first | omega)) 0 _))<|ha2_y 4 rfl (fun _ mm=>(y_loadB (Blk.mod B10 mm (fun hs=>by rcases (hS32 _).1 hs with hs <;> first | omega)) 0 _))<|?_)
 replace OB0:=OB0.leO lc31.1
 refine aW 1 (cC rfl aG (lA (v:=(⟨nw,vl⟩:cD)) ksv OB0) (fun v33 h33 q33=>?_))
 obtain ⟨s33_1,rfl,lc33,k33_1⟩:=q33
 have z33:=lc33.1
 refine ⟨Le.mod lc33,?_⟩
 replace k33_1:=k33_1.end OB0
 obtain ⟨A34,n34,c34,rfl⟩:=k33_1.frm
 refine aW 3 (?_)
 replace ksw:=ksw.le lc33
 replace ksn:=ksn.le lc33
 replace OB0:=OB0.leO lc33.1
 refine cC rfl aG (zQ (t:=(⟨⟨on,bad,⟨at0,wl⟩⟩,nl,sk,gn,inn⟩:cS)) ksw ksn OB0) (fun v35 h35 q35=>?_)
 obtain ⟨s35_1,s35_2,rfl,lc35,k35_1,k35_2⟩:=q35
 have z35:=lc35.1
 refine ⟨Le.mod lc35,?_⟩
 obtain ⟨A36,n36,c36,rfl⟩:=k35_1.frm
 obtain ⟨A37,n37,c37,rfl⟩:=k35_2.frm
 refine aW 5 (?_)
 replace k33_1:=k33_1.le lc35
 replace OB0:=OB0.leO lc35.1
 refine cC rfl aG (tT (v:=(⟨nw,vl⟩:cD)) (t:=(⟨⟨on,bad,⟨at0,wl⟩⟩,nl,sk,gn,inn⟩:cS)) (l:=jl13) k33_1 k35_1 k35_2 OB0) (fun v38 h38 q38=>?_)
 obtain ⟨s38_1,s38_2,s38_3,s38_4,rfl,lc38,k38_1,k38_2,k38_3,k38_4⟩:=q38
 have z38:=lc38.1
 refine ⟨Le.mod lc38,?_⟩
 obtain ⟨A39,n39,c39,rfl⟩:=k38_1.frm
 obtain ⟨A40,n40,c40,rfl⟩:=k38_2.frm
 obtain ⟨A41,n41,c41,rfl⟩:=k38_3.frm
 obtain ⟨A42,n42,c42,rfl⟩:=k38_4.frm
 replace B1:=((B1.le lc33).le lc35).le lc38
 refine bG 6 rfl (fun _=>y_move)<|bG 7 rfl (fun _=>aL)<|bG 8 rfl (fun _=>aL)<|bG 9 rfl (fun _=>aL)<|cV 10 rfl (aK aP B1) (fun v43 h43 q43=>?_)
 obtain ⟨rfl,q43⟩:=q43
 have z43:=q43.1
 replace o3:=(((o3.le lc31).le lc33).le lc35).le lc38
 replace o3:=o3.st q43 (o3.1.ne B1 (by decide))
 replace B1:=q43.2.2
 replace B2:=(((B2.le lc33).le lc35).le lc38).s q43
 refine cV 11 rfl (aK aP B2) (fun v44 h44 q44=>?_)
 replace lr5:=((((lr5.tl lc31).tl lc33).tl lc35).tl lc38).stO q43 (il hO3 (il hO2 (ir hO1)))
 obtain ⟨rfl,q44⟩:=q44
 have z44:=q44.1
 replace o3:=o3.st q44 (o3.1.ne B2 (by decide))
 replace B2:=q44.2.2
 refine bD ?_
 refine aF (ah6 0 3 5 6 9 10) fun r=>?_
 refine aE (aB y_move<|aB bI<|aB aC<|aD ?_)
 replace kr:=(((((kr.leO lc31).leO lc33).leO lc35).leO lc38).setO q43 (il hO29 mB1) (by omega)).setO q44 (il hO29 mB2) (by omega)
 replace le:=(((((le.tl lc31).tl lc33).tl lc35).tl lc38).s q43).s q44
 replace B1:=B1.s q44
 replace lr5:=lr5.stO q44 (il hO3 (ir hO2))
 replace k38_1:=(k38_1.st q43 (il hO29 mB1)).st q44 (il hO29 mB2)
 replace k38_2:=(k38_2.st q43 (il hO29 mB1)).st q44 (il hO29 mB2)
 replace k38_3:=(k38_3.st q43 (il hO29 mB1)).st q44 (il hO29 mB2)
 replace OB0:=OB0.leO (h':=h44) (by omega)
 exact ⟨(k + 1,((bJ (⟨nw,vl⟩:cD) (⟨⟨on,bad,⟨at0,wl⟩⟩,nl,sk,gn,inn⟩:cS) jl13).1).now,((bJ (⟨nw,vl⟩:cD) (⟨⟨on,bad,⟨at0,wl⟩⟩,nl,sk,gn,inn⟩:cS) jl13).1).list,((bJ (⟨nw,vl⟩:cD) (⟨⟨on,bad,⟨at0,wl⟩⟩,nl,sk,gn,inn⟩:cS) jl13).2.1).seat.on,((bJ (⟨nw,vl⟩:cD) (⟨⟨on,bad,⟨at0,wl⟩⟩,nl,sk,gn,inn⟩:cS) jl13).2.1).seat.bad,((bJ (⟨nw,vl⟩:cD) (⟨⟨on,bad,⟨at0,wl⟩⟩,nl,sk,gn,inn⟩:cS) jl13).2.1).seat.work.at',((bJ (⟨nw,vl⟩:cD) (⟨⟨on,bad,⟨at0,wl⟩⟩,nl,sk,gn,inn⟩:cS) jl13).2.1).seat.work.writes,((bJ (⟨nw,vl⟩:cD) (⟨⟨on,bad,⟨at0,wl⟩⟩,nl,sk,gn,inn⟩:cS) jl13).2.1).names,((bJ (⟨nw,vl⟩:cD) (⟨⟨on,bad,⟨at0,wl⟩⟩,nl,sk,gn,inn⟩:cS) jl13).2.1).skip,((bJ (⟨nw,vl⟩:cD) (⟨⟨on,bad,⟨at0,wl⟩⟩,nl,sk,gn,inn⟩:cS) jl13).2.1).gone,((bJ (⟨nw,vl⟩:cD) (⟨⟨on,bad,⟨at0,wl⟩⟩,nl,sk,gn,inn⟩:cS) jl13).2.1).inn,(m ++ ([jl13]:List Letter)),O29,(.slice A30 n30 c30),p12,(.slice A39 n39 c39),(.slice A40 n40 c40),(.slice A41 n41 c41)),ag6,⟨le,lr5,lx5,fun x hx=>(il hO29 (lb12 _ (lb5 _ hx))),OB0,B1,(il hO29 mB1),B2,(il hO29 mB2),o3.wk (by omega),(fun x hv=>(hO29 x).2 (.inr hv)),kr,by omega,by omega,k38_1.cast (by first | rfl | simp_all),k38_2.cast (by first | rfl | simp_all),k38_3.cast (by first | rfl | simp_all),by exact ⟨by omega,by rw [List.length_append,List.length_singleton]; omega,memB e2 (by (try dsimp only); omega),talkLetter_nb (t:=(⟨⟨on,bad,⟨at0,wl⟩⟩,nl,sk,gn,inn⟩:cS)) e3,by have:=(jX (⟨nw,vl⟩:cD) (⟨⟨on,bad,⟨at0,wl⟩⟩,nl,sk,gn,inn⟩:cS) jl13).2.2; dsimp only at this ⊢; omega,by have:=(jX (⟨nw,vl⟩:cD) (⟨⟨on,bad,⟨at0,wl⟩⟩,nl,sk,gn,inn⟩:cS) jl13).2.1; dsimp only at this ⊢; omega⟩⟩,by first | omega | (dsimp only; omega)⟩
 refine aM ?_
 refine aE (aB y_move<|aB bI<|aB aC<|aD ?_)
 replace kr:=kr.leO lc31
 replace B1:=B1.le lc31
 replace B2:=B2.le lc31
 replace o3:=o3.le lc31
 replace le:=le.tl lc31
 replace lr5:=lr5.tl lc31
 replace ksv:=(((ksv.lp lp12 la12).le lb27).ap q29 mo3 hO29).le lc31
 replace ksw:=(((ksw.lp lp12 la12).le lb27).ap q29 mo3 hO29).le lc31
 replace ksn:=(((ksn.lp lp12 la12).le lb27).ap q29 mo3 hO29).le lc31
 replace OB0:=OB0.leO lc31.1
 exact ⟨(k + 1,nw,vl,on,bad,at0,wl,nl,sk,gn,inn,(m ++ ([jl13]:List Letter)),O29,(.slice A30 n30 c30),p12,(.slice A7 n7 c7),(.slice A8 n8 c8),(.slice A9 n9 c9)),ag6,⟨le,lr5,lx5,fun x hx=>(il hO29 (lb12 _ (lb5 _ hx))),OB0,B1,(il hO29 mB1),B2,(il hO29 mB2),o3.wk (by omega),(fun x hv=>(hO29 x).2 (.inr hv)),kr,by omega,by omega,ksv.cast (by first | rfl | simp_all),ksw.cast (by first | rfl | simp_all),ksn.cast (by first | rfl | simp_all),by exact ⟨by omega,by rw [List.length_append,List.length_singleton]; omega,memB e2 (by (try dsimp only); omega),e3,e4,e5⟩⟩,by first | omega | (dsimp only; omega)⟩
 refine cI ?_
 replace OB0:=lo5
 exact ⟨(k,nw,vl,on,bad,at0,wl,nl,sk,gn,inn,m,OL5,(.slice A6 n6 c6),p5,(.slice A7 n7 c7),(.slice A8 n8 c8),(.slice A9 n9 c9)),ag6,⟨le,lr5,lx5,fun x hx=>(lb5 _ hx),OB0,B1,mB1,B2,mB2,o3.wk (by omega),mo3,kr,by omega,by omega,ksv.cast (by first | rfl | simp_all),ksw.cast (by first | rfl | simp_all),ksn.cast (by first | rfl | simp_all),by exact ⟨by omega,by omega,e2⟩⟩⟩
 rintro ⟨k,nw,vl,on,bad,at0,wl,nl,sk,gn,inn,m,OL5,ov,p5,sv,sw,sn⟩ r hl5 ⟨le,lp5,la5,lb5,lo5,B1,mB1,B2,mB2,o3,mo3,kr,pa5,pb5,ksv,ksw,ksn,e0,e1,e2⟩
 obtain ⟨A45,n45,c45,rfl⟩:=o3.frm
 obtain ⟨A46,n46,c46,rfl⟩:=ksv.frm
 obtain ⟨A47,n47,c47,rfl⟩:=ksw.frm
 obtain ⟨A48,n48,c48,rfl⟩:=ksn.frm
 have zl5:=lp5.1
 refine hw_sr (aB y_move<|aB aC<|aD ?_)
 refine hw_rr ?_
 refine aQ rfl (.cons aU .nil) ?_
 exact ⟨_,⟨le,_,RD.weakO kr (fun x hx=>(lb5 _ (il hO3 (il hO2 (il hO1 hx))))) mbr,by omega,by omega⟩,(o3.fin OBe (by omega)).cast (by first | rfl | (simp_all [oneOf] <;> omega)),⟨by omega,e2⟩⟩
end
end Go.Proofs.YtlpdccnjhpclbaaGreatDoor
