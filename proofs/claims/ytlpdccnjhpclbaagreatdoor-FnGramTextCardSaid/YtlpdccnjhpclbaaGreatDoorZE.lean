/-
  Part 5 of the walks: the judgement, its rules, the functions one by one.
-/
import Derived.Test.YtlpdccnjhpclbaaGreatDoorZD
import Derived.Lib.UnsafeStr
import Derived.LaidEql
namespace Go.Proofs.YtlpdccnjhpclbaaGreatDoor
section
open Go.Conc
theorem aAN (list:List Letter):∀ p:cD × cS × List Letter,NB p.2.1.names → NB (list.foldl iB p).2.1.names:=by
  induction list with
  | nil=>intro p h; exact h
  | cons l list ih=>intro p h; rw [List.foldl_cons]; exact ih _ (talkLetter_nb h)
theorem fZ {v:cD} {t:cS} {l:List Letter} (h:l.length ≤ 8):(cJ v t l).2.2.length ≤ 100:=by
  have:=(tE l (v,t,[])).2.2.2
  simp only [List.length_nil] at this
  unfold cJ; omega
set_option maxHeartbeats 1000000 in
theorem aCW {w0:World} {h:Heap} {O:Nat → Prop} {br:Nat} {p:Int} (kr:RD h O br p) (OB0:OB h O) (hp:p + 1500 ≤ 1000000000:=by omega):HC (XM PP) w0 28 [.pointer (some ⟨br,0,none⟩)].toArray h (fun rv h'=>∃ (v:cD) (t:cS) (s1 s2 s3:Value),rv = .tuple #[.agg #[vi v.now,s1],.agg #[vb t.seat.on,vb t.seat.bad,vi t.seat.work.at',s2,s3,vb t.skip,vb t.gone,vs t.inn]]∧pD O br p 1500 h h' ∧ Rs h' O s1 v.list∧Rs h' O s2 t.seat.work.writes∧Rs h' O s3 t.names∧(VB v∧NB t.names∧t.names.length ≤ 3∧SB t.inn)):=by
 replace le:=Mod.refl (S:=(· = br)) h
 have brl:=kr.lt
 have mbr:=kr.mem
 have OBe:=OB0
 refine aV 57 [(0,.pointer (some ⟨br,0,none⟩))] Tryz.func28 (fun r=>?_)
 refine hw_sr (bE aY (fun v1 h1 q1=>?_))
 obtain ⟨b1,O1,rfl,eb1,sb1,lb1,B1,hO1⟩:=q1.ox O
 refine bE aY (fun v2 h2 q2=>?_)
 obtain ⟨b2,O2,rfl,eb2,sb2,lb2,B2,hO2⟩:=q2.ox O1
 refine aD ?_
 refine hw_sr (aB y_move<|?_)
 replace kr:=(kr.newB lb1 hO1 eb1).newB lb2 hO2 eb2
 replace OB0:=(OB0.newB sb1 hO1 eb1).newB sb2 hO2 eb2
 refine bL aG (aC5 kr OB0) (fun v3 h3 q3=>?_)
 clear kr
 obtain ⟨v3,s3_1,rfl,⟨m3,p3,kr,pa3,pb3⟩,k3_1,pr3⟩:=q3
 have z3:=m3.1
 obtain ⟨A4,n4,c4,rfl⟩:=k3_1.frm
 refine bE aY (fun v5 h5 q5=>?_)
 obtain ⟨b5,O5,rfl,eb5,sb5,lb5,B5,hO5⟩:=q5.ox O2
 refine bO (aK aP B5) (fun v6 h6 q6=>?_)
 obtain ⟨rfl,q6⟩:=q6
 have z6:=q6.1
 replace B5:=q6.2.2
 refine aD ?_
 refine hw_sr (aB (y_build rfl rfl)<|bE aY (fun v7 h7 q7=>?_))
 replace kr:=(kr.newB lb5 hO5 eb5).setO q6 (ir hO5) (by omega)
 obtain ⟨b7,O7,rfl,eb7,sb7,lb7,B7,hO7⟩:=q7.ox O5
 refine bO (aK aP B7) (fun v8 h8 q8=>?_)
 obtain ⟨rfl,q8⟩:=q8
 have z8:=q8.1
 replace B7:=q8.2.2
 refine aD ?_
 refine aI ?_
 replace k3_1:=(((k3_1.nb lb5 hO5 eb5).st q6 (ir hO5)).nb lb7 hO7 eb7).st q8 (ir hO7)
 have Rk3_1:=k3_1
 obtain ⟨S9,hS9⟩:=mkO (fun b=>h8.size ≤ b ∨ b = br)
 replace mR9:Mod S9 h8 h8:=Mod.refl _
 have hd9:∀ b,b < h8.size∧¬ O7 b → ¬ S9 b:=fun b hb hs=>(fun hs=>hs.elim (fun hs=>absurd hb.1 (Nat.not_lt.2 hs)) (fun hs=>hb.2 (hs ▸ (il hO7 (il hO5 (il hO2 (il hO1 mbr))))))) ((hS9 b).1 hs)
 replace kr:=(kr.newB lb7 hO7 eb7).setO q8 (ir hO7) (by omega)
 replace B5:=(B5.le lb7).s q8
 refine bH 16 S9 bC (ha2_y 0 rfl (fun _ mm=>(y_loadB (Blk.mod B5 mm (fun hs=>by rcases (hS9 _).1 hs with hs | hs <;> first | omega)) 0 _))<|ha2_y 1 rfl (fun _ mm=>(y_loadB (Blk.mod B7 mm (fun hs=>by rcases (hS9 _).1 hs with hs | hs <;> first | omega)) 0 _))<|ha2_p 2 rfl (fun _=>y_move)<|ha2_y 3 rfl (fun _ mm=>(y_loadB (Blk.mod B5 mm (fun hs=>by rcases (hS9 _).1 hs with hs | hs <;> first | omega)) 0 _))<|ha2_y 4 rfl (fun _ mm=>(y_loadB (Blk.mod B7 mm (fun hs=>by rcases (hS9 _).1 hs with hs | hs <;> first | omega)) 0 _))<|ha2_p 5 rfl (fun _=>y_move)<|?_)
 refine aW 6 (cB rfl (bA (l:=([3,5,2,0,8]:List Int))) (fun v10 h10 q10=>?_))
 obtain ⟨lb10,ow10,sb10⟩:=q10
 have z10:=lb10.1
 refine ⟨Le.mod lb10,?_⟩
 replace OB0:=((((OB0.leO m3.1).newB sb5 hO5 eb5).leO (Nat.le_of_eq q6.1.symm)).newB sb7 hO7 eb7).leO (Nat.le_of_eq q8.1.symm)
 replace k10:Rs _ O7 _ _:=Ow.end ⟨ow10,⟨by simp,by simp [Ok.ok]⟩⟩ OB0
 obtain ⟨A11,n11,c11,rfl⟩:=k10.frm
 refine aW 7 (?_)
 replace kr:=kr.leO lb10
 replace OB0:=OB0.leO lb10.1
 refine cC rfl aG (jH kr k10 OB0) (fun v12 h12 q12=>?_)
 clear kr
 obtain ⟨n12,rfl,⟨m12,p12,kr,pa12,pb12⟩,pr12⟩:=q12
 have z12:=m12.1
 have ms:=Mod.mono (S':=S9) m12 (fun x _ e=>(hS9 x).2 (by simp [e]))
 refine ⟨ms,?_⟩
 have ib12:0 ≤ n12∧n12 ≤ 8:=jM (by decide) pr12
 refine aW 8 (?_)
 replace k3_1:=(k3_1.le lb10).md m12 (fun _ e=>e ▸ (il hO7 (il hO5 (il hO2 (il hO1 mbr)))))
 replace OB0:=OB0.leO m12.1
 refine cC rfl aG (eK (v:=v3) (t:=(⟨⟨false,false,⟨0,[]⟩⟩,[],false,false,[]⟩:cS)) kr k3_1 Rs.nil Rs.nil OB0) (fun v13 h13 q13=>?_)
 clear kr
 obtain ⟨ol13,⟨m13,p13,kr,pa13,pb13⟩,k13_1,pr13⟩:=q13
 have z13:=m13.1
 replace mR9:=(mR9.tl lb10).t ms
 have ms:=Mod.mono (S':=S9) m13 (fun x _ e=>(hS9 x).2 (by simp [e]))
 refine ⟨ms,?_⟩
 obtain ⟨A14,n14,c14,rfl⟩:=k13_1.frm
 have hb_pr13:=fun x hx=>Nat.le_trans (pr13.2 x hx) (by decide:2000 ≤ 1000000)
 refine aW 9 (?_)
 replace k3_1:=k3_1.md m13 (fun _ e=>e ▸ (il hO7 (il hO5 (il hO2 (il hO1 mbr)))))
 replace OB0:=OB0.leO m13.1
 refine cC rfl aG (dM (v:=v3) (t:=(⟨⟨false,false,⟨0,[]⟩⟩,[],false,false,[]⟩:cS)) k3_1 Rs.nil Rs.nil k13_1 OB0) (fun v15 h15 q15=>?_)
 obtain ⟨s15_1,s15_2,s15_3,s15_4,rfl,lc15,k15_1,k15_2,k15_3,k15_4⟩:=q15
 have z15:=lc15.1
 refine ⟨Le.mod lc15,?_⟩
 obtain ⟨A16,n16,c16,rfl⟩:=k15_1.frm
 obtain ⟨A17,n17,c17,rfl⟩:=k15_2.frm
 obtain ⟨A18,n18,c18,rfl⟩:=k15_3.frm
 replace k15_4:=k15_4.end OB0
 obtain ⟨A19,n19,c19,rfl⟩:=k15_4.frm
 replace B5:=(((B5.le lb10).mod m12 (by omega)).mod m13 (by omega)).le lc15
 refine bG 10 rfl (fun _=>y_move)<|bG 11 rfl (fun _=>aL)<|bG 12 rfl (fun _=>aL)<|bG 13 rfl (fun _=>aL)<|cV 14 rfl (aK aP B5) (fun v20 h20 q20=>?_)
 obtain ⟨rfl,q20⟩:=q20
 have z20:=q20.1
 replace B5:=q20.2.2
 replace B7:=((((B7.le lb10).mod m12 (by omega)).mod m13 (by omega)).le lc15).s q20
 refine cV 15 rfl (aK aP B7) (fun v21 h21 q21=>?_)
 replace kr:=(kr.leO lc15).setO q20 (il hO7 (ir hO5)) (by omega)
 obtain ⟨rfl,q21⟩:=q21
 have z21:=q21.1
 replace B7:=q21.2.2
 refine bD ?_
 refine aF (ah5 0 2 3 4 5) fun r=>?_
 have hta:=tE ol13 (v3,(⟨⟨false,false,⟨0,[]⟩⟩,[],false,false,[]⟩:cS),[])
 have hvb0:VB (cJ v3 (⟨⟨false,false,⟨0,[]⟩⟩,[],false,false,[]⟩:cS) ol13).1:=hta.1 pr3
 replace kr:=kr.setO q21 (ir hO7) (by omega)
 have hnb:NB (cJ v3 (⟨⟨false,false,⟨0,[]⟩⟩,[],false,false,[]⟩:cS) ol13).2.1.names:=aAN ol13 (v3,(⟨⟨false,false,⟨0,[]⟩⟩,[],false,false,[]⟩:cS),[]) (fun _ hx=>nomatch hx)
 have hn3:(cJ v3 (⟨⟨false,false,⟨0,[]⟩⟩,[],false,false,[]⟩:cS) ol13).2.1.names.length ≤ 3:=by have:=hta.2.2.1; simp only [List.length_nil] at this; unfold cJ; omega
 have hin0:(cJ v3 (⟨⟨false,false,⟨0,[]⟩⟩,[],false,false,[]⟩:cS) ol13).2.1.inn.length ≤ 0:=hta.2.1
 obtain ⟨hv0a,hv0b,hv0c⟩:=id hvb0
 replace OB0:=OB0.leO (h':=h21) (by omega)
 refine dH (fun (gx:Str × (Nat → Prop) × Int)=>match gx with | (inn,OL22,p22)=>[(0,.pointer (some ⟨br,0,none⟩)),(2,.pointer (some ⟨b1,0,none⟩)),(3,.pointer (some ⟨b2,0,none⟩)),(4,.pointer (some ⟨b5,0,none⟩)),(5,.pointer (some ⟨b7,0,none⟩))]) (fun (gx:Str × (Nat → Prop) × Int) (h' : Heap)=>match gx with | (inn,OL22,p22)=>Mod (· = br) h h' ∧ Mod O7 h21 h' ∧ (∀ x,OL22 x → O7 x ∨ h21.size ≤ x)∧(∀ x,O7 x → OL22 x)∧OB h' OL22∧Blk h' b1 [vi 0,.slice none 0 0] 52∧OL22 b1∧Blk h' b2 [vb false,vb false,vi 0,.slice none 0 0,.slice none 0 0,vb false,vb false,vs []] 60∧OL22 b2∧Blk h' b5 [vi (((cJ v3 (⟨⟨false,false,⟨0,[]⟩⟩,[],false,false,[]⟩:cS) ol13).1).now),(.slice A16 n16 c16)] 52∧OL22 b5∧Blk h' b7 [vb (((cJ v3 (⟨⟨false,false,⟨0,[]⟩⟩,[],false,false,[]⟩:cS) ol13).2.1).seat.on),vb (((cJ v3 (⟨⟨false,false,⟨0,[]⟩⟩,[],false,false,[]⟩:cS) ol13).2.1).seat.bad),vi (((cJ v3 (⟨⟨false,false,⟨0,[]⟩⟩,[],false,false,[]⟩:cS) ol13).2.1).seat.work.at'),(.slice A17 n17 c17),(.slice A18 n18 c18),vb (((cJ v3 (⟨⟨false,false,⟨0,[]⟩⟩,[],false,false,[]⟩:cS) ol13).2.1).skip),vb (((cJ v3 (⟨⟨false,false,⟨0,[]⟩⟩,[],false,false,[]⟩:cS) ol13).2.1).gone),vs inn] 60∧OL22 b7∧RD h' OL22 br p22∧p13 ≤ p22∧p22 ≤ p13 + 2∧SB inn) ?_ ?_
 replace lr22:=Mod.refl (S:=O7) h21
 replace lx22:∀ x,O7 x → O7 x ∨ h21.size ≤ x:=fun x hx=>.inl hx
 refine hw_sr (aB y_fieldAddr<|aB (y_load (Blk.at B7 rfl rfl))<|aB dG<|aB y_move<|?_)
 refine eT (b:=((cJ v3 (⟨⟨false,false,⟨0,[]⟩⟩,[],false,false,[]⟩:cS) ol13).2.1).gone) (fun g27=>?_) (fun g27=>?_)
 refine aN (neF (nT g27))<|aN (neF (nT g27))<|aN (neF (nT g27))<|aB (aR (nT g27))<|aD ?_
 refine aF (ah6 0 2 3 4 5 31) fun r=>?_
 refine eZ rfl ?_
 refine aM ?_
 replace le:=((((((((((((le.tl lb1).tl lb2).t m3).tl lb5).s q6).tl lb7).s q8).tl lb10).t m12).t m13).tl lc15).s q20).s q21
 replace B1:=(((((((((((B1.le lb2).mod m3 (by omega)).le lb5).s q6).le lb7).s q8).le lb10).mod m12 (by omega)).mod m13 (by omega)).le lc15).s q20).s q21
 replace B2:=((((((((((B2.mod m3 (by omega)).le lb5).s q6).le lb7).s q8).le lb10).mod m12 (by omega)).mod m13 (by omega)).le lc15).s q20).s q21
 replace B5:=B5.s q21
 exact ⟨(((cJ v3 (⟨⟨false,false,⟨0,[]⟩⟩,[],false,false,[]⟩:cS) ol13).2.1).inn,O7,p13),ag5,⟨le,lr22,lx22,fun x hx=>hx,OB0,B1,(il hO7 (il hO5 (il hO2 (ir hO1)))),B2,(il hO7 (il hO5 (ir hO2))),B5,(il hO7 (ir hO5)),B7,(ir hO7),kr,by omega,by omega,by first | assumption | (show List.length _ ≤ 4294967296; omega)⟩⟩
 refine aO (nF g27) y_move<|iR (nF g27) aG (eH kr OB0) (fun v23 h23 q23=>?_)
 clear kr
 obtain ⟨i23,rfl,⟨m23,p23,kr,pa23,pb23⟩,pr23⟩:=q23
 have z23:=m23.1
 refine aO (nF g27) bM<|aB (y_pickT (nF g27))<|aD ?_
 refine aF (ah6 0 2 3 4 5 31) fun r=>?_
 refine aZ (fun g31=>?_) (fun g31=>?_)
 refine aE (aB y_move<|?_)
 refine bE (bA (l:=([[81],[81,48],[81,48,53],[81,48,53,103,101,116],[83,48]]:List Str))) (fun v24 h24 q24=>?_)
 obtain ⟨lb24,ow24,sb24⟩:=q24
 have z24:=lb24.1
 replace OB0:=OB0.leO m23.1
 replace k24:Rs _ O7 _ _:=Ow.end ⟨ow24,⟨by simp,by simp [Ok.ok]⟩⟩ OB0
 obtain ⟨A25,n25,c25,rfl⟩:=k24.frm
 replace kr:=kr.leO lb24
 replace OB0:=OB0.leO lb24.1
 refine bL aG (nK kr k24 OB0) (fun v26 h26 q26=>?_)
 clear kr
 obtain ⟨s26,rfl,⟨m26,p26,kr,pa26,pb26⟩,pr26⟩:=q26
 have z26:=m26.1
 have sb26:s26.length ≤ 6:=iV (by decide) pr26
 replace B7:=((B7.mod m23 (by omega)).le lb24).mod m26 (by omega)
 refine aB y_fieldAddr<|bO (aK aP B7) (fun v27 h27 q27=>?_)
 obtain ⟨rfl,q27⟩:=q27
 have z27:=q27.1
 replace B7:=q27.2.2
 refine aD ?_
 replace le:=((((((((((((((((le.tl lb1).tl lb2).t m3).tl lb5).s q6).tl lb7).s q8).tl lb10).t m12).t m13).tl lc15).s q20).s q21).t m23).tl lb24).t m26).s q27
 replace B1:=(((((((((((((((B1.le lb2).mod m3 (by omega)).le lb5).s q6).le lb7).s q8).le lb10).mod m12 (by omega)).mod m13 (by omega)).le lc15).s q20).s q21).mod m23 (by omega)).le lb24).mod m26 (by omega)).s q27
 replace B2:=((((((((((((((B2.mod m3 (by omega)).le lb5).s q6).le lb7).s q8).le lb10).mod m12 (by omega)).mod m13 (by omega)).le lc15).s q20).s q21).mod m23 (by omega)).le lb24).mod m26 (by omega)).s q27
 replace B5:=((((B5.s q21).mod m23 (by omega)).le lb24).mod m26 (by omega)).s q27
 replace lr22:=(((lr22.t (Mod.mono m23 (fun x _ e=>e ▸ (il hO7 (il hO5 (il hO2 (il hO1 mbr))))))).tl lb24).t (Mod.mono m26 (fun x _ e=>e ▸ (il hO7 (il hO5 (il hO2 (il hO1 mbr))))))).stO q27 (ir hO7)
 replace kr:=kr.setO q27 (ir hO7) (by omega)
 replace OB0:=OB0.leO (h':=h27) (by omega)
 exact ⟨(s26,O7,p26),ag5,⟨le,lr22,lx22,fun x hx=>hx,OB0,B1,(il hO7 (il hO5 (il hO2 (ir hO1)))),B2,(il hO7 (il hO5 (ir hO2))),B5,(il hO7 (ir hO5)),B7,(ir hO7),kr,by omega,by omega,by first | assumption | (show List.length _ ≤ 4294967296; omega)⟩⟩
 refine aM ?_
 replace le:=(((((((((((((le.tl lb1).tl lb2).t m3).tl lb5).s q6).tl lb7).s q8).tl lb10).t m12).t m13).tl lc15).s q20).s q21).t m23
 replace B1:=((((((((((((B1.le lb2).mod m3 (by omega)).le lb5).s q6).le lb7).s q8).le lb10).mod m12 (by omega)).mod m13 (by omega)).le lc15).s q20).s q21).mod m23 (by omega)
 replace B2:=(((((((((((B2.mod m3 (by omega)).le lb5).s q6).le lb7).s q8).le lb10).mod m12 (by omega)).mod m13 (by omega)).le lc15).s q20).s q21).mod m23 (by omega)
 replace B5:=(B5.s q21).mod m23 (by omega)
 replace B7:=B7.mod m23 (by omega)
 replace lr22:=lr22.t (Mod.mono m23 (fun x _ e=>e ▸ (il hO7 (il hO5 (il hO2 (il hO1 mbr))))))
 replace OB0:=OB0.leO m23.1
 exact ⟨(((cJ v3 (⟨⟨false,false,⟨0,[]⟩⟩,[],false,false,[]⟩:cS) ol13).2.1).inn,O7,p23),ag5,⟨le,lr22,lx22,fun x hx=>hx,OB0,B1,(il hO7 (il hO5 (il hO2 (ir hO1)))),B2,(il hO7 (il hO5 (ir hO2))),B5,(il hO7 (ir hO5)),B7,(ir hO7),kr,by omega,by omega,by first | assumption | (show List.length _ ≤ 4294967296; omega)⟩⟩
 replace le:=((((((((((((le.tl lb1).tl lb2).t m3).tl lb5).s q6).tl lb7).s q8).tl lb10).t m12).t m13).tl lc15).s q20).s q21
 replace B1:=(((((((((((B1.le lb2).mod m3 (by omega)).le lb5).s q6).le lb7).s q8).le lb10).mod m12 (by omega)).mod m13 (by omega)).le lc15).s q20).s q21
 replace B2:=((((((((((B2.mod m3 (by omega)).le lb5).s q6).le lb7).s q8).le lb10).mod m12 (by omega)).mod m13 (by omega)).le lc15).s q20).s q21
 replace B5:=B5.s q21
 rintro ⟨inn,OL22,p22⟩ r hl22 ⟨le,lp22,la22,lb22,lo22,B1,mB1,B2,mB2,B5,mB5,B7,mB7,kr,pa22,pb22,sinn⟩
 have zl22:=lp22.1
 replace OB0:=lo22
 refine dH (fun (gx:Int × (List Ver) × (Nat → Prop) × Int × Value)=>match gx with | (nw,vl,OL28,p28,svv)=>[(2,.pointer (some ⟨b1,0,none⟩)),(3,.pointer (some ⟨b2,0,none⟩)),(4,.pointer (some ⟨b5,0,none⟩)),(5,.pointer (some ⟨b7,0,none⟩))]) (fun (gx:Int × (List Ver) × (Nat → Prop) × Int × Value) (h' : Heap)=>match gx with | (nw,vl,OL28,p28,svv)=>Mod (· = br) h h' ∧ Mod OL22 hl22 h' ∧ (∀ x,OL28 x → OL22 x ∨ hl22.size ≤ x)∧(∀ x,OL22 x → OL28 x)∧OB h' OL28∧Blk h' b1 [vi 0,.slice none 0 0] 52∧OL28 b1∧Blk h' b2 [vb false,vb false,vi 0,.slice none 0 0,.slice none 0 0,vb false,vb false,vs []] 60∧OL28 b2∧Blk h' b5 [vi nw,svv] 52∧OL28 b5∧Blk h' b7 [vb (((cJ v3 (⟨⟨false,false,⟨0,[]⟩⟩,[],false,false,[]⟩:cS) ol13).2.1).seat.on),vb (((cJ v3 (⟨⟨false,false,⟨0,[]⟩⟩,[],false,false,[]⟩:cS) ol13).2.1).seat.bad),vi (((cJ v3 (⟨⟨false,false,⟨0,[]⟩⟩,[],false,false,[]⟩:cS) ol13).2.1).seat.work.at'),(.slice A17 n17 c17),(.slice A18 n18 c18),vb (((cJ v3 (⟨⟨false,false,⟨0,[]⟩⟩,[],false,false,[]⟩:cS) ol13).2.1).skip),vb (((cJ v3 (⟨⟨false,false,⟨0,[]⟩⟩,[],false,false,[]⟩:cS) ol13).2.1).gone),vs inn] 60∧OL28 b7∧RD h' OL28 br p28∧p22 ≤ p28∧p28 ≤ p22 + 61∧Rs h' OL28 svv vl∧VB ⟨nw,vl⟩) ?_ ?_
 replace lr28:=Mod.refl (S:=OL22) hl22
 replace lx28:∀ x,OL22 x → OL22 x ∨ hl22.size ≤ x:=fun x hx=>.inl hx
 refine hw_sr (aB y_move<|bL aG (eH kr OB0) (fun v29 h29 q29=>?_))
 clear kr
 replace k15_1:=((k15_1.st q20 (il hO7 (ir hO5))).st q21 (ir hO7)).lp lp22 la22
 obtain ⟨i29,rfl,⟨m29,p29,kr,pa29,pb29⟩,pr29⟩:=q29
 have z29:=m29.1
 refine aB bM<|aD ?_
 refine aZ (fun g38=>?_) (fun g38=>?_)
 refine aI ?_
 replace B5:=B5.mod m29 (by omega)
 refine aE (aB y_move<|aB (y_loadB B5 0 _)<|aB y_fieldAddr<|aB (y_load (Blk.at B5 rfl rfl))<|?_)
 replace k15_1:=k15_1.md m29 (fun _ e=>e ▸ (lb22 _ (il hO7 (il hO5 (il hO2 (il hO1 mbr))))))
 replace OB0:=OB0.leO m29.1
 refine bL aG (nZ (v:=((cJ v3 (⟨⟨false,false,⟨0,[]⟩⟩,[],false,false,[]⟩:cS) ol13).1)) k15_1 OB0) (fun v30 h30 q30=>?_)
 obtain ⟨lc30,k30_1⟩:=q30
 have z30:=lc30.1
 replace k30_1:=k30_1.end OB0
 obtain ⟨A31,n31,c31,rfl⟩:=k30_1.frm
 replace kr:=kr.leO lc30
 replace OB0:=OB0.leO lc30.1
 refine bL aG (tV kr k30_1 OB0) (fun v32 h32 q32=>?_)
 clear kr
 obtain ⟨wl32,⟨m32,p32,kr,pa32,pb32⟩,k32_1,pr32⟩:=q32
 have z32:=m32.1
 obtain ⟨A33,n33,c33,rfl⟩:=k32_1.frm
 refine aB aC<|aD ?_
 refine aF (ah5 2 3 4 5 6) fun r=>?_
 refine hw_sr (aB y_move<|dY aG (iL k32_1)<|aD ?_)
 refine bF (fun g46=>?_) (fun g46=>?_)
 replace B5:=(B5.le lc30).mod m32 (by omega)
 refine aE (aB (y_loadB B5 0 _)<|aB y_move<|?_)
 replace k15_1:=(k15_1.le lc30).md m32 (fun _ e=>e ▸ (lb22 _ (il hO7 (il hO5 (il hO2 (il hO1 mbr))))))
 replace OB0:=OB0.leO m32.1
 refine bL aG (aA2 (v:=((cJ v3 (⟨⟨false,false,⟨0,[]⟩⟩,[],false,false,[]⟩:cS) ol13).1)) k15_1 k32_1 OB0) (fun v34 h34 q34=>?_)
 obtain ⟨s34_1,rfl,lc34,k34_1⟩:=q34
 have z34:=lc34.1
 obtain ⟨A35,n35,c35,rfl⟩:=k34_1.frm
 replace B5:=B5.le lc34
 refine aB y_move<|aB aL<|aB aL<|bO (aK aP B5) (fun v36 h36 q36=>?_)
 obtain ⟨rfl,q36⟩:=q36
 have z36:=q36.1
 replace B5:=q36.2.2
 refine aD ?_
 replace B1:=((((B1.mod m29 (by omega)).le lc30).mod m32 (by omega)).le lc34).s q36
 replace B2:=((((B2.mod m29 (by omega)).le lc30).mod m32 (by omega)).le lc34).s q36
 replace B7:=((((B7.mod m29 (by omega)).le lc30).mod m32 (by omega)).le lc34).s q36
 replace le:=((((le.t m29).tl lc30).t m32).tl lc34).s q36
 replace lr28:=((((lr28.t (Mod.mono m29 (fun x _ e=>e ▸ (lb22 _ (il hO7 (il hO5 (il hO2 (il hO1 mbr)))))))).tl lc30).t (Mod.mono m32 (fun x _ e=>e ▸ (lb22 _ (il hO7 (il hO5 (il hO2 (il hO1 mbr)))))))).tl lc34).stO q36 mB5
 replace kr:=(kr.leO lc34).setO q36 mB5 (by omega)
 replace k34_1:=k34_1.st q36 mB5
 replace OB0:=OB0.leO (h':=h36) (by omega)
 exact ⟨(((fM ((cJ v3 (⟨⟨false,false,⟨0,[]⟩⟩,[],false,false,[]⟩:cS) ol13).1) wl32).1).now,((fM ((cJ v3 (⟨⟨false,false,⟨0,[]⟩⟩,[],false,false,[]⟩:cS) ol13).1) wl32).1).list,OL22,p32,(.slice A35 n35 c35)),ag4,⟨le,lr28,lx28,fun x hx=>hx,OB0,B1,mB1,B2,mB2,B5,mB5,B7,mB7,kr,by omega,by omega,k34_1.cast (by first | rfl | simp_all),by first | exact kX hvb0 | exact hvb0⟩⟩
 refine aM ?_
 replace B1:=((B1.mod m29 (by omega)).le lc30).mod m32 (by omega)
 replace B2:=((B2.mod m29 (by omega)).le lc30).mod m32 (by omega)
 replace B7:=((B7.mod m29 (by omega)).le lc30).mod m32 (by omega)
 replace le:=((le.t m29).tl lc30).t m32
 replace lr28:=((lr28.t (Mod.mono m29 (fun x _ e=>e ▸ (lb22 _ (il hO7 (il hO5 (il hO2 (il hO1 mbr)))))))).tl lc30).t (Mod.mono m32 (fun x _ e=>e ▸ (lb22 _ (il hO7 (il hO5 (il hO2 (il hO1 mbr)))))))
 replace B5:=(B5.le lc30).mod m32 (by omega)
 replace k15_1:=(k15_1.le lc30).md m32 (fun _ e=>e ▸ (lb22 _ (il hO7 (il hO5 (il hO2 (il hO1 mbr))))))
 replace OB0:=OB0.leO m32.1
 exact ⟨(((cJ v3 (⟨⟨false,false,⟨0,[]⟩⟩,[],false,false,[]⟩:cS) ol13).1).now,((cJ v3 (⟨⟨false,false,⟨0,[]⟩⟩,[],false,false,[]⟩:cS) ol13).1).list,OL22,p32,(.slice A16 n16 c16)),ag4,⟨le,lr28,lx28,fun x hx=>hx,OB0,B1,mB1,B2,mB2,B5,mB5,B7,mB7,kr,by omega,by omega,k15_1.cast (by first | rfl | simp_all),by first | exact kX hvb0 | exact hvb0⟩⟩
 refine aM ?_
 replace B1:=B1.mod m29 (by omega)
 replace B2:=B2.mod m29 (by omega)
 replace B5:=B5.mod m29 (by omega)
 replace B7:=B7.mod m29 (by omega)
 replace le:=le.t m29
 replace lr28:=lr28.t (Mod.mono m29 (fun x _ e=>e ▸ (lb22 _ (il hO7 (il hO5 (il hO2 (il hO1 mbr)))))))
 replace k15_1:=k15_1.md m29 (fun _ e=>e ▸ (lb22 _ (il hO7 (il hO5 (il hO2 (il hO1 mbr))))))
 replace OB0:=OB0.leO m29.1
 exact ⟨(((cJ v3 (⟨⟨false,false,⟨0,[]⟩⟩,[],false,false,[]⟩:cS) ol13).1).now,((cJ v3 (⟨⟨false,false,⟨0,[]⟩⟩,[],false,false,[]⟩:cS) ol13).1).list,OL22,p29,(.slice A16 n16 c16)),ag4,⟨le,lr28,lx28,fun x hx=>hx,OB0,B1,mB1,B2,mB2,B5,mB5,B7,mB7,kr,by omega,by omega,k15_1.cast (by first | rfl | simp_all),by first | exact kX hvb0 | exact hvb0⟩⟩
 rintro ⟨nw,vl,OL28,p28,svv⟩ r hl28 ⟨le,lp28,la28,lb28,lo28,B1,mB1,B2,mB2,B5,mB5,B7,mB7,kr,pa28,pb28,ksvv,hvb⟩
 replace k15_1:=((k15_1.st q20 (il hO7 (ir hO5))).st q21 (ir hO7)).lp lp22 la22
 obtain ⟨A37,n37,c37,rfl⟩:=ksvv.frm
 have zl28:=lp28.1
 refine aI ?_
 replace OB0:=lo28
 replace k15_2:=(((k15_2.st q20 (il hO7 (ir hO5))).st q21 (ir hO7)).lp lp22 la22).lp lp28 la28
 have Rk15_2:=k15_2
 replace k15_3:=(((k15_3.st q20 (il hO7 (ir hO5))).st q21 (ir hO7)).lp lp22 la22).lp lp28 la28
 have Rk15_3:=k15_3
 have Rksvv:=ksvv
 obtain ⟨S38,hS38⟩:=mkO (fun b=>hl28.size ≤ b ∨ b = b1)
 replace mR38:Mod S38 hl28 hl28:=Mod.refl _
 have hd38:∀ b,b < hl28.size∧¬ OL28 b → ¬ S38 b:=fun b hb hs=>(fun hs=>hs.elim (fun hs=>absurd hb.1 (Nat.not_lt.2 hs)) (fun hs=>hb.2 (hs ▸ mB1))) ((hS38 b).1 hs)
 refine bH 6 S38 bC (ha2_y 0 rfl (fun _ mm=>(y_loadB (Blk.mod B5 mm (fun hs=>by rcases (hS38 _).1 hs with hs | hs <;> first | omega)) 0 _))<|ha2_y 2 rfl (fun _ mm=>(y_loadB (Blk.mod B7 mm (fun hs=>by rcases (hS38 _).1 hs with hs | hs <;> first | omega)) 0 _))<|?_)
 refine aW 1 (cC rfl aG (lA (v:=(⟨nw,vl⟩:cD)) ksvv OB0) (fun v39 h39 q39=>?_))
 obtain ⟨s39_1,rfl,lc39,k39_1⟩:=q39
 have z39:=lc39.1
 refine ⟨Le.mod lc39,?_⟩
 replace k39_1:=k39_1.end OB0
 obtain ⟨A40,n40,c40,rfl⟩:=k39_1.frm
 refine aW 3 (?_)
 replace k15_2:=k15_2.le lc39
 replace k15_3:=k15_3.le lc39
 replace OB0:=OB0.leO lc39.1
 refine cC rfl aG (zQ (t:=(⟨((cJ v3 (⟨⟨false,false,⟨0,[]⟩⟩,[],false,false,[]⟩:cS) ol13).2.1).seat,((cJ v3 (⟨⟨false,false,⟨0,[]⟩⟩,[],false,false,[]⟩:cS) ol13).2.1).names,((cJ v3 (⟨⟨false,false,⟨0,[]⟩⟩,[],false,false,[]⟩:cS) ol13).2.1).skip,((cJ v3 (⟨⟨false,false,⟨0,[]⟩⟩,[],false,false,[]⟩:cS) ol13).2.1).gone,inn⟩:cS)) k15_2 k15_3 OB0) (fun v41 h41 q41=>?_)
 obtain ⟨s41_1,s41_2,rfl,lc41,k41_1,k41_2⟩:=q41
 have z41:=lc41.1
 refine ⟨Le.mod lc41,?_⟩
 obtain ⟨A42,n42,c42,rfl⟩:=k41_1.frm
 obtain ⟨A43,n43,c43,rfl⟩:=k41_2.frm
 replace B1:=(B1.le lc39).le lc41
 refine aW 4 (cY rfl (aK aP B1) (fun v44 h44 q44=>?_))
 obtain ⟨rfl,q44⟩:=q44
 have z44:=q44.1
 replace mR9:=(mR9.t ms).tl lc15
 have ms:=mm hS38 q44.2.1
 refine ⟨ms,?_⟩
 replace B1:=q44.2.2
 replace B2:=((B2.le lc39).le lc41).s q44
 refine cV 5 rfl (aK aP B2) (fun v45 h45 q45=>?_)
 obtain ⟨rfl,q45⟩:=q45
 have z45:=q45.1
 replace B2:=q45.2.2
 refine bD ?_
 refine aF (ah2 2 3) fun r=>?_
 refine hw_rr ?_
 replace B1:=B1.s q45
 refine aQ rfl (.cons (bT B1) (.cons (bT B2) .nil)) ?_
 replace kr:=(((kr.leO lc39).leO lc41).setO q44 mB1 (by omega)).setO q45 mB2 (by omega)
 replace le:=(((le.tl lc39).tl lc41).s q44).s q45
 replace k39_1:=((k39_1.le lc41).st q44 mB1).st q45 mB2
 replace k41_1:=(k41_1.st q44 mB1).st q45 mB2
 replace k41_2:=(k41_2.st q44 mB1).st q45 mB2
 exact ⟨⟨_,_⟩,⟨⟨_,_,⟨_,_⟩⟩,_,_,_,inn⟩,_,_,_,by first | rfl | (simp_all [oneOf] <;> omega),⟨le,_,RD.weakO kr (fun x hx=>(lb28 _ (lb22 _ (il hO7 (il hO5 (il hO2 (il hO1 hx))))))) mbr,by omega,by omega⟩,(k39_1.wk (fun x hx=>(lb28 _ (lb22 _ (il hO7 (il hO5 (il hO2 (il hO1 hx)))))))).cast (by first | rfl | (simp_all [oneOf] <;> omega)),(k41_1.wk (fun x hx=>(lb28 _ (lb22 _ (il hO7 (il hO5 (il hO2 (il hO1 hx)))))))).cast (by first | rfl | (simp_all [oneOf] <;> omega)),(k41_2.wk (fun x hx=>(lb28 _ (lb22 _ (il hO7 (il hO5 (il hO2 (il hO1 hx)))))))).cast (by first | rfl | (simp_all [oneOf] <;> omega)),⟨hvb,hnb,hn3,by assumption⟩⟩
set_option maxHeartbeats 1000000 in
theorem aA0 {w0:World} {h:Heap} {O:Nat → Prop} {br:Nat} {p:Int} (kr:RD h O br p) (OB0:OB h O) (hp:p + 10 ≤ 1000000000:=by omega):HC (XM PP) w0 32 [.pointer (some ⟨br,0,none⟩)].toArray h (fun rv h'=>∃ (l:Letter) ,rv = .agg #[vs l.sign,vs l.body]∧pD O br p 10 h h' ∧ LB l):=by
 replace le:=Mod.refl (S:=(· = br)) h
 have brl:=kr.lt
 have mbr:=kr.mem
 have OBe:=OB0
 refine aV 45 [(0,.pointer (some ⟨br,0,none⟩))] Tryz.func32 (fun r=>?_)
 refine hw_sr (bE aY (fun v1 h1 q1=>?_))
 obtain ⟨b1,O1,rfl,eb1,sb1,lb1,B1,hO1⟩:=q1.ox O
 refine aD ?_
 refine aI ?_
 refine hw_sr (aB y_move<|?_)
 replace kr:=kr.newB lb1 hO1 eb1
 replace OB0:=OB0.newB sb1 hO1 eb1
 refine bL aG (eH kr OB0) (fun v2 h2 q2=>?_)
 clear kr
 obtain ⟨i2,rfl,⟨m2,p2,kr,pa2,pb2⟩,pr2⟩:=q2
 have z2:=m2.1
 refine aD ?_
 refine aX ?_
 refine dH (fun (gu:Unit)=>[(0,.pointer (some ⟨br,0,none⟩)),(2,.pointer (some ⟨b1,0,none⟩)),(4,vi i2),(5,vb ((decide (i2 = 0)) || (decide (i2 = 1))))]) (fun (gu:Unit) (h' : Heap)=>h2 = h') ?_ ?_
 refine hw_sr (aB bM<|aB aC<|aD ?_)
 refine aZ (fun g5=>?_) (fun g5=>?_)
 refine aM ?_
 exact ⟨(),(aA (aA (aA (aA aJ (by simp only [aH,reduceIte,Nat.reduceEqDiff,reduceCtorEq,(dT g5),bb] <;> rfl))))),(rfl)⟩
 refine aE (aB bM<|aB aC<|aD ?_)
 exact ⟨(),(aA (aA (aA (aA aJ (by simp only [aH,reduceIte,Nat.reduceEqDiff,reduceCtorEq,(dF g5),bb] <;> rfl))))),(rfl)⟩
 rintro gu r _ rfl
 refine bF (fun g5=>?_) (fun g5=>?_)
 have g5':=g5
 simp at g5'
 refine hw_sr (aB y_move<|?_)
 refine bE (bA (l:=([[97,32,49],[122,122,32,45,57,57,57],[98,32,48],[97],[97,32,48,49],[97,98,99,32,49]]:List Str))) (fun v4 h4 q4=>?_)
 obtain ⟨lb4,ow4,sb4⟩:=q4
 have z4:=lb4.1
 replace OB0:=OB0.leO m2.1
 replace k4:Rs _ O1 _ _:=Ow.end ⟨ow4,⟨by simp,by simp [Ok.ok]⟩⟩ OB0
 obtain ⟨A5,n5,c5,rfl⟩:=k4.frm
 replace kr:=kr.leO lb4
 replace OB0:=OB0.leO lb4.1
 refine bL aG (nK kr k4 OB0) (fun v6 h6 q6=>?_)
 clear kr
 obtain ⟨s6,rfl,⟨m6,p6,kr,pa6,pb6⟩,pr6⟩:=q6
 have z6:=m6.1
 have sb6:s6.length ≤ 7:=iV (by decide) pr6
 refine aB (y_build rfl rfl)<|?_
 replace B1:=((B1.mod m2 (by omega)).le lb4).mod m6 (by omega)
 refine bO (aK aP B1) (fun v7 h7 q7=>?_)
 obtain ⟨rfl,q7⟩:=q7
 have z7:=q7.1
 replace B1:=q7.2.2
 refine aD ?_
 refine aF (ah1 2) fun r=>?_
 refine hw_rr ?_
 refine aQ rfl (.cons (bT B1) .nil) ?_
 replace le:=((((le.tl lb1).t m2).tl lb4).t m6).s q7
 replace kr:=kr.setO q7 (ir hO1) (by omega)
 exact ⟨⟨_,_⟩,by first | rfl | (simp_all [oneOf] <;> omega),⟨le,_,RD.weakO kr (fun x hx=>(il hO1 hx)) mbr,by omega,by omega⟩,⟨by dsimp only; first | omega | decide,by dsimp only; first | omega | decide⟩⟩
 have g5':=g5
 simp at g5'
 refine dH (fun (gu:Unit)=>[(0,.pointer (some ⟨br,0,none⟩)),(2,.pointer (some ⟨b1,0,none⟩)),(4,vi i2),(12,vb ((decide (i2 = 2)) || ((decide (i2 = 3)) || (decide (i2 = 4)))))]) (fun (gu:Unit) (h' : Heap)=>h2 = h') ?_ ?_
 refine hw_sr (aB bM<|aB aC<|aD ?_)
 refine aZ (fun g12=>?_) (fun g12=>?_)
 refine aM ?_
 exact ⟨(),(aA (aA (aA (aA aJ (by simp only [aH,reduceIte,Nat.reduceEqDiff,reduceCtorEq,(dT g12),bb] <;> rfl))))),(rfl)⟩
 refine hw_sr (aB bM<|aB aC<|aD ?_)
 refine aZ (fun g12_1=>?_) (fun g12_1=>?_)
 refine aM ?_
 exact ⟨(),(aA (aA (aA (aA aJ (by first | (simp only [aH,reduceIte,Nat.reduceEqDiff,reduceCtorEq,(dF g12),(dT g12_1),bb]; done) | (simp only [aH,reduceIte,Nat.reduceEqDiff,reduceCtorEq]; try simp only [(dF g12),bb]; try simp only [(dT g12_1),bb]; done) | (simp only [aH,reduceIte,Nat.reduceEqDiff,reduceCtorEq,(dF g12),(dT g12_1),bb]; rfl)))))),(rfl)⟩
 refine aE (aB bM<|aB aC<|aD ?_)
 exact ⟨(),(aA (aA (aA (aA aJ (by first | (simp only [aH,reduceIte,Nat.reduceEqDiff,reduceCtorEq,(dF g12),(dF g12_1),bb]; done) | (simp only [aH,reduceIte,Nat.reduceEqDiff,reduceCtorEq]; try simp only [(dF g12),bb]; try simp only [(dF g12_1),bb]; done) | (simp only [aH,reduceIte,Nat.reduceEqDiff,reduceCtorEq,(dF g12),(dF g12_1),bb]; rfl)))))),(rfl)⟩
 rintro gu r _ rfl
 refine bF (fun g12=>?_) (fun g12=>?_)
 have g12':=g12
 simp at g12'
 refine hw_sr (aB y_move<|?_)
 refine bE (bA (l:=([[102,105,110,101],[102,105,110,101],[102,105,110,101],[102,111,114,109]]:List Str))) (fun v9 h9 q9=>?_)
 obtain ⟨lb9,ow9,sb9⟩:=q9
 have z9:=lb9.1
 replace OB0:=OB0.leO m2.1
 replace k9:Rs _ O1 _ _:=Ow.end ⟨ow9,⟨by simp,by simp [Ok.ok]⟩⟩ OB0
 obtain ⟨A10,n10,c10,rfl⟩:=k9.frm
 replace kr:=kr.leO lb9
 replace OB0:=OB0.leO lb9.1
 refine bL aG (nK kr k9 OB0) (fun v11 h11 q11=>?_)
 clear kr
 obtain ⟨s11,rfl,⟨m11,p11,kr,pa11,pb11⟩,pr11⟩:=q11
 have z11:=m11.1
 have sb11:s11.length ≤ 4:=iV (by decide) pr11
 refine aB (y_build rfl rfl)<|?_
 replace B1:=((B1.mod m2 (by omega)).le lb9).mod m11 (by omega)
 refine bO (aK aP B1) (fun v12 h12 q12=>?_)
 obtain ⟨rfl,q12⟩:=q12
 have z12:=q12.1
 replace B1:=q12.2.2
 refine aD ?_
 refine aF (ah1 2) fun r=>?_
 refine hw_rr ?_
 refine aQ rfl (.cons (bT B1) .nil) ?_
 replace le:=((((le.tl lb1).t m2).tl lb9).t m11).s q12
 replace kr:=kr.setO q12 (ir hO1) (by omega)
 exact ⟨⟨_,_⟩,by first | rfl | (simp_all [oneOf] <;> omega),⟨le,_,RD.weakO kr (fun x hx=>(il hO1 hx)) mbr,by omega,by omega⟩,⟨by dsimp only; first | omega | decide,by dsimp only; first | omega | decide⟩⟩
 have g12':=g12
 simp at g12'
 refine hw_sr (aB bM<|aB aC<|aD ?_)
 refine aZ (fun g20=>?_) (fun g20=>?_)
 refine hw_sr (aB y_move<|?_)
 refine bE (bA (l:=([[102,111,114,109],[108,97,116,101],[110,111,110,101],[98,97,100],[111,118,101,114],[102,117,108,108],[102,105,110,101],[102,108,121]]:List Str))) (fun v13 h13 q13=>?_)
 obtain ⟨lb13,ow13,sb13⟩:=q13
 have z13:=lb13.1
 replace OB0:=OB0.leO m2.1
 replace k13:Rs _ O1 _ _:=Ow.end ⟨ow13,⟨by simp,by simp [Ok.ok]⟩⟩ OB0
 obtain ⟨A14,n14,c14,rfl⟩:=k13.frm
 replace kr:=kr.leO lb13
 replace OB0:=OB0.leO lb13.1
 refine bL aG (nK kr k13 OB0) (fun v15 h15 q15=>?_)
 clear kr
 obtain ⟨s15,rfl,⟨m15,p15,kr,pa15,pb15⟩,pr15⟩:=q15
 have z15:=m15.1
 have sb15:s15.length ≤ 4:=iV (by decide) pr15
 refine aB (y_build rfl rfl)<|?_
 replace B1:=((B1.mod m2 (by omega)).le lb13).mod m15 (by omega)
 refine bO (aK aP B1) (fun v16 h16 q16=>?_)
 obtain ⟨rfl,q16⟩:=q16
 have z16:=q16.1
 replace B1:=q16.2.2
 refine aD ?_
 refine aF (ah1 2) fun r=>?_
 refine hw_rr ?_
 refine aQ rfl (.cons (bT B1) .nil) ?_
 replace le:=((((le.tl lb1).t m2).tl lb13).t m15).s q16
 replace kr:=kr.setO q16 (ir hO1) (by omega)
 exact ⟨⟨_,_⟩,by first | rfl | (simp_all [oneOf] <;> omega),⟨le,_,RD.weakO kr (fun x hx=>(il hO1 hx)) mbr,by omega,by omega⟩,⟨by dsimp only; first | omega | decide,by dsimp only; first | omega | decide⟩⟩
 refine dH (fun (gu:Unit)=>[(0,.pointer (some ⟨br,0,none⟩)),(2,.pointer (some ⟨b1,0,none⟩)),(4,vi i2),(26,vb ((decide (i2 = 6)) || (decide (i2 = 7))))]) (fun (gu:Unit) (h' : Heap)=>h2 = h') ?_ ?_
 refine hw_sr (aB bM<|aB aC<|aD ?_)
 refine aZ (fun g26=>?_) (fun g26=>?_)
 refine aM ?_
 exact ⟨(),(aA (aA (aA (aA aJ (by simp only [aH,reduceIte,Nat.reduceEqDiff,reduceCtorEq,(dT g26),bb] <;> rfl))))),(rfl)⟩
 refine aE (aB bM<|aB aC<|aD ?_)
 exact ⟨(),(aA (aA (aA (aA aJ (by simp only [aH,reduceIte,Nat.reduceEqDiff,reduceCtorEq,(dF g26),bb] <;> rfl))))),(rfl)⟩
 rintro gu r _ rfl
 refine bF (fun g26=>?_) (fun g26=>?_)
 have g26':=g26
 simp at g26'
 refine hw_sr (aB y_move<|?_)
 refine bE (bA (l:=([[105],[116],[101],[105],[120]]:List Str))) (fun v18 h18 q18=>?_)
 obtain ⟨lb18,ow18,sb18⟩:=q18
 have z18:=lb18.1
 replace OB0:=OB0.leO m2.1
 replace k18:Rs _ O1 _ _:=Ow.end ⟨ow18,⟨by simp,by simp [Ok.ok]⟩⟩ OB0
 obtain ⟨A19,n19,c19,rfl⟩:=k18.frm
 replace kr:=kr.leO lb18
 replace OB0:=OB0.leO lb18.1
 refine bL aG (nK kr k18 OB0) (fun v20 h20 q20=>?_)
 clear kr
 obtain ⟨s20,rfl,⟨m20,p20,kr,pa20,pb20⟩,pr20⟩:=q20
 have z20:=m20.1
 have sb20:s20.length ≤ 1:=iV (by decide) pr20
 refine aB (y_build rfl rfl)<|?_
 replace B1:=((B1.mod m2 (by omega)).le lb18).mod m20 (by omega)
 refine bO (aK aP B1) (fun v21 h21 q21=>?_)
 obtain ⟨rfl,q21⟩:=q21
 have z21:=q21.1
 replace B1:=q21.2.2
 refine aD ?_
 refine aF (ah1 2) fun r=>?_
 refine hw_rr ?_
 refine aQ rfl (.cons (bT B1) .nil) ?_
 replace le:=((((le.tl lb1).t m2).tl lb18).t m20).s q21
 replace kr:=kr.setO q21 (ir hO1) (by omega)
 exact ⟨⟨_,_⟩,by first | rfl | (simp_all [oneOf] <;> omega),⟨le,_,RD.weakO kr (fun x hx=>(il hO1 hx)) mbr,by omega,by omega⟩,⟨by dsimp only; first | omega | decide,by dsimp only; first | omega | decide⟩⟩
 have g26':=g26
 simp at g26'
 refine hw_sr (aB bM<|aB aC<|aD ?_)
 refine aZ (fun g33=>?_) (fun g33=>?_)
 refine hw_sr (aB y_move<|?_)
 refine bE (bA (l:=([[],[],[],[97]]:List Str))) (fun v22 h22 q22=>?_)
 obtain ⟨lb22,ow22,sb22⟩:=q22
 have z22:=lb22.1
 replace OB0:=OB0.leO m2.1
 replace k22:Rs _ O1 _ _:=Ow.end ⟨ow22,⟨by simp,by simp [Ok.ok]⟩⟩ OB0
 obtain ⟨A23,n23,c23,rfl⟩:=k22.frm
 replace kr:=kr.leO lb22
 replace OB0:=OB0.leO lb22.1
 refine bL aG (nK kr k22 OB0) (fun v24 h24 q24=>?_)
 clear kr
 obtain ⟨s24,rfl,⟨m24,p24,kr,pa24,pb24⟩,pr24⟩:=q24
 have z24:=m24.1
 have sb24:s24.length ≤ 1:=iV (by decide) pr24
 refine aB (y_build rfl rfl)<|?_
 replace B1:=((B1.mod m2 (by omega)).le lb22).mod m24 (by omega)
 refine bO (aK aP B1) (fun v25 h25 q25=>?_)
 obtain ⟨rfl,q25⟩:=q25
 have z25:=q25.1
 replace B1:=q25.2.2
 refine aD ?_
 refine aF (ah1 2) fun r=>?_
 refine hw_rr ?_
 refine aQ rfl (.cons (bT B1) .nil) ?_
 replace le:=((((le.tl lb1).t m2).tl lb22).t m24).s q25
 replace kr:=kr.setO q25 (ir hO1) (by omega)
 exact ⟨⟨_,_⟩,by first | rfl | (simp_all [oneOf] <;> omega),⟨le,_,RD.weakO kr (fun x hx=>(il hO1 hx)) mbr,by omega,by omega⟩,⟨by dsimp only; first | omega | decide,by dsimp only; first | omega | decide⟩⟩
 refine aM ?_
 refine aI ?_
 refine hw_sr (aB y_move<|?_)
 replace OB0:=OB0.leO m2.1
 refine bL aG (eH kr OB0) (fun v26 h26 q26=>?_)
 clear kr
 obtain ⟨i26,rfl,⟨m26,p26,kr,pa26,pb26⟩,pr26⟩:=q26
 have z26:=m26.1
 refine aB bM<|aD ?_
 refine aZ (fun g41=>?_) (fun g41=>?_)
 refine hw_sr (aB y_move<|?_)
 replace OB0:=OB0.leO m26.1
 refine bL aG (aA1 kr OB0) (fun v27 h27 q27=>?_)
 clear kr
 obtain ⟨l27,rfl,⟨m27,p27,kr,pa27,pb27⟩,pr27⟩:=q27
 have z27:=m27.1
 replace B1:=((B1.mod m2 (by omega)).mod m26 (by omega)).mod m27 (by omega)
 refine bO (aK aP B1) (fun v28 h28 q28=>?_)
 obtain ⟨rfl,q28⟩:=q28
 have z28:=q28.1
 replace B1:=q28.2.2
 refine aD ?_
 refine aF (ah1 2) fun r=>?_
 refine hw_rr ?_
 refine aQ rfl (.cons (bT B1) .nil) ?_
 replace le:=((((le.tl lb1).t m2).t m26).t m27).s q28
 replace kr:=kr.setO q28 (ir hO1) (by omega)
 exact ⟨⟨_,_⟩,by first | rfl | (simp_all [oneOf] <;> omega),⟨le,_,RD.weakO kr (fun x hx=>(il hO1 hx)) mbr,by omega,by omega⟩,⟨by dsimp only; first | omega | decide,by dsimp only; first | omega | decide⟩⟩
 refine aM ?_
 refine hw_sr (aB (y_build rfl rfl)<|?_)
 replace B1:=(B1.mod m2 (by omega)).mod m26 (by omega)
 refine bO (aK aP B1) (fun v29 h29 q29=>?_)
 obtain ⟨rfl,q29⟩:=q29
 have z29:=q29.1
 replace B1:=q29.2.2
 refine aD ?_
 refine hw_rr ?_
 refine aQ rfl (.cons (bT B1) .nil) ?_
 replace le:=(((le.tl lb1).t m2).t m26).s q29
 replace kr:=kr.setO q29 (ir hO1) (by omega)
 exact ⟨⟨_,_⟩,by first | rfl | (simp_all [oneOf] <;> omega),⟨le,_,RD.weakO kr (fun x hx=>(il hO1 hx)) mbr,by omega,by omega⟩,⟨by dsimp only; first | omega | decide,by dsimp only; first | omega | decide⟩⟩
set_option maxHeartbeats 1000000 in
theorem zO {w0:World} {h:Heap} {O:Nat → Prop} {br:Nat} {p:Int} (kr:RD h O br p) (OB0:OB h O) (hp:p + 1800 ≤ 1000000000:=by omega):HC (XM PP) w0 14 [.pointer (some ⟨br,0,none⟩)].toArray h (fun rv h'=>∃ (ol:List Letter) ,pD O br p 1800 h h' ∧ Rs h' O rv ol∧ol.length ≤ 100):=by
 replace le:=Mod.refl (S:=(· = br)) h
 have brl:=kr.lt
 have mbr:=kr.mem
 have OBe:=OB0
 refine aV 61 [(0,.pointer (some ⟨br,0,none⟩))] Tryz.func14 (fun r=>?_)
 refine hw_sr (aB aC<|aD ?_)
 refine aI ?_
 refine hw_sr (aB y_move<|bL aG (eH kr OB0) (fun v1 h1 q1=>?_))
 clear kr
 obtain ⟨i1,rfl,⟨m1,p1,kr,pa1,pb1⟩,pr1⟩:=q1
 have z1:=m1.1
 refine aB bM<|aD ?_
 refine aZ (fun g12=>?_) (fun g12=>?_)
 refine hw_sr (aB y_move<|?_)
 replace OB0:=OB0.leO m1.1
 refine bL aG (aCW kr OB0) (fun v2 h2 q2=>?_)
 clear kr
 obtain ⟨v2,t2,s2_1,s2_2,s2_3,rfl,⟨m2,p2,kr,pa2,pb2⟩,k2_1,k2_2,k2_3,pr2⟩:=q2
 have z2:=m2.1
 obtain ⟨A3,n3,c3,rfl⟩:=k2_1.frm
 obtain ⟨A4,n4,c4,rfl⟩:=k2_2.frm
 obtain ⟨A5,n5,c5,rfl⟩:=k2_3.frm
 obtain ⟨_,_,_,_⟩:=pr2
 refine aB y_move<|aB aL<|aB aL<|bE aY (fun v6 h6 q6=>?_)
 obtain ⟨b6,O6,rfl,eb6,sb6,lb6,B6,hO6⟩:=q6.ox O
 refine bE aY (fun v7 h7 q7=>?_)
 obtain ⟨b7,O7,rfl,eb7,sb7,lb7,B7,hO7⟩:=q7.ox O6
 replace B6:=B6.le lb7
 refine bO (aK aP B6) (fun v8 h8 q8=>?_)
 obtain ⟨rfl,q8⟩:=q8
 have z8:=q8.1
 replace B6:=q8.2.2
 replace B7:=B7.s q8
 refine bO (aK aP B7) (fun v9 h9 q9=>?_)
 replace kr:=((kr.newB lb6 hO6 eb6).newB lb7 hO7 eb7).setO q8 (il hO7 (ir hO6)) (by omega)
 obtain ⟨rfl,q9⟩:=q9
 have z9:=q9.1
 replace B7:=q9.2.2
 refine aD ?_
 refine aF (ah3 0 3 4) fun r=>?_
 replace OB0:=((((OB0.leO m2.1).newB sb6 hO6 eb6).newB sb7 hO7 eb7).leO (Nat.le_of_eq q8.1.symm)).leO (Nat.le_of_eq q9.1.symm)
 refine dH (fun (gx:(List Letter) × (Nat → Prop) × Int × Value)=>match gx with | (jol14,OL12,p12,js10)=>[(0,.pointer (some ⟨br,0,none⟩)),(7,js10)]) (fun (gx:(List Letter) × (Nat → Prop) × Int × Value) (h' : Heap)=>match gx with | (jol14,OL12,p12,js10)=>Mod (· = br) h h' ∧ Mod O7 h9 h' ∧ (∀ x,OL12 x → O7 x ∨ h9.size ≤ x)∧(∀ x,O7 x → OL12 x)∧OB h' OL12∧Blk h' b6 [vi v2.now,(.slice A3 n3 c3)] 52∧OL12 b6∧Blk h' b7 [vb t2.seat.on,vb t2.seat.bad,vi t2.seat.work.at',(.slice A4 n4 c4),(.slice A5 n5 c5),vb t2.skip,vb t2.gone,vs t2.inn] 60∧OL12 b7∧RD h' OL12 br p12∧p2 ≤ p12∧p12 ≤ p2 + 1 + 200∧Rs h' OL12 js10 ((cJ v2 t2 jol14).2.2)∧((jol14.length ≤ 8∧∀ x ∈ jol14,x.body.length ≤ 2000))) ?_ ?_
 replace lr12:=Mod.refl (S:=O7) h9
 replace lx12:∀ x,O7 x → O7 x ∨ h9.size ≤ x:=fun x hx=>.inl hx
 replace k2_1:=(((k2_1.nb lb6 hO6 eb6).nb lb7 hO7 eb7).st q8 (il hO7 (ir hO6))).st q9 (ir hO7)
 have Rk2_1:=k2_1
 replace k2_2:=(((k2_2.nb lb6 hO6 eb6).nb lb7 hO7 eb7).st q8 (il hO7 (ir hO6))).st q9 (ir hO7)
 have Rk2_2:=k2_2
 replace k2_3:=(((k2_3.nb lb6 hO6 eb6).nb lb7 hO7 eb7).st q8 (il hO7 (ir hO6))).st q9 (ir hO7)
 have Rk2_3:=k2_3
 obtain ⟨S13,hS13⟩:=mkO (fun b=>h9.size ≤ b ∨ b = br)
 replace mR13:Mod S13 h9 h9:=Mod.refl _
 have hd13:∀ b,b < h9.size∧¬ O7 b → ¬ S13 b:=fun b hb hs=>(fun hs=>hs.elim (fun hs=>absurd hb.1 (Nat.not_lt.2 hs)) (fun hs=>hb.2 (hs ▸ (il hO7 (il hO6 mbr))))) ((hS13 b).1 hs)
 replace kr:=kr.setO q9 (ir hO7) (by omega)
 replace B6:=B6.s q9
 refine bH 19 S13 bC (ha2_y 0 rfl (fun _ mm=>(y_loadB (Blk.mod B6 mm (fun hs=>by rcases (hS13 _).1 hs with hs | hs <;> first | omega)) 0 _))<|ha2_y 1 rfl (fun _ mm=>(y_loadB (Blk.mod B7 mm (fun hs=>by rcases (hS13 _).1 hs with hs | hs <;> first | omega)) 0 _))<|ha2_p 2 rfl (fun _=>y_move)<|ha2_y 3 rfl (fun _ mm=>(y_loadB (Blk.mod B6 mm (fun hs=>by rcases (hS13 _).1 hs with hs | hs <;> first | omega)) 0 _))<|ha2_y 4 rfl (fun _ mm=>(y_loadB (Blk.mod B7 mm (fun hs=>by rcases (hS13 _).1 hs with hs | hs <;> first | omega)) 0 _))<|ha2_p 5 rfl (fun _=>y_move)<|?_)
 refine aAi 6 14 15 ?_ ?_ ?_
 refine cB rfl (bA (l:=([3,5,8,1,0]:List Int))) (fun v14 h14 q14=>?_)
 obtain ⟨lb14,ow14,sb14⟩:=q14
 have z14:=lb14.1
 refine ⟨Le.mod lb14,?_⟩
 replace k14:Rs _ O7 _ _:=Ow.end ⟨ow14,⟨by simp,by simp [Ok.ok]⟩⟩ OB0
 obtain ⟨A15,n15,c15,rfl⟩:=k14.frm
 refine aAi 7 14 15 ?_ ?_ ?_
 replace kr:=kr.leO lb14
 replace OB0:=OB0.leO lb14.1
 refine cC rfl aG (jH kr k14 OB0) (fun v16 h16 q16=>?_)
 clear kr
 obtain ⟨n16,rfl,⟨m16,p16,kr,pa16,pb16⟩,pr16⟩:=q16
 have z16:=m16.1
 have ms:=Mod.mono (S':=S13) m16 (fun x _ e=>(hS13 x).2 (by simp [e]))
 refine ⟨ms,?_⟩
 have ib16:0 ≤ n16∧n16 ≤ 8:=jM (by decide) pr16
 refine aAi 8 14 15 ?_ ?_ ?_
 replace k2_1:=(k2_1.le lb14).md m16 (fun _ e=>e ▸ (il hO7 (il hO6 mbr)))
 replace k2_2:=(k2_2.le lb14).md m16 (fun _ e=>e ▸ (il hO7 (il hO6 mbr)))
 replace k2_3:=(k2_3.le lb14).md m16 (fun _ e=>e ▸ (il hO7 (il hO6 mbr)))
 replace OB0:=OB0.leO m16.1
 refine cC rfl aG (eK (v:=v2) (t:=t2) kr k2_1 k2_2 k2_3 OB0) (fun v17 h17 q17=>?_)
 clear kr
 obtain ⟨ol17,⟨m17,p17,kr,pa17,pb17⟩,k17_1,pr17⟩:=q17
 have z17:=m17.1
 replace mR13:=(mR13.tl lb14).t ms
 replace lr12:=(lr12.tl lb14).t (Mod.mono m16 (fun x _ e=>e ▸ (il hO7 (il hO6 mbr))))
 have ms:=Mod.mono (S':=S13) m17 (fun x _ e=>(hS13 x).2 (by simp [e]))
 refine ⟨ms,?_⟩
 obtain ⟨A18,n18,c18,rfl⟩:=k17_1.frm
 replace lr12:=lr12.t (Mod.mono m17 (fun x _ e=>e ▸ (il hO7 (il hO6 mbr))))
 have hb_pr17:=fun x hx=>Nat.le_trans (pr17.2 x hx) (by decide:2000 ≤ 1000000)
 refine aAi 9 14 15 ?_ ?_ ?_
 replace k2_1:=k2_1.md m17 (fun _ e=>e ▸ (il hO7 (il hO6 mbr)))
 replace k2_2:=k2_2.md m17 (fun _ e=>e ▸ (il hO7 (il hO6 mbr)))
 replace k2_3:=k2_3.md m17 (fun _ e=>e ▸ (il hO7 (il hO6 mbr)))
 replace OB0:=OB0.leO m17.1
 refine cC rfl aG (dM (v:=v2) (t:=t2) k2_1 k2_2 k2_3 k17_1 OB0) (fun v19 h19 q19=>?_)
 obtain ⟨s19_1,s19_2,s19_3,s19_4,rfl,lc19,k19_1,k19_2,k19_3,k19_4⟩:=q19
 have z19:=lc19.1
 refine ⟨Le.mod lc19,?_⟩
 obtain ⟨A20,n20,c20,rfl⟩:=k19_1.frm
 obtain ⟨A21,n21,c21,rfl⟩:=k19_2.frm
 obtain ⟨A22,n22,c22,rfl⟩:=k19_3.frm
 replace k19_4:=k19_4.end OB0
 obtain ⟨A23,n23,c23,rfl⟩:=k19_4.frm
 refine ha2_p 10 rfl (fun _=>y_move)<|ha2_p 11 rfl (fun _=>aL)<|ha2_p 12 rfl (fun _=>aL)<|ha2_p 13 rfl (fun _=>aL)<|?_
 refine dU 14 15 ?_ ?_
 refine cB rfl aY (fun v24 h24 q24=>?_)
 obtain ⟨b24,O24,rfl,eb24,sb24,lb24,B24,hO24⟩:=q24.ox O7
 refine ⟨Le.mod lb24,?_⟩
 replace lx12:=laB lx12 hO24 (by omega)
 refine aW 15 (cB rfl aY (fun v25 h25 q25=>?_))
 obtain ⟨b25,O25,rfl,eb25,sb25,lb25,B25,hO25⟩:=q25.ox O24
 refine ⟨Le.mod lb25,?_⟩
 replace lx12:=laB lx12 hO25 (by omega)
 replace B24:=B24.le lb25
 refine cV 16 rfl (aK aP B24) (fun v26 h26 q26=>?_)
 obtain ⟨rfl,q26⟩:=q26
 have z26:=q26.1
 replace B24:=q26.2.2
 replace B25:=B25.s q26
 refine cV 17 rfl (aK aP B25) (fun v27 h27 q27=>?_)
 replace kr:=(((kr.leO lc19).newB lb24 hO24 eb24).newB lb25 hO25 eb25).setO q26 (il hO25 (ir hO24)) (by omega)
 obtain ⟨rfl,q27⟩:=q27
 have z27:=q27.1
 replace B25:=q27.2.2
 replace kr:=kr.setO q27 (ir hO25) (by omega)
 refine bG 18 rfl (fun _=>aC)<|bD ?_
 replace le:=(((((((((((((le.t m1).t m2).tl lb6).tl lb7).s q8).s q9).tl lb14).t m16).t m17).tl lc19).tl lb24).tl lb25).s q26).s q27
 replace B6:=(((((((B6.le lb14).mod m16 (by omega)).mod m17 (by omega)).le lc19).le lb24).le lb25).s q26).s q27
 replace B7:=(((((((B7.le lb14).mod m16 (by omega)).mod m17 (by omega)).le lc19).le lb24).le lb25).s q26).s q27
 replace lr12:=((((lr12.tl lc19).tl lb24).tl lb25).s q26).s q27
 replace k19_4:=(((k19_4.nb lb24 hO24 eb24).nb lb25 hO25 eb25).st q26 (il hO25 (ir hO24))).st q27 (ir hO25)
 replace OB0:=((((OB0.leO lc19.1).newB sb24 hO24 eb24).newB sb25 hO25 eb25).leO (Nat.le_of_eq q26.1.symm)).leO (Nat.le_of_eq q27.1.symm)
 exact ⟨(ol17,O25,p17,(.slice A23 n23 c23)),ag2,⟨le,lr12,lx12,fun x hx=>(il hO25 (il hO24 hx)),OB0,B6,(il hO25 (il hO24 (il hO7 (ir hO6)))),B7,(il hO25 (il hO24 (ir hO7))),kr,by omega,by omega,k19_4.cast (by first | rfl | simp_all),pr17⟩⟩
 refine cB rfl aY (fun v28 h28 q28=>?_)
 obtain ⟨b28,O28,rfl,eb28,sb28,lb28,B28,hO28⟩:=q28.ox O7
 refine ⟨Le.mod lb28,?_⟩
 replace lx12:=laB lx12 hO28 (by omega)
 refine aW 14 (cB rfl aY (fun v29 h29 q29=>?_))
 obtain ⟨b29,O29,rfl,eb29,sb29,lb29,B29,hO29⟩:=q29.ox O28
 refine ⟨Le.mod lb29,?_⟩
 replace lx12:=laB lx12 hO29 (by omega)
 refine cV 16 rfl (aK aP B29) (fun v30 h30 q30=>?_)
 obtain ⟨rfl,q30⟩:=q30
 have z30:=q30.1
 replace B29:=q30.2.2
 replace B28:=(B28.le lb29).s q30
 refine cV 17 rfl (aK aP B28) (fun v31 h31 q31=>?_)
 replace kr:=(((kr.leO lc19).newB lb28 hO28 eb28).newB lb29 hO29 eb29).setO q30 (ir hO29) (by omega)
 obtain ⟨rfl,q31⟩:=q31
 have z31:=q31.1
 replace B28:=q31.2.2
 replace kr:=kr.setO q31 (il hO29 (ir hO28)) (by omega)
 refine bG 18 rfl (fun _=>aC)<|bD ?_
 replace le:=(((((((((((((le.t m1).t m2).tl lb6).tl lb7).s q8).s q9).tl lb14).t m16).t m17).tl lc19).tl lb28).tl lb29).s q30).s q31
 replace B6:=(((((((B6.le lb14).mod m16 (by omega)).mod m17 (by omega)).le lc19).le lb28).le lb29).s q30).s q31
 replace B7:=(((((((B7.le lb14).mod m16 (by omega)).mod m17 (by omega)).le lc19).le lb28).le lb29).s q30).s q31
 replace lr12:=((((lr12.tl lc19).tl lb28).tl lb29).s q30).s q31
 replace k19_4:=(((k19_4.nb lb28 hO28 eb28).nb lb29 hO29 eb29).st q30 (ir hO29)).st q31 (il hO29 (ir hO28))
 replace OB0:=((((OB0.leO lc19.1).newB sb28 hO28 eb28).newB sb29 hO29 eb29).leO (Nat.le_of_eq q30.1.symm)).leO (Nat.le_of_eq q31.1.symm)
 exact ⟨(ol17,O29,p17,(.slice A23 n23 c23)),ag2,⟨le,lr12,lx12,fun x hx=>(il hO29 (il hO28 hx)),OB0,B6,(il hO29 (il hO28 (il hO7 (ir hO6)))),B7,(il hO29 (il hO28 (ir hO7))),kr,by omega,by omega,k19_4.cast (by first | rfl | simp_all),pr17⟩⟩
 refine cB rfl aY (fun v32 h32 q32=>?_)
 obtain ⟨b32,O32,rfl,eb32,sb32,lb32,B32,hO32⟩:=q32.ox O7
 refine ⟨Le.mod lb32,?_⟩
 replace lx12:=laB lx12 hO32 (by omega)
 refine dU 9 15 ?_ ?_
 replace k2_1:=(k2_1.md m17 (fun _ e=>e ▸ (il hO7 (il hO6 mbr)))).nb lb32 hO32 eb32
 replace k2_2:=(k2_2.md m17 (fun _ e=>e ▸ (il hO7 (il hO6 mbr)))).nb lb32 hO32 eb32
 replace k2_3:=(k2_3.md m17 (fun _ e=>e ▸ (il hO7 (il hO6 mbr)))).nb lb32 hO32 eb32
 replace k17_1:=k17_1.nb lb32 hO32 eb32
 replace OB0:=(OB0.leO m17.1).newB sb32 hO32 eb32
 refine cC rfl aG (dM (v:=v2) (t:=t2) k2_1 k2_2 k2_3 k17_1 OB0) (fun v33 h33 q33=>?_)
 obtain ⟨s33_1,s33_2,s33_3,s33_4,rfl,lc33,k33_1,k33_2,k33_3,k33_4⟩:=q33
 have z33:=lc33.1
 refine ⟨Le.mod lc33,?_⟩
 obtain ⟨A34,n34,c34,rfl⟩:=k33_1.frm
 obtain ⟨A35,n35,c35,rfl⟩:=k33_2.frm
 obtain ⟨A36,n36,c36,rfl⟩:=k33_3.frm
 replace k33_4:=k33_4.end OB0
 obtain ⟨A37,n37,c37,rfl⟩:=k33_4.frm
 refine ha2_p 10 rfl (fun _=>y_move)<|ha2_p 11 rfl (fun _=>aL)<|ha2_p 12 rfl (fun _=>aL)<|ha2_p 13 rfl (fun _=>aL)<|?_
 refine aW 15 (cB rfl aY (fun v38 h38 q38=>?_))
 obtain ⟨b38,O38,rfl,eb38,sb38,lb38,B38,hO38⟩:=q38.ox O32
 refine ⟨Le.mod lb38,?_⟩
 replace lx12:=laB lx12 hO38 (by omega)
 replace B32:=(B32.le lc33).le lb38
 refine cV 16 rfl (aK aP B32) (fun v39 h39 q39=>?_)
 obtain ⟨rfl,q39⟩:=q39
 have z39:=q39.1
 replace B32:=q39.2.2
 replace B38:=B38.s q39
 refine cV 17 rfl (aK aP B38) (fun v40 h40 q40=>?_)
 replace kr:=(((kr.newB lb32 hO32 eb32).leO lc33).newB lb38 hO38 eb38).setO q39 (il hO38 (ir hO32)) (by omega)
 obtain ⟨rfl,q40⟩:=q40
 have z40:=q40.1
 replace B38:=q40.2.2
 replace kr:=kr.setO q40 (ir hO38) (by omega)
 refine bG 18 rfl (fun _=>aC)<|bD ?_
 replace le:=(((((((((((((le.t m1).t m2).tl lb6).tl lb7).s q8).s q9).tl lb14).t m16).t m17).tl lb32).tl lc33).tl lb38).s q39).s q40
 replace B6:=(((((((B6.le lb14).mod m16 (by omega)).mod m17 (by omega)).le lb32).le lc33).le lb38).s q39).s q40
 replace B7:=(((((((B7.le lb14).mod m16 (by omega)).mod m17 (by omega)).le lb32).le lc33).le lb38).s q39).s q40
 replace lr12:=((((lr12.tl lb32).tl lc33).tl lb38).s q39).s q40
 replace k33_4:=((k33_4.nb lb38 hO38 eb38).st q39 (il hO38 (ir hO32))).st q40 (ir hO38)
 replace OB0:=(((OB0.leO lc33.1).newB sb38 hO38 eb38).leO (Nat.le_of_eq q39.1.symm)).leO (Nat.le_of_eq q40.1.symm)
 exact ⟨(ol17,O38,p17,(.slice A37 n37 c37)),ag2,⟨le,lr12,lx12,fun x hx=>(il hO38 (il hO32 hx)),OB0,B6,(il hO38 (il hO32 (il hO7 (ir hO6)))),B7,(il hO38 (il hO32 (ir hO7))),kr,by omega,by omega,k33_4.cast (by first | rfl | simp_all),pr17⟩⟩
 refine cB rfl aY (fun v41 h41 q41=>?_)
 obtain ⟨b41,O41,rfl,eb41,sb41,lb41,B41,hO41⟩:=q41.ox O32
 refine ⟨Le.mod lb41,?_⟩
 replace lx12:=laB lx12 hO41 (by omega)
 refine aW 9 (?_)
 replace k2_1:=((k2_1.md m17 (fun _ e=>e ▸ (il hO7 (il hO6 mbr)))).nb lb32 hO32 eb32).nb lb41 hO41 eb41
 replace k2_2:=((k2_2.md m17 (fun _ e=>e ▸ (il hO7 (il hO6 mbr)))).nb lb32 hO32 eb32).nb lb41 hO41 eb41
 replace k2_3:=((k2_3.md m17 (fun _ e=>e ▸ (il hO7 (il hO6 mbr)))).nb lb32 hO32 eb32).nb lb41 hO41 eb41
 replace k17_1:=(k17_1.nb lb32 hO32 eb32).nb lb41 hO41 eb41
 replace OB0:=((OB0.leO m17.1).newB sb32 hO32 eb32).newB sb41 hO41 eb41
 refine cC rfl aG (dM (v:=v2) (t:=t2) k2_1 k2_2 k2_3 k17_1 OB0) (fun v42 h42 q42=>?_)
 obtain ⟨s42_1,s42_2,s42_3,s42_4,rfl,lc42,k42_1,k42_2,k42_3,k42_4⟩:=q42
 have z42:=lc42.1
 refine ⟨Le.mod lc42,?_⟩
 obtain ⟨A43,n43,c43,rfl⟩:=k42_1.frm
 obtain ⟨A44,n44,c44,rfl⟩:=k42_2.frm
 obtain ⟨A45,n45,c45,rfl⟩:=k42_3.frm
 replace k42_4:=k42_4.end OB0
 obtain ⟨A46,n46,c46,rfl⟩:=k42_4.frm
 replace B32:=(B32.le lb41).le lc42
 refine bG 10 rfl (fun _=>y_move)<|bG 11 rfl (fun _=>aL)<|bG 12 rfl (fun _=>aL)<|bG 13 rfl (fun _=>aL)<|cV 16 rfl (aK aP B32) (fun v47 h47 q47=>?_)
 obtain ⟨rfl,q47⟩:=q47
 have z47:=q47.1
 replace B32:=q47.2.2
 replace B41:=(B41.le lc42).s q47
 refine cV 17 rfl (aK aP B41) (fun v48 h48 q48=>?_)
 replace kr:=(((kr.newB lb32 hO32 eb32).newB lb41 hO41 eb41).leO lc42).setO q47 (il hO41 (ir hO32)) (by omega)
 obtain ⟨rfl,q48⟩:=q48
 have z48:=q48.1
 replace B41:=q48.2.2
 replace kr:=kr.setO q48 (ir hO41) (by omega)
 refine bG 18 rfl (fun _=>aC)<|bD ?_
 replace le:=(((((((((((((le.t m1).t m2).tl lb6).tl lb7).s q8).s q9).tl lb14).t m16).t m17).tl lb32).tl lb41).tl lc42).s q47).s q48
 replace B6:=(((((((B6.le lb14).mod m16 (by omega)).mod m17 (by omega)).le lb32).le lb41).le lc42).s q47).s q48
 replace B7:=(((((((B7.le lb14).mod m16 (by omega)).mod m17 (by omega)).le lb32).le lb41).le lc42).s q47).s q48
 replace lr12:=((((lr12.tl lb32).tl lb41).tl lc42).s q47).s q48
 replace k42_4:=(k42_4.st q47 (il hO41 (ir hO32))).st q48 (ir hO41)
 replace OB0:=OB0.leO (h':=h48) (by omega)
 exact ⟨(ol17,O41,p17,(.slice A46 n46 c46)),ag2,⟨le,lr12,lx12,fun x hx=>(il hO41 (il hO32 hx)),OB0,B6,(il hO41 (il hO32 (il hO7 (ir hO6)))),B7,(il hO41 (il hO32 (ir hO7))),kr,by omega,by omega,k42_4.cast (by first | rfl | simp_all),pr17⟩⟩
 refine cB rfl aY (fun v49 h49 q49=>?_)
 obtain ⟨b49,O49,rfl,eb49,sb49,lb49,B49,hO49⟩:=q49.ox O7
 refine ⟨Le.mod lb49,?_⟩
 replace lx12:=laB lx12 hO49 (by omega)
 refine dU 9 14 ?_ ?_
 replace k2_1:=(k2_1.md m17 (fun _ e=>e ▸ (il hO7 (il hO6 mbr)))).nb lb49 hO49 eb49
 replace k2_2:=(k2_2.md m17 (fun _ e=>e ▸ (il hO7 (il hO6 mbr)))).nb lb49 hO49 eb49
 replace k2_3:=(k2_3.md m17 (fun _ e=>e ▸ (il hO7 (il hO6 mbr)))).nb lb49 hO49 eb49
 replace k17_1:=k17_1.nb lb49 hO49 eb49
 replace OB0:=(OB0.leO m17.1).newB sb49 hO49 eb49
 refine cC rfl aG (dM (v:=v2) (t:=t2) k2_1 k2_2 k2_3 k17_1 OB0) (fun v50 h50 q50=>?_)
 obtain ⟨s50_1,s50_2,s50_3,s50_4,rfl,lc50,k50_1,k50_2,k50_3,k50_4⟩:=q50
 have z50:=lc50.1
 refine ⟨Le.mod lc50,?_⟩
 obtain ⟨A51,n51,c51,rfl⟩:=k50_1.frm
 obtain ⟨A52,n52,c52,rfl⟩:=k50_2.frm
 obtain ⟨A53,n53,c53,rfl⟩:=k50_3.frm
 replace k50_4:=k50_4.end OB0
 obtain ⟨A54,n54,c54,rfl⟩:=k50_4.frm
 refine ha2_p 10 rfl (fun _=>y_move)<|ha2_p 11 rfl (fun _=>aL)<|ha2_p 12 rfl (fun _=>aL)<|ha2_p 13 rfl (fun _=>aL)<|?_
 refine aW 14 (cB rfl aY (fun v55 h55 q55=>?_))
 obtain ⟨b55,O55,rfl,eb55,sb55,lb55,B55,hO55⟩:=q55.ox O49
 refine ⟨Le.mod lb55,?_⟩
 replace lx12:=laB lx12 hO55 (by omega)
 refine cV 16 rfl (aK aP B55) (fun v56 h56 q56=>?_)
 obtain ⟨rfl,q56⟩:=q56
 have z56:=q56.1
 replace B55:=q56.2.2
 replace B49:=((B49.le lc50).le lb55).s q56
 refine cV 17 rfl (aK aP B49) (fun v57 h57 q57=>?_)
 replace kr:=(((kr.newB lb49 hO49 eb49).leO lc50).newB lb55 hO55 eb55).setO q56 (ir hO55) (by omega)
 obtain ⟨rfl,q57⟩:=q57
 have z57:=q57.1
 replace B49:=q57.2.2
 replace kr:=kr.setO q57 (il hO55 (ir hO49)) (by omega)
 refine bG 18 rfl (fun _=>aC)<|bD ?_
 replace le:=(((((((((((((le.t m1).t m2).tl lb6).tl lb7).s q8).s q9).tl lb14).t m16).t m17).tl lb49).tl lc50).tl lb55).s q56).s q57
 replace B6:=(((((((B6.le lb14).mod m16 (by omega)).mod m17 (by omega)).le lb49).le lc50).le lb55).s q56).s q57
 replace B7:=(((((((B7.le lb14).mod m16 (by omega)).mod m17 (by omega)).le lb49).le lc50).le lb55).s q56).s q57
 replace lr12:=((((lr12.tl lb49).tl lc50).tl lb55).s q56).s q57
 replace k50_4:=((k50_4.nb lb55 hO55 eb55).st q56 (ir hO55)).st q57 (il hO55 (ir hO49))
 replace OB0:=(((OB0.leO lc50.1).newB sb55 hO55 eb55).leO (Nat.le_of_eq q56.1.symm)).leO (Nat.le_of_eq q57.1.symm)
 exact ⟨(ol17,O55,p17,(.slice A54 n54 c54)),ag2,⟨le,lr12,lx12,fun x hx=>(il hO55 (il hO49 hx)),OB0,B6,(il hO55 (il hO49 (il hO7 (ir hO6)))),B7,(il hO55 (il hO49 (ir hO7))),kr,by omega,by omega,k50_4.cast (by first | rfl | simp_all),pr17⟩⟩
 refine cB rfl aY (fun v58 h58 q58=>?_)
 obtain ⟨b58,O58,rfl,eb58,sb58,lb58,B58,hO58⟩:=q58.ox O49
 refine ⟨Le.mod lb58,?_⟩
 replace lx12:=laB lx12 hO58 (by omega)
 refine aW 9 (?_)
 replace k2_1:=((k2_1.md m17 (fun _ e=>e ▸ (il hO7 (il hO6 mbr)))).nb lb49 hO49 eb49).nb lb58 hO58 eb58
 replace k2_2:=((k2_2.md m17 (fun _ e=>e ▸ (il hO7 (il hO6 mbr)))).nb lb49 hO49 eb49).nb lb58 hO58 eb58
 replace k2_3:=((k2_3.md m17 (fun _ e=>e ▸ (il hO7 (il hO6 mbr)))).nb lb49 hO49 eb49).nb lb58 hO58 eb58
 replace k17_1:=(k17_1.nb lb49 hO49 eb49).nb lb58 hO58 eb58
 replace OB0:=((OB0.leO m17.1).newB sb49 hO49 eb49).newB sb58 hO58 eb58
 refine cC rfl aG (dM (v:=v2) (t:=t2) k2_1 k2_2 k2_3 k17_1 OB0) (fun v59 h59 q59=>?_)
 obtain ⟨s59_1,s59_2,s59_3,s59_4,rfl,lc59,k59_1,k59_2,k59_3,k59_4⟩:=q59
 have z59:=lc59.1
 refine ⟨Le.mod lc59,?_⟩
 obtain ⟨A60,n60,c60,rfl⟩:=k59_1.frm
 obtain ⟨A61,n61,c61,rfl⟩:=k59_2.frm
 obtain ⟨A62,n62,c62,rfl⟩:=k59_3.frm
 replace k59_4:=k59_4.end OB0
 obtain ⟨A63,n63,c63,rfl⟩:=k59_4.frm
 replace B58:=B58.le lc59
 refine bG 10 rfl (fun _=>y_move)<|bG 11 rfl (fun _=>aL)<|bG 12 rfl (fun _=>aL)<|bG 13 rfl (fun _=>aL)<|cV 16 rfl (aK aP B58) (fun v64 h64 q64=>?_)
 obtain ⟨rfl,q64⟩:=q64
 have z64:=q64.1
 replace B58:=q64.2.2
 replace B49:=((B49.le lb58).le lc59).s q64
 refine cV 17 rfl (aK aP B49) (fun v65 h65 q65=>?_)
 replace kr:=(((kr.newB lb49 hO49 eb49).newB lb58 hO58 eb58).leO lc59).setO q64 (ir hO58) (by omega)
 obtain ⟨rfl,q65⟩:=q65
 have z65:=q65.1
 replace B49:=q65.2.2
 replace kr:=kr.setO q65 (il hO58 (ir hO49)) (by omega)
 refine bG 18 rfl (fun _=>aC)<|bD ?_
 replace le:=(((((((((((((le.t m1).t m2).tl lb6).tl lb7).s q8).s q9).tl lb14).t m16).t m17).tl lb49).tl lb58).tl lc59).s q64).s q65
 replace B6:=(((((((B6.le lb14).mod m16 (by omega)).mod m17 (by omega)).le lb49).le lb58).le lc59).s q64).s q65
 replace B7:=(((((((B7.le lb14).mod m16 (by omega)).mod m17 (by omega)).le lb49).le lb58).le lc59).s q64).s q65
 replace lr12:=((((lr12.tl lb49).tl lb58).tl lc59).s q64).s q65
 replace k59_4:=(k59_4.st q64 (ir hO58)).st q65 (il hO58 (ir hO49))
 replace OB0:=OB0.leO (h':=h65) (by omega)
 exact ⟨(ol17,O58,p17,(.slice A63 n63 c63)),ag2,⟨le,lr12,lx12,fun x hx=>(il hO58 (il hO49 hx)),OB0,B6,(il hO58 (il hO49 (il hO7 (ir hO6)))),B7,(il hO58 (il hO49 (ir hO7))),kr,by omega,by omega,k59_4.cast (by first | rfl | simp_all),pr17⟩⟩
 refine cB rfl aY (fun v66 h66 q66=>?_)
 obtain ⟨b66,O66,rfl,eb66,sb66,lb66,B66,hO66⟩:=q66.ox O7
 refine ⟨Le.mod lb66,?_⟩
 replace lx12:=laB lx12 hO66 (by omega)
 refine dU 8 15 ?_ ?_
 replace kr:=kr.newB lb66 hO66 eb66
 replace k2_1:=((k2_1.le lb14).md m16 (fun _ e=>e ▸ (il hO7 (il hO6 mbr)))).nb lb66 hO66 eb66
 replace k2_2:=((k2_2.le lb14).md m16 (fun _ e=>e ▸ (il hO7 (il hO6 mbr)))).nb lb66 hO66 eb66
 replace k2_3:=((k2_3.le lb14).md m16 (fun _ e=>e ▸ (il hO7 (il hO6 mbr)))).nb lb66 hO66 eb66
 replace OB0:=(OB0.leO m16.1).newB sb66 hO66 eb66
 refine cC rfl aG (eK (v:=v2) (t:=t2) kr k2_1 k2_2 k2_3 OB0) (fun v67 h67 q67=>?_)
 clear kr
 obtain ⟨ol67,⟨m67,p67,kr,pa67,pb67⟩,k67_1,pr67⟩:=q67
 have z67:=m67.1
 replace mR13:=((mR13.tl lb14).t ms).tl lb66
 replace lr12:=((lr12.tl lb14).t (Mod.mono m16 (fun x _ e=>e ▸ (il hO7 (il hO6 mbr))))).tl lb66
 have ms:=Mod.mono (S':=S13) m67 (fun x _ e=>(hS13 x).2 (by simp [e]))
 refine ⟨ms,?_⟩
 obtain ⟨A68,n68,c68,rfl⟩:=k67_1.frm
 replace lr12:=lr12.t (Mod.mono m67 (fun x _ e=>e ▸ (il hO7 (il hO6 mbr))))
 have hb_pr67:=fun x hx=>Nat.le_trans (pr67.2 x hx) (by decide:2000 ≤ 1000000)
 refine dU 9 15 ?_ ?_
 replace k2_1:=k2_1.md m67 (fun _ e=>e ▸ (il hO66 (il hO7 (il hO6 mbr))))
 replace k2_2:=k2_2.md m67 (fun _ e=>e ▸ (il hO66 (il hO7 (il hO6 mbr))))
 replace k2_3:=k2_3.md m67 (fun _ e=>e ▸ (il hO66 (il hO7 (il hO6 mbr))))
 replace OB0:=OB0.leO m67.1
 refine cC rfl aG (dM (v:=v2) (t:=t2) k2_1 k2_2 k2_3 k67_1 OB0) (fun v69 h69 q69=>?_)
 obtain ⟨s69_1,s69_2,s69_3,s69_4,rfl,lc69,k69_1,k69_2,k69_3,k69_4⟩:=q69
 have z69:=lc69.1
 refine ⟨Le.mod lc69,?_⟩
 obtain ⟨A70,n70,c70,rfl⟩:=k69_1.frm
 obtain ⟨A71,n71,c71,rfl⟩:=k69_2.frm
 obtain ⟨A72,n72,c72,rfl⟩:=k69_3.frm
 replace k69_4:=k69_4.end OB0
 obtain ⟨A73,n73,c73,rfl⟩:=k69_4.frm
 refine ha2_p 10 rfl (fun _=>y_move)<|ha2_p 11 rfl (fun _=>aL)<|ha2_p 12 rfl (fun _=>aL)<|ha2_p 13 rfl (fun _=>aL)<|?_
 refine aW 15 (cB rfl aY (fun v74 h74 q74=>?_))
 obtain ⟨b74,O74,rfl,eb74,sb74,lb74,B74,hO74⟩:=q74.ox O66
 refine ⟨Le.mod lb74,?_⟩
 replace lx12:=laB lx12 hO74 (by omega)
 replace B66:=((B66.mod m67 (by omega)).le lc69).le lb74
 refine cV 16 rfl (aK aP B66) (fun v75 h75 q75=>?_)
 obtain ⟨rfl,q75⟩:=q75
 have z75:=q75.1
 replace B66:=q75.2.2
 replace B74:=B74.s q75
 refine cV 17 rfl (aK aP B74) (fun v76 h76 q76=>?_)
 replace kr:=((kr.leO lc69).newB lb74 hO74 eb74).setO q75 (il hO74 (ir hO66)) (by omega)
 obtain ⟨rfl,q76⟩:=q76
 have z76:=q76.1
 replace B74:=q76.2.2
 replace kr:=kr.setO q76 (ir hO74) (by omega)
 refine bG 18 rfl (fun _=>aC)<|bD ?_
 replace le:=(((((((((((((le.t m1).t m2).tl lb6).tl lb7).s q8).s q9).tl lb14).t m16).tl lb66).t m67).tl lc69).tl lb74).s q75).s q76
 replace B6:=(((((((B6.le lb14).mod m16 (by omega)).le lb66).mod m67 (by omega)).le lc69).le lb74).s q75).s q76
 replace B7:=(((((((B7.le lb14).mod m16 (by omega)).le lb66).mod m67 (by omega)).le lc69).le lb74).s q75).s q76
 replace lr12:=(((lr12.tl lc69).tl lb74).s q75).s q76
 replace k69_4:=((k69_4.nb lb74 hO74 eb74).st q75 (il hO74 (ir hO66))).st q76 (ir hO74)
 replace OB0:=(((OB0.leO lc69.1).newB sb74 hO74 eb74).leO (Nat.le_of_eq q75.1.symm)).leO (Nat.le_of_eq q76.1.symm)
 exact ⟨(ol67,O74,p67,(.slice A73 n73 c73)),ag2,⟨le,lr12,lx12,fun x hx=>(il hO74 (il hO66 hx)),OB0,B6,(il hO74 (il hO66 (il hO7 (ir hO6)))),B7,(il hO74 (il hO66 (ir hO7))),kr,by omega,by omega,k69_4.cast (by first | rfl | simp_all),pr67⟩⟩
 refine cB rfl aY (fun v77 h77 q77=>?_)
 obtain ⟨b77,O77,rfl,eb77,sb77,lb77,B77,hO77⟩:=q77.ox O66
 refine ⟨Le.mod lb77,?_⟩
 replace lx12:=laB lx12 hO77 (by omega)
 refine aW 9 (?_)
 replace k2_1:=(k2_1.md m67 (fun _ e=>e ▸ (il hO66 (il hO7 (il hO6 mbr))))).nb lb77 hO77 eb77
 replace k2_2:=(k2_2.md m67 (fun _ e=>e ▸ (il hO66 (il hO7 (il hO6 mbr))))).nb lb77 hO77 eb77
 replace k2_3:=(k2_3.md m67 (fun _ e=>e ▸ (il hO66 (il hO7 (il hO6 mbr))))).nb lb77 hO77 eb77
 replace k67_1:=k67_1.nb lb77 hO77 eb77
 replace OB0:=(OB0.leO m67.1).newB sb77 hO77 eb77
 refine cC rfl aG (dM (v:=v2) (t:=t2) k2_1 k2_2 k2_3 k67_1 OB0) (fun v78 h78 q78=>?_)
 obtain ⟨s78_1,s78_2,s78_3,s78_4,rfl,lc78,k78_1,k78_2,k78_3,k78_4⟩:=q78
 have z78:=lc78.1
 refine ⟨Le.mod lc78,?_⟩
 obtain ⟨A79,n79,c79,rfl⟩:=k78_1.frm
 obtain ⟨A80,n80,c80,rfl⟩:=k78_2.frm
 obtain ⟨A81,n81,c81,rfl⟩:=k78_3.frm
 replace k78_4:=k78_4.end OB0
 obtain ⟨A82,n82,c82,rfl⟩:=k78_4.frm
 replace B66:=((B66.mod m67 (by omega)).le lb77).le lc78
 refine bG 10 rfl (fun _=>y_move)<|bG 11 rfl (fun _=>aL)<|bG 12 rfl (fun _=>aL)<|bG 13 rfl (fun _=>aL)<|cV 16 rfl (aK aP B66) (fun v83 h83 q83=>?_)
 obtain ⟨rfl,q83⟩:=q83
 have z83:=q83.1
 replace B66:=q83.2.2
 replace B77:=(B77.le lc78).s q83
 refine cV 17 rfl (aK aP B77) (fun v84 h84 q84=>?_)
 replace kr:=((kr.newB lb77 hO77 eb77).leO lc78).setO q83 (il hO77 (ir hO66)) (by omega)
 obtain ⟨rfl,q84⟩:=q84
 have z84:=q84.1
 replace B77:=q84.2.2
 replace kr:=kr.setO q84 (ir hO77) (by omega)
 refine bG 18 rfl (fun _=>aC)<|bD ?_
 replace le:=(((((((((((((le.t m1).t m2).tl lb6).tl lb7).s q8).s q9).tl lb14).t m16).tl lb66).t m67).tl lb77).tl lc78).s q83).s q84
 replace B6:=(((((((B6.le lb14).mod m16 (by omega)).le lb66).mod m67 (by omega)).le lb77).le lc78).s q83).s q84
 replace B7:=(((((((B7.le lb14).mod m16 (by omega)).le lb66).mod m67 (by omega)).le lb77).le lc78).s q83).s q84
 replace lr12:=(((lr12.tl lb77).tl lc78).s q83).s q84
 replace k78_4:=(k78_4.st q83 (il hO77 (ir hO66))).st q84 (ir hO77)
 replace OB0:=OB0.leO (h':=h84) (by omega)
 exact ⟨(ol67,O77,p67,(.slice A82 n82 c82)),ag2,⟨le,lr12,lx12,fun x hx=>(il hO77 (il hO66 hx)),OB0,B6,(il hO77 (il hO66 (il hO7 (ir hO6)))),B7,(il hO77 (il hO66 (ir hO7))),kr,by omega,by omega,k78_4.cast (by first | rfl | simp_all),pr67⟩⟩
 refine cB rfl aY (fun v85 h85 q85=>?_)
 obtain ⟨b85,O85,rfl,eb85,sb85,lb85,B85,hO85⟩:=q85.ox O66
 refine ⟨Le.mod lb85,?_⟩
 replace lx12:=laB lx12 hO85 (by omega)
 refine aW 8 (?_)
 replace kr:=(kr.newB lb66 hO66 eb66).newB lb85 hO85 eb85
 replace k2_1:=(((k2_1.le lb14).md m16 (fun _ e=>e ▸ (il hO7 (il hO6 mbr)))).nb lb66 hO66 eb66).nb lb85 hO85 eb85
 replace k2_2:=(((k2_2.le lb14).md m16 (fun _ e=>e ▸ (il hO7 (il hO6 mbr)))).nb lb66 hO66 eb66).nb lb85 hO85 eb85
 replace k2_3:=(((k2_3.le lb14).md m16 (fun _ e=>e ▸ (il hO7 (il hO6 mbr)))).nb lb66 hO66 eb66).nb lb85 hO85 eb85
 replace OB0:=((OB0.leO m16.1).newB sb66 hO66 eb66).newB sb85 hO85 eb85
 refine cC rfl aG (eK (v:=v2) (t:=t2) kr k2_1 k2_2 k2_3 OB0) (fun v86 h86 q86=>?_)
 clear kr
 obtain ⟨ol86,⟨m86,p86,kr,pa86,pb86⟩,k86_1,pr86⟩:=q86
 have z86:=m86.1
 replace mR13:=(((mR13.tl lb14).t ms).tl lb66).tl lb85
 replace lr12:=(((lr12.tl lb14).t (Mod.mono m16 (fun x _ e=>e ▸ (il hO7 (il hO6 mbr))))).tl lb66).tl lb85
 have ms:=Mod.mono (S':=S13) m86 (fun x _ e=>(hS13 x).2 (by simp [e]))
 refine ⟨ms,?_⟩
 obtain ⟨A87,n87,c87,rfl⟩:=k86_1.frm
 replace lr12:=lr12.t (Mod.mono m86 (fun x _ e=>e ▸ (il hO7 (il hO6 mbr))))
 have hb_pr86:=fun x hx=>Nat.le_trans (pr86.2 x hx) (by decide:2000 ≤ 1000000)
 refine aW 9 (?_)
 replace k2_1:=k2_1.md m86 (fun _ e=>e ▸ (il hO85 (il hO66 (il hO7 (il hO6 mbr)))))
 replace k2_2:=k2_2.md m86 (fun _ e=>e ▸ (il hO85 (il hO66 (il hO7 (il hO6 mbr)))))
 replace k2_3:=k2_3.md m86 (fun _ e=>e ▸ (il hO85 (il hO66 (il hO7 (il hO6 mbr)))))
 replace OB0:=OB0.leO m86.1
 refine cC rfl aG (dM (v:=v2) (t:=t2) k2_1 k2_2 k2_3 k86_1 OB0) (fun v88 h88 q88=>?_)
 obtain ⟨s88_1,s88_2,s88_3,s88_4,rfl,lc88,k88_1,k88_2,k88_3,k88_4⟩:=q88
 have z88:=lc88.1
 refine ⟨Le.mod lc88,?_⟩
 obtain ⟨A89,n89,c89,rfl⟩:=k88_1.frm
 obtain ⟨A90,n90,c90,rfl⟩:=k88_2.frm
 obtain ⟨A91,n91,c91,rfl⟩:=k88_3.frm
 replace k88_4:=k88_4.end OB0
 obtain ⟨A92,n92,c92,rfl⟩:=k88_4.frm
 replace B66:=((B66.le lb85).mod m86 (by omega)).le lc88
 refine bG 10 rfl (fun _=>y_move)<|bG 11 rfl (fun _=>aL)<|bG 12 rfl (fun _=>aL)<|bG 13 rfl (fun _=>aL)<|cV 16 rfl (aK aP B66) (fun v93 h93 q93=>?_)
 obtain ⟨rfl,q93⟩:=q93
 have z93:=q93.1
 replace B66:=q93.2.2
 replace B85:=((B85.mod m86 (by omega)).le lc88).s q93
 refine cV 17 rfl (aK aP B85) (fun v94 h94 q94=>?_)
 replace kr:=(kr.leO lc88).setO q93 (il hO85 (ir hO66)) (by omega)
 obtain ⟨rfl,q94⟩:=q94
 have z94:=q94.1
 replace B85:=q94.2.2
 replace kr:=kr.setO q94 (ir hO85) (by omega)
 refine bG 18 rfl (fun _=>aC)<|bD ?_
 replace le:=(((((((((((((le.t m1).t m2).tl lb6).tl lb7).s q8).s q9).tl lb14).t m16).tl lb66).tl lb85).t m86).tl lc88).s q93).s q94
 replace B6:=(((((((B6.le lb14).mod m16 (by omega)).le lb66).le lb85).mod m86 (by omega)).le lc88).s q93).s q94
 replace B7:=(((((((B7.le lb14).mod m16 (by omega)).le lb66).le lb85).mod m86 (by omega)).le lc88).s q93).s q94
 replace lr12:=((lr12.tl lc88).s q93).s q94
 replace k88_4:=(k88_4.st q93 (il hO85 (ir hO66))).st q94 (ir hO85)
 replace OB0:=OB0.leO (h':=h94) (by omega)
 exact ⟨(ol86,O85,p86,(.slice A92 n92 c92)),ag2,⟨le,lr12,lx12,fun x hx=>(il hO85 (il hO66 hx)),OB0,B6,(il hO85 (il hO66 (il hO7 (ir hO6)))),B7,(il hO85 (il hO66 (ir hO7))),kr,by omega,by omega,k88_4.cast (by first | rfl | simp_all),pr86⟩⟩
 refine cB rfl aY (fun v95 h95 q95=>?_)
 obtain ⟨b95,O95,rfl,eb95,sb95,lb95,B95,hO95⟩:=q95.ox O7
 refine ⟨Le.mod lb95,?_⟩
 replace lx12:=laB lx12 hO95 (by omega)
 refine dU 8 14 ?_ ?_
 replace kr:=kr.newB lb95 hO95 eb95
 replace k2_1:=((k2_1.le lb14).md m16 (fun _ e=>e ▸ (il hO7 (il hO6 mbr)))).nb lb95 hO95 eb95
 replace k2_2:=((k2_2.le lb14).md m16 (fun _ e=>e ▸ (il hO7 (il hO6 mbr)))).nb lb95 hO95 eb95
 replace k2_3:=((k2_3.le lb14).md m16 (fun _ e=>e ▸ (il hO7 (il hO6 mbr)))).nb lb95 hO95 eb95
 replace OB0:=(OB0.leO m16.1).newB sb95 hO95 eb95
 refine cC rfl aG (eK (v:=v2) (t:=t2) kr k2_1 k2_2 k2_3 OB0) (fun v96 h96 q96=>?_)
 clear kr
 obtain ⟨ol96,⟨m96,p96,kr,pa96,pb96⟩,k96_1,pr96⟩:=q96
 have z96:=m96.1
 replace mR13:=((mR13.tl lb14).t ms).tl lb95
 replace lr12:=((lr12.tl lb14).t (Mod.mono m16 (fun x _ e=>e ▸ (il hO7 (il hO6 mbr))))).tl lb95
 have ms:=Mod.mono (S':=S13) m96 (fun x _ e=>(hS13 x).2 (by simp [e]))
 refine ⟨ms,?_⟩
 obtain ⟨A97,n97,c97,rfl⟩:=k96_1.frm
 replace lr12:=lr12.t (Mod.mono m96 (fun x _ e=>e ▸ (il hO7 (il hO6 mbr))))
 have hb_pr96:=fun x hx=>Nat.le_trans (pr96.2 x hx) (by decide:2000 ≤ 1000000)
 refine dU 9 14 ?_ ?_
 replace k2_1:=k2_1.md m96 (fun _ e=>e ▸ (il hO95 (il hO7 (il hO6 mbr))))
 replace k2_2:=k2_2.md m96 (fun _ e=>e ▸ (il hO95 (il hO7 (il hO6 mbr))))
 replace k2_3:=k2_3.md m96 (fun _ e=>e ▸ (il hO95 (il hO7 (il hO6 mbr))))
 replace OB0:=OB0.leO m96.1
 refine cC rfl aG (dM (v:=v2) (t:=t2) k2_1 k2_2 k2_3 k96_1 OB0) (fun v98 h98 q98=>?_)
 obtain ⟨s98_1,s98_2,s98_3,s98_4,rfl,lc98,k98_1,k98_2,k98_3,k98_4⟩:=q98
 have z98:=lc98.1
 refine ⟨Le.mod lc98,?_⟩
 obtain ⟨A99,n99,c99,rfl⟩:=k98_1.frm
 obtain ⟨A100,n100,c100,rfl⟩:=k98_2.frm
 obtain ⟨A101,n101,c101,rfl⟩:=k98_3.frm
 replace k98_4:=k98_4.end OB0
 obtain ⟨A102,n102,c102,rfl⟩:=k98_4.frm
 refine ha2_p 10 rfl (fun _=>y_move)<|ha2_p 11 rfl (fun _=>aL)<|ha2_p 12 rfl (fun _=>aL)<|ha2_p 13 rfl (fun _=>aL)<|?_
 refine aW 14 (cB rfl aY (fun v103 h103 q103=>?_))
 obtain ⟨b103,O103,rfl,eb103,sb103,lb103,B103,hO103⟩:=q103.ox O95
 refine ⟨Le.mod lb103,?_⟩
 replace lx12:=laB lx12 hO103 (by omega)
 refine cV 16 rfl (aK aP B103) (fun v104 h104 q104=>?_)
 obtain ⟨rfl,q104⟩:=q104
 have z104:=q104.1
 replace B103:=q104.2.2
 replace B95:=(((B95.mod m96 (by omega)).le lc98).le lb103).s q104
 refine cV 17 rfl (aK aP B95) (fun v105 h105 q105=>?_)
 replace kr:=((kr.leO lc98).newB lb103 hO103 eb103).setO q104 (ir hO103) (by omega)
 obtain ⟨rfl,q105⟩:=q105
 have z105:=q105.1
 replace B95:=q105.2.2
 replace kr:=kr.setO q105 (il hO103 (ir hO95)) (by omega)
 refine bG 18 rfl (fun _=>aC)<|bD ?_
 replace le:=(((((((((((((le.t m1).t m2).tl lb6).tl lb7).s q8).s q9).tl lb14).t m16).tl lb95).t m96).tl lc98).tl lb103).s q104).s q105
 replace B6:=(((((((B6.le lb14).mod m16 (by omega)).le lb95).mod m96 (by omega)).le lc98).le lb103).s q104).s q105
 replace B7:=(((((((B7.le lb14).mod m16 (by omega)).le lb95).mod m96 (by omega)).le lc98).le lb103).s q104).s q105
 replace lr12:=(((lr12.tl lc98).tl lb103).s q104).s q105
 replace k98_4:=((k98_4.nb lb103 hO103 eb103).st q104 (ir hO103)).st q105 (il hO103 (ir hO95))
 replace OB0:=(((OB0.leO lc98.1).newB sb103 hO103 eb103).leO (Nat.le_of_eq q104.1.symm)).leO (Nat.le_of_eq q105.1.symm)
 exact ⟨(ol96,O103,p96,(.slice A102 n102 c102)),ag2,⟨le,lr12,lx12,fun x hx=>(il hO103 (il hO95 hx)),OB0,B6,(il hO103 (il hO95 (il hO7 (ir hO6)))),B7,(il hO103 (il hO95 (ir hO7))),kr,by omega,by omega,k98_4.cast (by first | rfl | simp_all),pr96⟩⟩
 refine cB rfl aY (fun v106 h106 q106=>?_)
 obtain ⟨b106,O106,rfl,eb106,sb106,lb106,B106,hO106⟩:=q106.ox O95
 refine ⟨Le.mod lb106,?_⟩
 replace lx12:=laB lx12 hO106 (by omega)
 refine aW 9 (?_)
 replace k2_1:=(k2_1.md m96 (fun _ e=>e ▸ (il hO95 (il hO7 (il hO6 mbr))))).nb lb106 hO106 eb106
 replace k2_2:=(k2_2.md m96 (fun _ e=>e ▸ (il hO95 (il hO7 (il hO6 mbr))))).nb lb106 hO106 eb106
 replace k2_3:=(k2_3.md m96 (fun _ e=>e ▸ (il hO95 (il hO7 (il hO6 mbr))))).nb lb106 hO106 eb106
 replace k96_1:=k96_1.nb lb106 hO106 eb106
 replace OB0:=(OB0.leO m96.1).newB sb106 hO106 eb106
 refine cC rfl aG (dM (v:=v2) (t:=t2) k2_1 k2_2 k2_3 k96_1 OB0) (fun v107 h107 q107=>?_)
 obtain ⟨s107_1,s107_2,s107_3,s107_4,rfl,lc107,k107_1,k107_2,k107_3,k107_4⟩:=q107
 have z107:=lc107.1
 refine ⟨Le.mod lc107,?_⟩
 obtain ⟨A108,n108,c108,rfl⟩:=k107_1.frm
 obtain ⟨A109,n109,c109,rfl⟩:=k107_2.frm
 obtain ⟨A110,n110,c110,rfl⟩:=k107_3.frm
 replace k107_4:=k107_4.end OB0
 obtain ⟨A111,n111,c111,rfl⟩:=k107_4.frm
 replace B106:=B106.le lc107
 refine bG 10 rfl (fun _=>y_move)<|bG 11 rfl (fun _=>aL)<|bG 12 rfl (fun _=>aL)<|bG 13 rfl (fun _=>aL)<|cV 16 rfl (aK aP B106) (fun v112 h112 q112=>?_)
 obtain ⟨rfl,q112⟩:=q112
 have z112:=q112.1
 replace B106:=q112.2.2
 replace B95:=(((B95.mod m96 (by omega)).le lb106).le lc107).s q112
 refine cV 17 rfl (aK aP B95) (fun v113 h113 q113=>?_)
 replace kr:=((kr.newB lb106 hO106 eb106).leO lc107).setO q112 (ir hO106) (by omega)
 obtain ⟨rfl,q113⟩:=q113
 have z113:=q113.1
 replace B95:=q113.2.2
 replace kr:=kr.setO q113 (il hO106 (ir hO95)) (by omega)
 refine bG 18 rfl (fun _=>aC)<|bD ?_
 replace le:=(((((((((((((le.t m1).t m2).tl lb6).tl lb7).s q8).s q9).tl lb14).t m16).tl lb95).t m96).tl lb106).tl lc107).s q112).s q113
 replace B6:=(((((((B6.le lb14).mod m16 (by omega)).le lb95).mod m96 (by omega)).le lb106).le lc107).s q112).s q113
 replace B7:=(((((((B7.le lb14).mod m16 (by omega)).le lb95).mod m96 (by omega)).le lb106).le lc107).s q112).s q113
 replace lr12:=(((lr12.tl lb106).tl lc107).s q112).s q113
 replace k107_4:=(k107_4.st q112 (ir hO106)).st q113 (il hO106 (ir hO95))
 replace OB0:=OB0.leO (h':=h113) (by omega)
 exact ⟨(ol96,O106,p96,(.slice A111 n111 c111)),ag2,⟨le,lr12,lx12,fun x hx=>(il hO106 (il hO95 hx)),OB0,B6,(il hO106 (il hO95 (il hO7 (ir hO6)))),B7,(il hO106 (il hO95 (ir hO7))),kr,by omega,by omega,k107_4.cast (by first | rfl | simp_all),pr96⟩⟩
 refine cB rfl aY (fun v114 h114 q114=>?_)
 obtain ⟨b114,O114,rfl,eb114,sb114,lb114,B114,hO114⟩:=q114.ox O95
 refine ⟨Le.mod lb114,?_⟩
 replace lx12:=laB lx12 hO114 (by omega)
 refine aW 8 (?_)
 replace kr:=(kr.newB lb95 hO95 eb95).newB lb114 hO114 eb114
 replace k2_1:=(((k2_1.le lb14).md m16 (fun _ e=>e ▸ (il hO7 (il hO6 mbr)))).nb lb95 hO95 eb95).nb lb114 hO114 eb114
 replace k2_2:=(((k2_2.le lb14).md m16 (fun _ e=>e ▸ (il hO7 (il hO6 mbr)))).nb lb95 hO95 eb95).nb lb114 hO114 eb114
 replace k2_3:=(((k2_3.le lb14).md m16 (fun _ e=>e ▸ (il hO7 (il hO6 mbr)))).nb lb95 hO95 eb95).nb lb114 hO114 eb114
 replace OB0:=((OB0.leO m16.1).newB sb95 hO95 eb95).newB sb114 hO114 eb114
 refine cC rfl aG (eK (v:=v2) (t:=t2) kr k2_1 k2_2 k2_3 OB0) (fun v115 h115 q115=>?_)
 clear kr
 obtain ⟨ol115,⟨m115,p115,kr,pa115,pb115⟩,k115_1,pr115⟩:=q115
 have z115:=m115.1
 replace mR13:=(((mR13.tl lb14).t ms).tl lb95).tl lb114
 replace lr12:=(((lr12.tl lb14).t (Mod.mono m16 (fun x _ e=>e ▸ (il hO7 (il hO6 mbr))))).tl lb95).tl lb114
 have ms:=Mod.mono (S':=S13) m115 (fun x _ e=>(hS13 x).2 (by simp [e]))
 refine ⟨ms,?_⟩
 obtain ⟨A116,n116,c116,rfl⟩:=k115_1.frm
 replace lr12:=lr12.t (Mod.mono m115 (fun x _ e=>e ▸ (il hO7 (il hO6 mbr))))
 have hb_pr115:=fun x hx=>Nat.le_trans (pr115.2 x hx) (by decide:2000 ≤ 1000000)
 refine aW 9 (?_)
 replace k2_1:=k2_1.md m115 (fun _ e=>e ▸ (il hO114 (il hO95 (il hO7 (il hO6 mbr)))))
 replace k2_2:=k2_2.md m115 (fun _ e=>e ▸ (il hO114 (il hO95 (il hO7 (il hO6 mbr)))))
 replace k2_3:=k2_3.md m115 (fun _ e=>e ▸ (il hO114 (il hO95 (il hO7 (il hO6 mbr)))))
 replace OB0:=OB0.leO m115.1
 refine cC rfl aG (dM (v:=v2) (t:=t2) k2_1 k2_2 k2_3 k115_1 OB0) (fun v117 h117 q117=>?_)
 obtain ⟨s117_1,s117_2,s117_3,s117_4,rfl,lc117,k117_1,k117_2,k117_3,k117_4⟩:=q117
 have z117:=lc117.1
 refine ⟨Le.mod lc117,?_⟩
 obtain ⟨A118,n118,c118,rfl⟩:=k117_1.frm
 obtain ⟨A119,n119,c119,rfl⟩:=k117_2.frm
 obtain ⟨A120,n120,c120,rfl⟩:=k117_3.frm
 replace k117_4:=k117_4.end OB0
 obtain ⟨A121,n121,c121,rfl⟩:=k117_4.frm
 replace B114:=(B114.mod m115 (by omega)).le lc117
 refine bG 10 rfl (fun _=>y_move)<|bG 11 rfl (fun _=>aL)<|bG 12 rfl (fun _=>aL)<|bG 13 rfl (fun _=>aL)<|cV 16 rfl (aK aP B114) (fun v122 h122 q122=>?_)
 obtain ⟨rfl,q122⟩:=q122
 have z122:=q122.1
 replace B114:=q122.2.2
 replace B95:=(((B95.le lb114).mod m115 (by omega)).le lc117).s q122
 refine cV 17 rfl (aK aP B95) (fun v123 h123 q123=>?_)
 replace kr:=(kr.leO lc117).setO q122 (ir hO114) (by omega)
 obtain ⟨rfl,q123⟩:=q123
 have z123:=q123.1
 replace B95:=q123.2.2
 replace kr:=kr.setO q123 (il hO114 (ir hO95)) (by omega)
 refine bG 18 rfl (fun _=>aC)<|bD ?_
 replace le:=(((((((((((((le.t m1).t m2).tl lb6).tl lb7).s q8).s q9).tl lb14).t m16).tl lb95).tl lb114).t m115).tl lc117).s q122).s q123
 replace B6:=(((((((B6.le lb14).mod m16 (by omega)).le lb95).le lb114).mod m115 (by omega)).le lc117).s q122).s q123
 replace B7:=(((((((B7.le lb14).mod m16 (by omega)).le lb95).le lb114).mod m115 (by omega)).le lc117).s q122).s q123
 replace lr12:=((lr12.tl lc117).s q122).s q123
 replace k117_4:=(k117_4.st q122 (ir hO114)).st q123 (il hO114 (ir hO95))
 replace OB0:=OB0.leO (h':=h123) (by omega)
 exact ⟨(ol115,O114,p115,(.slice A121 n121 c121)),ag2,⟨le,lr12,lx12,fun x hx=>(il hO114 (il hO95 hx)),OB0,B6,(il hO114 (il hO95 (il hO7 (ir hO6)))),B7,(il hO114 (il hO95 (ir hO7))),kr,by omega,by omega,k117_4.cast (by first | rfl | simp_all),pr115⟩⟩
 refine cB rfl aY (fun v124 h124 q124=>?_)
 obtain ⟨b124,O124,rfl,eb124,sb124,lb124,B124,hO124⟩:=q124.ox O7
 refine ⟨Le.mod lb124,?_⟩
 replace lx12:=laB lx12 hO124 (by omega)
 refine dU 7 15 ?_ ?_
 replace kr:=(kr.leO lb14).newB lb124 hO124 eb124
 replace k14:=k14.nb lb124 hO124 eb124
 replace OB0:=(OB0.leO lb14.1).newB sb124 hO124 eb124
 refine cC rfl aG (jH kr k14 OB0) (fun v125 h125 q125=>?_)
 clear kr
 obtain ⟨n125,rfl,⟨m125,p125,kr,pa125,pb125⟩,pr125⟩:=q125
 have z125:=m125.1
 have ms:=Mod.mono (S':=S13) m125 (fun x _ e=>(hS13 x).2 (by simp [e]))
 refine ⟨ms,?_⟩
 have ib125:0 ≤ n125∧n125 ≤ 8:=jM (by decide) pr125
 refine dU 8 15 ?_ ?_
 replace k2_1:=((k2_1.le lb14).nb lb124 hO124 eb124).md m125 (fun _ e=>e ▸ (il hO124 (il hO7 (il hO6 mbr))))
 replace k2_2:=((k2_2.le lb14).nb lb124 hO124 eb124).md m125 (fun _ e=>e ▸ (il hO124 (il hO7 (il hO6 mbr))))
 replace k2_3:=((k2_3.le lb14).nb lb124 hO124 eb124).md m125 (fun _ e=>e ▸ (il hO124 (il hO7 (il hO6 mbr))))
 replace OB0:=OB0.leO m125.1
 refine cC rfl aG (eK (v:=v2) (t:=t2) kr k2_1 k2_2 k2_3 OB0) (fun v126 h126 q126=>?_)
 clear kr
 obtain ⟨ol126,⟨m126,p126,kr,pa126,pb126⟩,k126_1,pr126⟩:=q126
 have z126:=m126.1
 replace mR13:=((mR13.tl lb14).tl lb124).t ms
 replace lr12:=((lr12.tl lb14).tl lb124).t (Mod.mono m125 (fun x _ e=>e ▸ (il hO7 (il hO6 mbr))))
 have ms:=Mod.mono (S':=S13) m126 (fun x _ e=>(hS13 x).2 (by simp [e]))
 refine ⟨ms,?_⟩
 obtain ⟨A127,n127,c127,rfl⟩:=k126_1.frm
 replace lr12:=lr12.t (Mod.mono m126 (fun x _ e=>e ▸ (il hO7 (il hO6 mbr))))
 have hb_pr126:=fun x hx=>Nat.le_trans (pr126.2 x hx) (by decide:2000 ≤ 1000000)
 refine dU 9 15 ?_ ?_
 replace k2_1:=k2_1.md m126 (fun _ e=>e ▸ (il hO124 (il hO7 (il hO6 mbr))))
 replace k2_2:=k2_2.md m126 (fun _ e=>e ▸ (il hO124 (il hO7 (il hO6 mbr))))
 replace k2_3:=k2_3.md m126 (fun _ e=>e ▸ (il hO124 (il hO7 (il hO6 mbr))))
 replace OB0:=OB0.leO m126.1
 refine cC rfl aG (dM (v:=v2) (t:=t2) k2_1 k2_2 k2_3 k126_1 OB0) (fun v128 h128 q128=>?_)
 obtain ⟨s128_1,s128_2,s128_3,s128_4,rfl,lc128,k128_1,k128_2,k128_3,k128_4⟩:=q128
 have z128:=lc128.1
 refine ⟨Le.mod lc128,?_⟩
 obtain ⟨A129,n129,c129,rfl⟩:=k128_1.frm
 obtain ⟨A130,n130,c130,rfl⟩:=k128_2.frm
 obtain ⟨A131,n131,c131,rfl⟩:=k128_3.frm
 replace k128_4:=k128_4.end OB0
 obtain ⟨A132,n132,c132,rfl⟩:=k128_4.frm
 refine ha2_p 10 rfl (fun _=>y_move)<|ha2_p 11 rfl (fun _=>aL)<|ha2_p 12 rfl (fun _=>aL)<|ha2_p 13 rfl (fun _=>aL)<|?_
 refine aW 15 (cB rfl aY (fun v133 h133 q133=>?_))
 obtain ⟨b133,O133,rfl,eb133,sb133,lb133,B133,hO133⟩:=q133.ox O124
 refine ⟨Le.mod lb133,?_⟩
 replace lx12:=laB lx12 hO133 (by omega)
 replace B124:=(((B124.mod m125 (by omega)).mod m126 (by omega)).le lc128).le lb133
 refine cV 16 rfl (aK aP B124) (fun v134 h134 q134=>?_)
 obtain ⟨rfl,q134⟩:=q134
 have z134:=q134.1
 replace B124:=q134.2.2
 replace B133:=B133.s q134
 refine cV 17 rfl (aK aP B133) (fun v135 h135 q135=>?_)
 replace kr:=((kr.leO lc128).newB lb133 hO133 eb133).setO q134 (il hO133 (ir hO124)) (by omega)
 obtain ⟨rfl,q135⟩:=q135
 have z135:=q135.1
 replace B133:=q135.2.2
 replace kr:=kr.setO q135 (ir hO133) (by omega)
 refine bG 18 rfl (fun _=>aC)<|bD ?_
 replace le:=(((((((((((((le.t m1).t m2).tl lb6).tl lb7).s q8).s q9).tl lb14).tl lb124).t m125).t m126).tl lc128).tl lb133).s q134).s q135
 replace B6:=(((((((B6.le lb14).le lb124).mod m125 (by omega)).mod m126 (by omega)).le lc128).le lb133).s q134).s q135
 replace B7:=(((((((B7.le lb14).le lb124).mod m125 (by omega)).mod m126 (by omega)).le lc128).le lb133).s q134).s q135
 replace lr12:=(((lr12.tl lc128).tl lb133).s q134).s q135
 replace k128_4:=((k128_4.nb lb133 hO133 eb133).st q134 (il hO133 (ir hO124))).st q135 (ir hO133)
 replace OB0:=(((OB0.leO lc128.1).newB sb133 hO133 eb133).leO (Nat.le_of_eq q134.1.symm)).leO (Nat.le_of_eq q135.1.symm)
 exact ⟨(ol126,O133,p126,(.slice A132 n132 c132)),ag2,⟨le,lr12,lx12,fun x hx=>(il hO133 (il hO124 hx)),OB0,B6,(il hO133 (il hO124 (il hO7 (ir hO6)))),B7,(il hO133 (il hO124 (ir hO7))),kr,by omega,by omega,k128_4.cast (by first | rfl | simp_all),pr126⟩⟩
 refine cB rfl aY (fun v136 h136 q136=>?_)
 obtain ⟨b136,O136,rfl,eb136,sb136,lb136,B136,hO136⟩:=q136.ox O124
 refine ⟨Le.mod lb136,?_⟩
 replace lx12:=laB lx12 hO136 (by omega)
 refine aW 9 (?_)
 replace k2_1:=(k2_1.md m126 (fun _ e=>e ▸ (il hO124 (il hO7 (il hO6 mbr))))).nb lb136 hO136 eb136
 replace k2_2:=(k2_2.md m126 (fun _ e=>e ▸ (il hO124 (il hO7 (il hO6 mbr))))).nb lb136 hO136 eb136
 replace k2_3:=(k2_3.md m126 (fun _ e=>e ▸ (il hO124 (il hO7 (il hO6 mbr))))).nb lb136 hO136 eb136
 replace k126_1:=k126_1.nb lb136 hO136 eb136
 replace OB0:=(OB0.leO m126.1).newB sb136 hO136 eb136
 refine cC rfl aG (dM (v:=v2) (t:=t2) k2_1 k2_2 k2_3 k126_1 OB0) (fun v137 h137 q137=>?_)
 obtain ⟨s137_1,s137_2,s137_3,s137_4,rfl,lc137,k137_1,k137_2,k137_3,k137_4⟩:=q137
 have z137:=lc137.1
 refine ⟨Le.mod lc137,?_⟩
 obtain ⟨A138,n138,c138,rfl⟩:=k137_1.frm
 obtain ⟨A139,n139,c139,rfl⟩:=k137_2.frm
 obtain ⟨A140,n140,c140,rfl⟩:=k137_3.frm
 replace k137_4:=k137_4.end OB0
 obtain ⟨A141,n141,c141,rfl⟩:=k137_4.frm
 replace B124:=(((B124.mod m125 (by omega)).mod m126 (by omega)).le lb136).le lc137
 refine bG 10 rfl (fun _=>y_move)<|bG 11 rfl (fun _=>aL)<|bG 12 rfl (fun _=>aL)<|bG 13 rfl (fun _=>aL)<|cV 16 rfl (aK aP B124) (fun v142 h142 q142=>?_)
 obtain ⟨rfl,q142⟩:=q142
 have z142:=q142.1
 replace B124:=q142.2.2
 replace B136:=(B136.le lc137).s q142
 refine cV 17 rfl (aK aP B136) (fun v143 h143 q143=>?_)
 replace kr:=((kr.newB lb136 hO136 eb136).leO lc137).setO q142 (il hO136 (ir hO124)) (by omega)
 obtain ⟨rfl,q143⟩:=q143
 have z143:=q143.1
 replace B136:=q143.2.2
 replace kr:=kr.setO q143 (ir hO136) (by omega)
 refine bG 18 rfl (fun _=>aC)<|bD ?_
 replace le:=(((((((((((((le.t m1).t m2).tl lb6).tl lb7).s q8).s q9).tl lb14).tl lb124).t m125).t m126).tl lb136).tl lc137).s q142).s q143
 replace B6:=(((((((B6.le lb14).le lb124).mod m125 (by omega)).mod m126 (by omega)).le lb136).le lc137).s q142).s q143
 replace B7:=(((((((B7.le lb14).le lb124).mod m125 (by omega)).mod m126 (by omega)).le lb136).le lc137).s q142).s q143
 replace lr12:=(((lr12.tl lb136).tl lc137).s q142).s q143
 replace k137_4:=(k137_4.st q142 (il hO136 (ir hO124))).st q143 (ir hO136)
 replace OB0:=OB0.leO (h':=h143) (by omega)
 exact ⟨(ol126,O136,p126,(.slice A141 n141 c141)),ag2,⟨le,lr12,lx12,fun x hx=>(il hO136 (il hO124 hx)),OB0,B6,(il hO136 (il hO124 (il hO7 (ir hO6)))),B7,(il hO136 (il hO124 (ir hO7))),kr,by omega,by omega,k137_4.cast (by first | rfl | simp_all),pr126⟩⟩
 refine cB rfl aY (fun v144 h144 q144=>?_)
 obtain ⟨b144,O144,rfl,eb144,sb144,lb144,B144,hO144⟩:=q144.ox O124
 refine ⟨Le.mod lb144,?_⟩
 replace lx12:=laB lx12 hO144 (by omega)
 refine aW 8 (?_)
 replace kr:=kr.newB lb144 hO144 eb144
 replace k2_1:=(((k2_1.le lb14).nb lb124 hO124 eb124).md m125 (fun _ e=>e ▸ (il hO124 (il hO7 (il hO6 mbr))))).nb lb144 hO144 eb144
 replace k2_2:=(((k2_2.le lb14).nb lb124 hO124 eb124).md m125 (fun _ e=>e ▸ (il hO124 (il hO7 (il hO6 mbr))))).nb lb144 hO144 eb144
 replace k2_3:=(((k2_3.le lb14).nb lb124 hO124 eb124).md m125 (fun _ e=>e ▸ (il hO124 (il hO7 (il hO6 mbr))))).nb lb144 hO144 eb144
 replace OB0:=(OB0.leO m125.1).newB sb144 hO144 eb144
 refine cC rfl aG (eK (v:=v2) (t:=t2) kr k2_1 k2_2 k2_3 OB0) (fun v145 h145 q145=>?_)
 clear kr
 obtain ⟨ol145,⟨m145,p145,kr,pa145,pb145⟩,k145_1,pr145⟩:=q145
 have z145:=m145.1
 replace mR13:=(((mR13.tl lb14).tl lb124).t ms).tl lb144
 replace lr12:=(((lr12.tl lb14).tl lb124).t (Mod.mono m125 (fun x _ e=>e ▸ (il hO7 (il hO6 mbr))))).tl lb144
 have ms:=Mod.mono (S':=S13) m145 (fun x _ e=>(hS13 x).2 (by simp [e]))
 refine ⟨ms,?_⟩
 obtain ⟨A146,n146,c146,rfl⟩:=k145_1.frm
 replace lr12:=lr12.t (Mod.mono m145 (fun x _ e=>e ▸ (il hO7 (il hO6 mbr))))
 have hb_pr145:=fun x hx=>Nat.le_trans (pr145.2 x hx) (by decide:2000 ≤ 1000000)
 refine aW 9 (?_)
 replace k2_1:=k2_1.md m145 (fun _ e=>e ▸ (il hO144 (il hO124 (il hO7 (il hO6 mbr)))))
 replace k2_2:=k2_2.md m145 (fun _ e=>e ▸ (il hO144 (il hO124 (il hO7 (il hO6 mbr)))))
 replace k2_3:=k2_3.md m145 (fun _ e=>e ▸ (il hO144 (il hO124 (il hO7 (il hO6 mbr)))))
 replace OB0:=OB0.leO m145.1
 refine cC rfl aG (dM (v:=v2) (t:=t2) k2_1 k2_2 k2_3 k145_1 OB0) (fun v147 h147 q147=>?_)
 obtain ⟨s147_1,s147_2,s147_3,s147_4,rfl,lc147,k147_1,k147_2,k147_3,k147_4⟩:=q147
 have z147:=lc147.1
 refine ⟨Le.mod lc147,?_⟩
 obtain ⟨A148,n148,c148,rfl⟩:=k147_1.frm
 obtain ⟨A149,n149,c149,rfl⟩:=k147_2.frm
 obtain ⟨A150,n150,c150,rfl⟩:=k147_3.frm
 replace k147_4:=k147_4.end OB0
 obtain ⟨A151,n151,c151,rfl⟩:=k147_4.frm
 replace B124:=(((B124.mod m125 (by omega)).le lb144).mod m145 (by omega)).le lc147
 refine bG 10 rfl (fun _=>y_move)<|bG 11 rfl (fun _=>aL)<|bG 12 rfl (fun _=>aL)<|bG 13 rfl (fun _=>aL)<|cV 16 rfl (aK aP B124) (fun v152 h152 q152=>?_)
 obtain ⟨rfl,q152⟩:=q152
 have z152:=q152.1
 replace B124:=q152.2.2
 replace B144:=((B144.mod m145 (by omega)).le lc147).s q152
 refine cV 17 rfl (aK aP B144) (fun v153 h153 q153=>?_)
 replace kr:=(kr.leO lc147).setO q152 (il hO144 (ir hO124)) (by omega)
 obtain ⟨rfl,q153⟩:=q153
 have z153:=q153.1
 replace B144:=q153.2.2
 replace kr:=kr.setO q153 (ir hO144) (by omega)
 refine bG 18 rfl (fun _=>aC)<|bD ?_
 replace le:=(((((((((((((le.t m1).t m2).tl lb6).tl lb7).s q8).s q9).tl lb14).tl lb124).t m125).tl lb144).t m145).tl lc147).s q152).s q153
 replace B6:=(((((((B6.le lb14).le lb124).mod m125 (by omega)).le lb144).mod m145 (by omega)).le lc147).s q152).s q153
 replace B7:=(((((((B7.le lb14).le lb124).mod m125 (by omega)).le lb144).mod m145 (by omega)).le lc147).s q152).s q153
 replace lr12:=((lr12.tl lc147).s q152).s q153
 replace k147_4:=(k147_4.st q152 (il hO144 (ir hO124))).st q153 (ir hO144)
 replace OB0:=OB0.leO (h':=h153) (by omega)
 exact ⟨(ol145,O144,p145,(.slice A151 n151 c151)),ag2,⟨le,lr12,lx12,fun x hx=>(il hO144 (il hO124 hx)),OB0,B6,(il hO144 (il hO124 (il hO7 (ir hO6)))),B7,(il hO144 (il hO124 (ir hO7))),kr,by omega,by omega,k147_4.cast (by first | rfl | simp_all),pr145⟩⟩
 refine cB rfl aY (fun v154 h154 q154=>?_)
 obtain ⟨b154,O154,rfl,eb154,sb154,lb154,B154,hO154⟩:=q154.ox O124
 refine ⟨Le.mod lb154,?_⟩
 replace lx12:=laB lx12 hO154 (by omega)
 refine aW 7 (?_)
 replace kr:=((kr.leO lb14).newB lb124 hO124 eb124).newB lb154 hO154 eb154
 replace k14:=(k14.nb lb124 hO124 eb124).nb lb154 hO154 eb154
 replace OB0:=((OB0.leO lb14.1).newB sb124 hO124 eb124).newB sb154 hO154 eb154
 refine cC rfl aG (jH kr k14 OB0) (fun v155 h155 q155=>?_)
 clear kr
 obtain ⟨n155,rfl,⟨m155,p155,kr,pa155,pb155⟩,pr155⟩:=q155
 have z155:=m155.1
 have ms:=Mod.mono (S':=S13) m155 (fun x _ e=>(hS13 x).2 (by simp [e]))
 refine ⟨ms,?_⟩
 have ib155:0 ≤ n155∧n155 ≤ 8:=jM (by decide) pr155
 refine aW 8 (?_)
 replace k2_1:=(((k2_1.le lb14).nb lb124 hO124 eb124).nb lb154 hO154 eb154).md m155 (fun _ e=>e ▸ (il hO154 (il hO124 (il hO7 (il hO6 mbr)))))
 replace k2_2:=(((k2_2.le lb14).nb lb124 hO124 eb124).nb lb154 hO154 eb154).md m155 (fun _ e=>e ▸ (il hO154 (il hO124 (il hO7 (il hO6 mbr)))))
 replace k2_3:=(((k2_3.le lb14).nb lb124 hO124 eb124).nb lb154 hO154 eb154).md m155 (fun _ e=>e ▸ (il hO154 (il hO124 (il hO7 (il hO6 mbr)))))
 replace OB0:=OB0.leO m155.1
 refine cC rfl aG (eK (v:=v2) (t:=t2) kr k2_1 k2_2 k2_3 OB0) (fun v156 h156 q156=>?_)
 clear kr
 obtain ⟨ol156,⟨m156,p156,kr,pa156,pb156⟩,k156_1,pr156⟩:=q156
 have z156:=m156.1
 replace mR13:=(((mR13.tl lb14).tl lb124).tl lb154).t ms
 replace lr12:=(((lr12.tl lb14).tl lb124).tl lb154).t (Mod.mono m155 (fun x _ e=>e ▸ (il hO7 (il hO6 mbr))))
 have ms:=Mod.mono (S':=S13) m156 (fun x _ e=>(hS13 x).2 (by simp [e]))
 refine ⟨ms,?_⟩
 obtain ⟨A157,n157,c157,rfl⟩:=k156_1.frm
 replace lr12:=lr12.t (Mod.mono m156 (fun x _ e=>e ▸ (il hO7 (il hO6 mbr))))
 have hb_pr156:=fun x hx=>Nat.le_trans (pr156.2 x hx) (by decide:2000 ≤ 1000000)
 refine aW 9 (?_)
 replace k2_1:=k2_1.md m156 (fun _ e=>e ▸ (il hO154 (il hO124 (il hO7 (il hO6 mbr)))))
 replace k2_2:=k2_2.md m156 (fun _ e=>e ▸ (il hO154 (il hO124 (il hO7 (il hO6 mbr)))))
 replace k2_3:=k2_3.md m156 (fun _ e=>e ▸ (il hO154 (il hO124 (il hO7 (il hO6 mbr)))))
 replace OB0:=OB0.leO m156.1
 refine cC rfl aG (dM (v:=v2) (t:=t2) k2_1 k2_2 k2_3 k156_1 OB0) (fun v158 h158 q158=>?_)
 obtain ⟨s158_1,s158_2,s158_3,s158_4,rfl,lc158,k158_1,k158_2,k158_3,k158_4⟩:=q158
 have z158:=lc158.1
 refine ⟨Le.mod lc158,?_⟩
 obtain ⟨A159,n159,c159,rfl⟩:=k158_1.frm
 obtain ⟨A160,n160,c160,rfl⟩:=k158_2.frm
 obtain ⟨A161,n161,c161,rfl⟩:=k158_3.frm
 replace k158_4:=k158_4.end OB0
 obtain ⟨A162,n162,c162,rfl⟩:=k158_4.frm
 replace B124:=(((B124.le lb154).mod m155 (by omega)).mod m156 (by omega)).le lc158
 refine bG 10 rfl (fun _=>y_move)<|bG 11 rfl (fun _=>aL)<|bG 12 rfl (fun _=>aL)<|bG 13 rfl (fun _=>aL)<|cV 16 rfl (aK aP B124) (fun v163 h163 q163=>?_)
 obtain ⟨rfl,q163⟩:=q163
 have z163:=q163.1
 replace B124:=q163.2.2
 replace B154:=(((B154.mod m155 (by omega)).mod m156 (by omega)).le lc158).s q163
 refine cV 17 rfl (aK aP B154) (fun v164 h164 q164=>?_)
 replace kr:=(kr.leO lc158).setO q163 (il hO154 (ir hO124)) (by omega)
 obtain ⟨rfl,q164⟩:=q164
 have z164:=q164.1
 replace B154:=q164.2.2
 replace kr:=kr.setO q164 (ir hO154) (by omega)
 refine bG 18 rfl (fun _=>aC)<|bD ?_
 replace le:=(((((((((((((le.t m1).t m2).tl lb6).tl lb7).s q8).s q9).tl lb14).tl lb124).tl lb154).t m155).t m156).tl lc158).s q163).s q164
 replace B6:=(((((((B6.le lb14).le lb124).le lb154).mod m155 (by omega)).mod m156 (by omega)).le lc158).s q163).s q164
 replace B7:=(((((((B7.le lb14).le lb124).le lb154).mod m155 (by omega)).mod m156 (by omega)).le lc158).s q163).s q164
 replace lr12:=((lr12.tl lc158).s q163).s q164
 replace k158_4:=(k158_4.st q163 (il hO154 (ir hO124))).st q164 (ir hO154)
 replace OB0:=OB0.leO (h':=h164) (by omega)
 exact ⟨(ol156,O154,p156,(.slice A162 n162 c162)),ag2,⟨le,lr12,lx12,fun x hx=>(il hO154 (il hO124 hx)),OB0,B6,(il hO154 (il hO124 (il hO7 (ir hO6)))),B7,(il hO154 (il hO124 (ir hO7))),kr,by omega,by omega,k158_4.cast (by first | rfl | simp_all),pr156⟩⟩
 refine cB rfl aY (fun v165 h165 q165=>?_)
 obtain ⟨b165,O165,rfl,eb165,sb165,lb165,B165,hO165⟩:=q165.ox O7
 refine ⟨Le.mod lb165,?_⟩
 replace lx12:=laB lx12 hO165 (by omega)
 refine dU 7 14 ?_ ?_
 replace kr:=(kr.leO lb14).newB lb165 hO165 eb165
 replace k14:=k14.nb lb165 hO165 eb165
 replace OB0:=(OB0.leO lb14.1).newB sb165 hO165 eb165
 refine cC rfl aG (jH kr k14 OB0) (fun v166 h166 q166=>?_)
 clear kr
 obtain ⟨n166,rfl,⟨m166,p166,kr,pa166,pb166⟩,pr166⟩:=q166
 have z166:=m166.1
 have ms:=Mod.mono (S':=S13) m166 (fun x _ e=>(hS13 x).2 (by simp [e]))
 refine ⟨ms,?_⟩
 have ib166:0 ≤ n166∧n166 ≤ 8:=jM (by decide) pr166
 refine dU 8 14 ?_ ?_
 replace k2_1:=((k2_1.le lb14).nb lb165 hO165 eb165).md m166 (fun _ e=>e ▸ (il hO165 (il hO7 (il hO6 mbr))))
 replace k2_2:=((k2_2.le lb14).nb lb165 hO165 eb165).md m166 (fun _ e=>e ▸ (il hO165 (il hO7 (il hO6 mbr))))
 replace k2_3:=((k2_3.le lb14).nb lb165 hO165 eb165).md m166 (fun _ e=>e ▸ (il hO165 (il hO7 (il hO6 mbr))))
 replace OB0:=OB0.leO m166.1
 refine cC rfl aG (eK (v:=v2) (t:=t2) kr k2_1 k2_2 k2_3 OB0) (fun v167 h167 q167=>?_)
 clear kr
 obtain ⟨ol167,⟨m167,p167,kr,pa167,pb167⟩,k167_1,pr167⟩:=q167
 have z167:=m167.1
 replace mR13:=((mR13.tl lb14).tl lb165).t ms
 replace lr12:=((lr12.tl lb14).tl lb165).t (Mod.mono m166 (fun x _ e=>e ▸ (il hO7 (il hO6 mbr))))
 have ms:=Mod.mono (S':=S13) m167 (fun x _ e=>(hS13 x).2 (by simp [e]))
 refine ⟨ms,?_⟩
 obtain ⟨A168,n168,c168,rfl⟩:=k167_1.frm
 replace lr12:=lr12.t (Mod.mono m167 (fun x _ e=>e ▸ (il hO7 (il hO6 mbr))))
 have hb_pr167:=fun x hx=>Nat.le_trans (pr167.2 x hx) (by decide:2000 ≤ 1000000)
 refine dU 9 14 ?_ ?_
 replace k2_1:=k2_1.md m167 (fun _ e=>e ▸ (il hO165 (il hO7 (il hO6 mbr))))
 replace k2_2:=k2_2.md m167 (fun _ e=>e ▸ (il hO165 (il hO7 (il hO6 mbr))))
 replace k2_3:=k2_3.md m167 (fun _ e=>e ▸ (il hO165 (il hO7 (il hO6 mbr))))
 replace OB0:=OB0.leO m167.1
 refine cC rfl aG (dM (v:=v2) (t:=t2) k2_1 k2_2 k2_3 k167_1 OB0) (fun v169 h169 q169=>?_)
 obtain ⟨s169_1,s169_2,s169_3,s169_4,rfl,lc169,k169_1,k169_2,k169_3,k169_4⟩:=q169
 have z169:=lc169.1
 refine ⟨Le.mod lc169,?_⟩
 obtain ⟨A170,n170,c170,rfl⟩:=k169_1.frm
 obtain ⟨A171,n171,c171,rfl⟩:=k169_2.frm
 obtain ⟨A172,n172,c172,rfl⟩:=k169_3.frm
 replace k169_4:=k169_4.end OB0
 obtain ⟨A173,n173,c173,rfl⟩:=k169_4.frm
 refine ha2_p 10 rfl (fun _=>y_move)<|ha2_p 11 rfl (fun _=>aL)<|ha2_p 12 rfl (fun _=>aL)<|ha2_p 13 rfl (fun _=>aL)<|?_
 refine aW 14 (cB rfl aY (fun v174 h174 q174=>?_))
 obtain ⟨b174,O174,rfl,eb174,sb174,lb174,B174,hO174⟩:=q174.ox O165
 refine ⟨Le.mod lb174,?_⟩
 replace lx12:=laB lx12 hO174 (by omega)
 refine cV 16 rfl (aK aP B174) (fun v175 h175 q175=>?_)
 obtain ⟨rfl,q175⟩:=q175
 have z175:=q175.1
 replace B174:=q175.2.2
 replace B165:=((((B165.mod m166 (by omega)).mod m167 (by omega)).le lc169).le lb174).s q175
 refine cV 17 rfl (aK aP B165) (fun v176 h176 q176=>?_)
 replace kr:=((kr.leO lc169).newB lb174 hO174 eb174).setO q175 (ir hO174) (by omega)
 obtain ⟨rfl,q176⟩:=q176
 have z176:=q176.1
 replace B165:=q176.2.2
 replace kr:=kr.setO q176 (il hO174 (ir hO165)) (by omega)
 refine bG 18 rfl (fun _=>aC)<|bD ?_
 replace le:=(((((((((((((le.t m1).t m2).tl lb6).tl lb7).s q8).s q9).tl lb14).tl lb165).t m166).t m167).tl lc169).tl lb174).s q175).s q176
 replace B6:=(((((((B6.le lb14).le lb165).mod m166 (by omega)).mod m167 (by omega)).le lc169).le lb174).s q175).s q176
 replace B7:=(((((((B7.le lb14).le lb165).mod m166 (by omega)).mod m167 (by omega)).le lc169).le lb174).s q175).s q176
 replace lr12:=(((lr12.tl lc169).tl lb174).s q175).s q176
 replace k169_4:=((k169_4.nb lb174 hO174 eb174).st q175 (ir hO174)).st q176 (il hO174 (ir hO165))
 replace OB0:=(((OB0.leO lc169.1).newB sb174 hO174 eb174).leO (Nat.le_of_eq q175.1.symm)).leO (Nat.le_of_eq q176.1.symm)
 exact ⟨(ol167,O174,p167,(.slice A173 n173 c173)),ag2,⟨le,lr12,lx12,fun x hx=>(il hO174 (il hO165 hx)),OB0,B6,(il hO174 (il hO165 (il hO7 (ir hO6)))),B7,(il hO174 (il hO165 (ir hO7))),kr,by omega,by omega,k169_4.cast (by first | rfl | simp_all),pr167⟩⟩
 refine cB rfl aY (fun v177 h177 q177=>?_)
 obtain ⟨b177,O177,rfl,eb177,sb177,lb177,B177,hO177⟩:=q177.ox O165
 refine ⟨Le.mod lb177,?_⟩
 replace lx12:=laB lx12 hO177 (by omega)
 refine aW 9 (?_)
 replace k2_1:=(k2_1.md m167 (fun _ e=>e ▸ (il hO165 (il hO7 (il hO6 mbr))))).nb lb177 hO177 eb177
 replace k2_2:=(k2_2.md m167 (fun _ e=>e ▸ (il hO165 (il hO7 (il hO6 mbr))))).nb lb177 hO177 eb177
 replace k2_3:=(k2_3.md m167 (fun _ e=>e ▸ (il hO165 (il hO7 (il hO6 mbr))))).nb lb177 hO177 eb177
 replace k167_1:=k167_1.nb lb177 hO177 eb177
 replace OB0:=(OB0.leO m167.1).newB sb177 hO177 eb177
 refine cC rfl aG (dM (v:=v2) (t:=t2) k2_1 k2_2 k2_3 k167_1 OB0) (fun v178 h178 q178=>?_)
 obtain ⟨s178_1,s178_2,s178_3,s178_4,rfl,lc178,k178_1,k178_2,k178_3,k178_4⟩:=q178
 have z178:=lc178.1
 refine ⟨Le.mod lc178,?_⟩
 obtain ⟨A179,n179,c179,rfl⟩:=k178_1.frm
 obtain ⟨A180,n180,c180,rfl⟩:=k178_2.frm
 obtain ⟨A181,n181,c181,rfl⟩:=k178_3.frm
 replace k178_4:=k178_4.end OB0
 obtain ⟨A182,n182,c182,rfl⟩:=k178_4.frm
 replace B177:=B177.le lc178
 refine bG 10 rfl (fun _=>y_move)<|bG 11 rfl (fun _=>aL)<|bG 12 rfl (fun _=>aL)<|bG 13 rfl (fun _=>aL)<|cV 16 rfl (aK aP B177) (fun v183 h183 q183=>?_)
 obtain ⟨rfl,q183⟩:=q183
 have z183:=q183.1
 replace B177:=q183.2.2
 replace B165:=((((B165.mod m166 (by omega)).mod m167 (by omega)).le lb177).le lc178).s q183
 refine cV 17 rfl (aK aP B165) (fun v184 h184 q184=>?_)
 replace kr:=((kr.newB lb177 hO177 eb177).leO lc178).setO q183 (ir hO177) (by omega)
 obtain ⟨rfl,q184⟩:=q184
 have z184:=q184.1
 replace B165:=q184.2.2
 replace kr:=kr.setO q184 (il hO177 (ir hO165)) (by omega)
 refine bG 18 rfl (fun _=>aC)<|bD ?_
 replace le:=(((((((((((((le.t m1).t m2).tl lb6).tl lb7).s q8).s q9).tl lb14).tl lb165).t m166).t m167).tl lb177).tl lc178).s q183).s q184
 replace B6:=(((((((B6.le lb14).le lb165).mod m166 (by omega)).mod m167 (by omega)).le lb177).le lc178).s q183).s q184
 replace B7:=(((((((B7.le lb14).le lb165).mod m166 (by omega)).mod m167 (by omega)).le lb177).le lc178).s q183).s q184
 replace lr12:=(((lr12.tl lb177).tl lc178).s q183).s q184
 replace k178_4:=(k178_4.st q183 (ir hO177)).st q184 (il hO177 (ir hO165))
 replace OB0:=OB0.leO (h':=h184) (by omega)
 exact ⟨(ol167,O177,p167,(.slice A182 n182 c182)),ag2,⟨le,lr12,lx12,fun x hx=>(il hO177 (il hO165 hx)),OB0,B6,(il hO177 (il hO165 (il hO7 (ir hO6)))),B7,(il hO177 (il hO165 (ir hO7))),kr,by omega,by omega,k178_4.cast (by first | rfl | simp_all),pr167⟩⟩
 refine cB rfl aY (fun v185 h185 q185=>?_)
 obtain ⟨b185,O185,rfl,eb185,sb185,lb185,B185,hO185⟩:=q185.ox O165
 refine ⟨Le.mod lb185,?_⟩
 replace lx12:=laB lx12 hO185 (by omega)
 refine aW 8 (?_)
 replace kr:=kr.newB lb185 hO185 eb185
 replace k2_1:=(((k2_1.le lb14).nb lb165 hO165 eb165).md m166 (fun _ e=>e ▸ (il hO165 (il hO7 (il hO6 mbr))))).nb lb185 hO185 eb185
 replace k2_2:=(((k2_2.le lb14).nb lb165 hO165 eb165).md m166 (fun _ e=>e ▸ (il hO165 (il hO7 (il hO6 mbr))))).nb lb185 hO185 eb185
 replace k2_3:=(((k2_3.le lb14).nb lb165 hO165 eb165).md m166 (fun _ e=>e ▸ (il hO165 (il hO7 (il hO6 mbr))))).nb lb185 hO185 eb185
 replace OB0:=(OB0.leO m166.1).newB sb185 hO185 eb185
 refine cC rfl aG (eK (v:=v2) (t:=t2) kr k2_1 k2_2 k2_3 OB0) (fun v186 h186 q186=>?_)
 clear kr
 obtain ⟨ol186,⟨m186,p186,kr,pa186,pb186⟩,k186_1,pr186⟩:=q186
 have z186:=m186.1
 replace mR13:=(((mR13.tl lb14).tl lb165).t ms).tl lb185
 replace lr12:=(((lr12.tl lb14).tl lb165).t (Mod.mono m166 (fun x _ e=>e ▸ (il hO7 (il hO6 mbr))))).tl lb185
 have ms:=Mod.mono (S':=S13) m186 (fun x _ e=>(hS13 x).2 (by simp [e]))
 refine ⟨ms,?_⟩
 obtain ⟨A187,n187,c187,rfl⟩:=k186_1.frm
 replace lr12:=lr12.t (Mod.mono m186 (fun x _ e=>e ▸ (il hO7 (il hO6 mbr))))
 have hb_pr186:=fun x hx=>Nat.le_trans (pr186.2 x hx) (by decide:2000 ≤ 1000000)
 refine aW 9 (?_)
 replace k2_1:=k2_1.md m186 (fun _ e=>e ▸ (il hO185 (il hO165 (il hO7 (il hO6 mbr)))))
 replace k2_2:=k2_2.md m186 (fun _ e=>e ▸ (il hO185 (il hO165 (il hO7 (il hO6 mbr)))))
 replace k2_3:=k2_3.md m186 (fun _ e=>e ▸ (il hO185 (il hO165 (il hO7 (il hO6 mbr)))))
 replace OB0:=OB0.leO m186.1
 refine cC rfl aG (dM (v:=v2) (t:=t2) k2_1 k2_2 k2_3 k186_1 OB0) (fun v188 h188 q188=>?_)
 obtain ⟨s188_1,s188_2,s188_3,s188_4,rfl,lc188,k188_1,k188_2,k188_3,k188_4⟩:=q188
 have z188:=lc188.1
 refine ⟨Le.mod lc188,?_⟩
 obtain ⟨A189,n189,c189,rfl⟩:=k188_1.frm
 obtain ⟨A190,n190,c190,rfl⟩:=k188_2.frm
 obtain ⟨A191,n191,c191,rfl⟩:=k188_3.frm
 replace k188_4:=k188_4.end OB0
 obtain ⟨A192,n192,c192,rfl⟩:=k188_4.frm
 replace B185:=(B185.mod m186 (by omega)).le lc188
 refine bG 10 rfl (fun _=>y_move)<|bG 11 rfl (fun _=>aL)<|bG 12 rfl (fun _=>aL)<|bG 13 rfl (fun _=>aL)<|cV 16 rfl (aK aP B185) (fun v193 h193 q193=>?_)
 obtain ⟨rfl,q193⟩:=q193
 have z193:=q193.1
 replace B185:=q193.2.2
 replace B165:=((((B165.mod m166 (by omega)).le lb185).mod m186 (by omega)).le lc188).s q193
 refine cV 17 rfl (aK aP B165) (fun v194 h194 q194=>?_)
 replace kr:=(kr.leO lc188).setO q193 (ir hO185) (by omega)
 obtain ⟨rfl,q194⟩:=q194
 have z194:=q194.1
 replace B165:=q194.2.2
 replace kr:=kr.setO q194 (il hO185 (ir hO165)) (by omega)
 refine bG 18 rfl (fun _=>aC)<|bD ?_
 replace le:=(((((((((((((le.t m1).t m2).tl lb6).tl lb7).s q8).s q9).tl lb14).tl lb165).t m166).tl lb185).t m186).tl lc188).s q193).s q194
 replace B6:=(((((((B6.le lb14).le lb165).mod m166 (by omega)).le lb185).mod m186 (by omega)).le lc188).s q193).s q194
 replace B7:=(((((((B7.le lb14).le lb165).mod m166 (by omega)).le lb185).mod m186 (by omega)).le lc188).s q193).s q194
 replace lr12:=((lr12.tl lc188).s q193).s q194
 replace k188_4:=(k188_4.st q193 (ir hO185)).st q194 (il hO185 (ir hO165))
 replace OB0:=OB0.leO (h':=h194) (by omega)
 exact ⟨(ol186,O185,p186,(.slice A192 n192 c192)),ag2,⟨le,lr12,lx12,fun x hx=>(il hO185 (il hO165 hx)),OB0,B6,(il hO185 (il hO165 (il hO7 (ir hO6)))),B7,(il hO185 (il hO165 (ir hO7))),kr,by omega,by omega,k188_4.cast (by first | rfl | simp_all),pr186⟩⟩
 refine cB rfl aY (fun v195 h195 q195=>?_)
 obtain ⟨b195,O195,rfl,eb195,sb195,lb195,B195,hO195⟩:=q195.ox O165
 refine ⟨Le.mod lb195,?_⟩
 replace lx12:=laB lx12 hO195 (by omega)
 refine aW 7 (?_)
 replace kr:=((kr.leO lb14).newB lb165 hO165 eb165).newB lb195 hO195 eb195
 replace k14:=(k14.nb lb165 hO165 eb165).nb lb195 hO195 eb195
 replace OB0:=((OB0.leO lb14.1).newB sb165 hO165 eb165).newB sb195 hO195 eb195
 refine cC rfl aG (jH kr k14 OB0) (fun v196 h196 q196=>?_)
 clear kr
 obtain ⟨n196,rfl,⟨m196,p196,kr,pa196,pb196⟩,pr196⟩:=q196
 have z196:=m196.1
 have ms:=Mod.mono (S':=S13) m196 (fun x _ e=>(hS13 x).2 (by simp [e]))
 refine ⟨ms,?_⟩
 have ib196:0 ≤ n196∧n196 ≤ 8:=jM (by decide) pr196
 refine aW 8 (?_)
 replace k2_1:=(((k2_1.le lb14).nb lb165 hO165 eb165).nb lb195 hO195 eb195).md m196 (fun _ e=>e ▸ (il hO195 (il hO165 (il hO7 (il hO6 mbr)))))
 replace k2_2:=(((k2_2.le lb14).nb lb165 hO165 eb165).nb lb195 hO195 eb195).md m196 (fun _ e=>e ▸ (il hO195 (il hO165 (il hO7 (il hO6 mbr)))))
 replace k2_3:=(((k2_3.le lb14).nb lb165 hO165 eb165).nb lb195 hO195 eb195).md m196 (fun _ e=>e ▸ (il hO195 (il hO165 (il hO7 (il hO6 mbr)))))
 replace OB0:=OB0.leO m196.1
 refine cC rfl aG (eK (v:=v2) (t:=t2) kr k2_1 k2_2 k2_3 OB0) (fun v197 h197 q197=>?_)
 clear kr
 obtain ⟨ol197,⟨m197,p197,kr,pa197,pb197⟩,k197_1,pr197⟩:=q197
 have z197:=m197.1
 replace mR13:=(((mR13.tl lb14).tl lb165).tl lb195).t ms
 replace lr12:=(((lr12.tl lb14).tl lb165).tl lb195).t (Mod.mono m196 (fun x _ e=>e ▸ (il hO7 (il hO6 mbr))))
 have ms:=Mod.mono (S':=S13) m197 (fun x _ e=>(hS13 x).2 (by simp [e]))
 refine ⟨ms,?_⟩
 obtain ⟨A198,n198,c198,rfl⟩:=k197_1.frm
 replace lr12:=lr12.t (Mod.mono m197 (fun x _ e=>e ▸ (il hO7 (il hO6 mbr))))
 have hb_pr197:=fun x hx=>Nat.le_trans (pr197.2 x hx) (by decide:2000 ≤ 1000000)
 refine aW 9 (?_)
 replace k2_1:=k2_1.md m197 (fun _ e=>e ▸ (il hO195 (il hO165 (il hO7 (il hO6 mbr)))))
 replace k2_2:=k2_2.md m197 (fun _ e=>e ▸ (il hO195 (il hO165 (il hO7 (il hO6 mbr)))))
 replace k2_3:=k2_3.md m197 (fun _ e=>e ▸ (il hO195 (il hO165 (il hO7 (il hO6 mbr)))))
 replace OB0:=OB0.leO m197.1
 refine cC rfl aG (dM (v:=v2) (t:=t2) k2_1 k2_2 k2_3 k197_1 OB0) (fun v199 h199 q199=>?_)
 obtain ⟨s199_1,s199_2,s199_3,s199_4,rfl,lc199,k199_1,k199_2,k199_3,k199_4⟩:=q199
 have z199:=lc199.1
 refine ⟨Le.mod lc199,?_⟩
 obtain ⟨A200,n200,c200,rfl⟩:=k199_1.frm
 obtain ⟨A201,n201,c201,rfl⟩:=k199_2.frm
 obtain ⟨A202,n202,c202,rfl⟩:=k199_3.frm
 replace k199_4:=k199_4.end OB0
 obtain ⟨A203,n203,c203,rfl⟩:=k199_4.frm
 replace B195:=((B195.mod m196 (by omega)).mod m197 (by omega)).le lc199
 refine bG 10 rfl (fun _=>y_move)<|bG 11 rfl (fun _=>aL)<|bG 12 rfl (fun _=>aL)<|bG 13 rfl (fun _=>aL)<|cV 16 rfl (aK aP B195) (fun v204 h204 q204=>?_)
 obtain ⟨rfl,q204⟩:=q204
 have z204:=q204.1
 replace B195:=q204.2.2
 replace B165:=((((B165.le lb195).mod m196 (by omega)).mod m197 (by omega)).le lc199).s q204
 refine cV 17 rfl (aK aP B165) (fun v205 h205 q205=>?_)
 replace kr:=(kr.leO lc199).setO q204 (ir hO195) (by omega)
 obtain ⟨rfl,q205⟩:=q205
 have z205:=q205.1
 replace B165:=q205.2.2
 replace kr:=kr.setO q205 (il hO195 (ir hO165)) (by omega)
 refine bG 18 rfl (fun _=>aC)<|bD ?_
 replace le:=(((((((((((((le.t m1).t m2).tl lb6).tl lb7).s q8).s q9).tl lb14).tl lb165).tl lb195).t m196).t m197).tl lc199).s q204).s q205
 replace B6:=(((((((B6.le lb14).le lb165).le lb195).mod m196 (by omega)).mod m197 (by omega)).le lc199).s q204).s q205
 replace B7:=(((((((B7.le lb14).le lb165).le lb195).mod m196 (by omega)).mod m197 (by omega)).le lc199).s q204).s q205
 replace lr12:=((lr12.tl lc199).s q204).s q205
 replace k199_4:=(k199_4.st q204 (ir hO195)).st q205 (il hO195 (ir hO165))
 replace OB0:=OB0.leO (h':=h205) (by omega)
 exact ⟨(ol197,O195,p197,(.slice A203 n203 c203)),ag2,⟨le,lr12,lx12,fun x hx=>(il hO195 (il hO165 hx)),OB0,B6,(il hO195 (il hO165 (il hO7 (ir hO6)))),B7,(il hO195 (il hO165 (ir hO7))),kr,by omega,by omega,k199_4.cast (by first | rfl | simp_all),pr197⟩⟩
 refine cB rfl aY (fun v206 h206 q206=>?_)
 obtain ⟨b206,O206,rfl,eb206,sb206,lb206,B206,hO206⟩:=q206.ox O7
 refine ⟨Le.mod lb206,?_⟩
 replace lx12:=laB lx12 hO206 (by omega)
 refine dU 6 15 ?_ ?_
 refine cB rfl (bA (l:=([3,5,8,1,0]:List Int))) (fun v207 h207 q207=>?_)
 obtain ⟨lb207,ow207,sb207⟩:=q207
 have z207:=lb207.1
 refine ⟨Le.mod lb207,?_⟩
 replace OB0:=OB0.newB sb206 hO206 eb206
 replace k207:Rs _ O206 _ _:=Ow.end ⟨ow207,⟨by simp,by simp [Ok.ok]⟩⟩ OB0
 obtain ⟨A208,n208,c208,rfl⟩:=k207.frm
 refine dU 7 15 ?_ ?_
 replace kr:=(kr.newB lb206 hO206 eb206).leO lb207
 replace OB0:=OB0.leO lb207.1
 refine cC rfl aG (jH kr k207 OB0) (fun v209 h209 q209=>?_)
 clear kr
 obtain ⟨n209,rfl,⟨m209,p209,kr,pa209,pb209⟩,pr209⟩:=q209
 have z209:=m209.1
 have ms:=Mod.mono (S':=S13) m209 (fun x _ e=>(hS13 x).2 (by simp [e]))
 refine ⟨ms,?_⟩
 have ib209:0 ≤ n209∧n209 ≤ 8:=jM (by decide) pr209
 refine dU 8 15 ?_ ?_
 replace k2_1:=((k2_1.nb lb206 hO206 eb206).le lb207).md m209 (fun _ e=>e ▸ (il hO206 (il hO7 (il hO6 mbr))))
 replace k2_2:=((k2_2.nb lb206 hO206 eb206).le lb207).md m209 (fun _ e=>e ▸ (il hO206 (il hO7 (il hO6 mbr))))
 replace k2_3:=((k2_3.nb lb206 hO206 eb206).le lb207).md m209 (fun _ e=>e ▸ (il hO206 (il hO7 (il hO6 mbr))))
 replace OB0:=OB0.leO m209.1
 refine cC rfl aG (eK (v:=v2) (t:=t2) kr k2_1 k2_2 k2_3 OB0) (fun v210 h210 q210=>?_)
 clear kr
 obtain ⟨ol210,⟨m210,p210,kr,pa210,pb210⟩,k210_1,pr210⟩:=q210
 have z210:=m210.1
 replace mR13:=((mR13.tl lb206).tl lb207).t ms
 replace lr12:=((lr12.tl lb206).tl lb207).t (Mod.mono m209 (fun x _ e=>e ▸ (il hO7 (il hO6 mbr))))
 have ms:=Mod.mono (S':=S13) m210 (fun x _ e=>(hS13 x).2 (by simp [e]))
 refine ⟨ms,?_⟩
 obtain ⟨A211,n211,c211,rfl⟩:=k210_1.frm
 replace lr12:=lr12.t (Mod.mono m210 (fun x _ e=>e ▸ (il hO7 (il hO6 mbr))))
 have hb_pr210:=fun x hx=>Nat.le_trans (pr210.2 x hx) (by decide:2000 ≤ 1000000)
 refine dU 9 15 ?_ ?_
 replace k2_1:=k2_1.md m210 (fun _ e=>e ▸ (il hO206 (il hO7 (il hO6 mbr))))
 replace k2_2:=k2_2.md m210 (fun _ e=>e ▸ (il hO206 (il hO7 (il hO6 mbr))))
 replace k2_3:=k2_3.md m210 (fun _ e=>e ▸ (il hO206 (il hO7 (il hO6 mbr))))
 replace OB0:=OB0.leO m210.1
 refine cC rfl aG (dM (v:=v2) (t:=t2) k2_1 k2_2 k2_3 k210_1 OB0) (fun v212 h212 q212=>?_)
 obtain ⟨s212_1,s212_2,s212_3,s212_4,rfl,lc212,k212_1,k212_2,k212_3,k212_4⟩:=q212
 have z212:=lc212.1
 refine ⟨Le.mod lc212,?_⟩
 obtain ⟨A213,n213,c213,rfl⟩:=k212_1.frm
 obtain ⟨A214,n214,c214,rfl⟩:=k212_2.frm
 obtain ⟨A215,n215,c215,rfl⟩:=k212_3.frm
 replace k212_4:=k212_4.end OB0
 obtain ⟨A216,n216,c216,rfl⟩:=k212_4.frm
 refine ha2_p 10 rfl (fun _=>y_move)<|ha2_p 11 rfl (fun _=>aL)<|ha2_p 12 rfl (fun _=>aL)<|ha2_p 13 rfl (fun _=>aL)<|?_
 refine aW 15 (cB rfl aY (fun v217 h217 q217=>?_))
 obtain ⟨b217,O217,rfl,eb217,sb217,lb217,B217,hO217⟩:=q217.ox O206
 refine ⟨Le.mod lb217,?_⟩
 replace lx12:=laB lx12 hO217 (by omega)
 replace B206:=((((B206.le lb207).mod m209 (by omega)).mod m210 (by omega)).le lc212).le lb217
 refine cV 16 rfl (aK aP B206) (fun v218 h218 q218=>?_)
 obtain ⟨rfl,q218⟩:=q218
 have z218:=q218.1
 replace B206:=q218.2.2
 replace B217:=B217.s q218
 refine cV 17 rfl (aK aP B217) (fun v219 h219 q219=>?_)
 replace kr:=((kr.leO lc212).newB lb217 hO217 eb217).setO q218 (il hO217 (ir hO206)) (by omega)
 obtain ⟨rfl,q219⟩:=q219
 have z219:=q219.1
 replace B217:=q219.2.2
 replace kr:=kr.setO q219 (ir hO217) (by omega)
 refine bG 18 rfl (fun _=>aC)<|bD ?_
 replace le:=(((((((((((((le.t m1).t m2).tl lb6).tl lb7).s q8).s q9).tl lb206).tl lb207).t m209).t m210).tl lc212).tl lb217).s q218).s q219
 replace B6:=(((((((B6.le lb206).le lb207).mod m209 (by omega)).mod m210 (by omega)).le lc212).le lb217).s q218).s q219
 replace B7:=(((((((B7.le lb206).le lb207).mod m209 (by omega)).mod m210 (by omega)).le lc212).le lb217).s q218).s q219
 replace lr12:=(((lr12.tl lc212).tl lb217).s q218).s q219
 replace k212_4:=((k212_4.nb lb217 hO217 eb217).st q218 (il hO217 (ir hO206))).st q219 (ir hO217)
 replace OB0:=(((OB0.leO lc212.1).newB sb217 hO217 eb217).leO (Nat.le_of_eq q218.1.symm)).leO (Nat.le_of_eq q219.1.symm)
 exact ⟨(ol210,O217,p210,(.slice A216 n216 c216)),ag2,⟨le,lr12,lx12,fun x hx=>(il hO217 (il hO206 hx)),OB0,B6,(il hO217 (il hO206 (il hO7 (ir hO6)))),B7,(il hO217 (il hO206 (ir hO7))),kr,by omega,by omega,k212_4.cast (by first | rfl | simp_all),pr210⟩⟩
 refine cB rfl aY (fun v220 h220 q220=>?_)
 obtain ⟨b220,O220,rfl,eb220,sb220,lb220,B220,hO220⟩:=q220.ox O206
 refine ⟨Le.mod lb220,?_⟩
 replace lx12:=laB lx12 hO220 (by omega)
 refine aW 9 (?_)
 replace k2_1:=(k2_1.md m210 (fun _ e=>e ▸ (il hO206 (il hO7 (il hO6 mbr))))).nb lb220 hO220 eb220
 replace k2_2:=(k2_2.md m210 (fun _ e=>e ▸ (il hO206 (il hO7 (il hO6 mbr))))).nb lb220 hO220 eb220
 replace k2_3:=(k2_3.md m210 (fun _ e=>e ▸ (il hO206 (il hO7 (il hO6 mbr))))).nb lb220 hO220 eb220
 replace k210_1:=k210_1.nb lb220 hO220 eb220
 replace OB0:=(OB0.leO m210.1).newB sb220 hO220 eb220
 refine cC rfl aG (dM (v:=v2) (t:=t2) k2_1 k2_2 k2_3 k210_1 OB0) (fun v221 h221 q221=>?_)
 obtain ⟨s221_1,s221_2,s221_3,s221_4,rfl,lc221,k221_1,k221_2,k221_3,k221_4⟩:=q221
 have z221:=lc221.1
 refine ⟨Le.mod lc221,?_⟩
 obtain ⟨A222,n222,c222,rfl⟩:=k221_1.frm
 obtain ⟨A223,n223,c223,rfl⟩:=k221_2.frm
 obtain ⟨A224,n224,c224,rfl⟩:=k221_3.frm
 replace k221_4:=k221_4.end OB0
 obtain ⟨A225,n225,c225,rfl⟩:=k221_4.frm
 replace B206:=((((B206.le lb207).mod m209 (by omega)).mod m210 (by omega)).le lb220).le lc221
 refine bG 10 rfl (fun _=>y_move)<|bG 11 rfl (fun _=>aL)<|bG 12 rfl (fun _=>aL)<|bG 13 rfl (fun _=>aL)<|cV 16 rfl (aK aP B206) (fun v226 h226 q226=>?_)
 obtain ⟨rfl,q226⟩:=q226
 have z226:=q226.1
 replace B206:=q226.2.2
 replace B220:=(B220.le lc221).s q226
 refine cV 17 rfl (aK aP B220) (fun v227 h227 q227=>?_)
 replace kr:=((kr.newB lb220 hO220 eb220).leO lc221).setO q226 (il hO220 (ir hO206)) (by omega)
 obtain ⟨rfl,q227⟩:=q227
 have z227:=q227.1
 replace B220:=q227.2.2
 replace kr:=kr.setO q227 (ir hO220) (by omega)
 refine bG 18 rfl (fun _=>aC)<|bD ?_
 replace le:=(((((((((((((le.t m1).t m2).tl lb6).tl lb7).s q8).s q9).tl lb206).tl lb207).t m209).t m210).tl lb220).tl lc221).s q226).s q227
 replace B6:=(((((((B6.le lb206).le lb207).mod m209 (by omega)).mod m210 (by omega)).le lb220).le lc221).s q226).s q227
 replace B7:=(((((((B7.le lb206).le lb207).mod m209 (by omega)).mod m210 (by omega)).le lb220).le lc221).s q226).s q227
 replace lr12:=(((lr12.tl lb220).tl lc221).s q226).s q227
 replace k221_4:=(k221_4.st q226 (il hO220 (ir hO206))).st q227 (ir hO220)
 replace OB0:=OB0.leO (h':=h227) (by omega)
 exact ⟨(ol210,O220,p210,(.slice A225 n225 c225)),ag2,⟨le,lr12,lx12,fun x hx=>(il hO220 (il hO206 hx)),OB0,B6,(il hO220 (il hO206 (il hO7 (ir hO6)))),B7,(il hO220 (il hO206 (ir hO7))),kr,by omega,by omega,k221_4.cast (by first | rfl | simp_all),pr210⟩⟩
 refine cB rfl aY (fun v228 h228 q228=>?_)
 obtain ⟨b228,O228,rfl,eb228,sb228,lb228,B228,hO228⟩:=q228.ox O206
 refine ⟨Le.mod lb228,?_⟩
 replace lx12:=laB lx12 hO228 (by omega)
 refine aW 8 (?_)
 replace kr:=kr.newB lb228 hO228 eb228
 replace k2_1:=(((k2_1.nb lb206 hO206 eb206).le lb207).md m209 (fun _ e=>e ▸ (il hO206 (il hO7 (il hO6 mbr))))).nb lb228 hO228 eb228
 replace k2_2:=(((k2_2.nb lb206 hO206 eb206).le lb207).md m209 (fun _ e=>e ▸ (il hO206 (il hO7 (il hO6 mbr))))).nb lb228 hO228 eb228
 replace k2_3:=(((k2_3.nb lb206 hO206 eb206).le lb207).md m209 (fun _ e=>e ▸ (il hO206 (il hO7 (il hO6 mbr))))).nb lb228 hO228 eb228
 replace OB0:=(OB0.leO m209.1).newB sb228 hO228 eb228
 refine cC rfl aG (eK (v:=v2) (t:=t2) kr k2_1 k2_2 k2_3 OB0) (fun v229 h229 q229=>?_)
 clear kr
 obtain ⟨ol229,⟨m229,p229,kr,pa229,pb229⟩,k229_1,pr229⟩:=q229
 have z229:=m229.1
 replace mR13:=(((mR13.tl lb206).tl lb207).t ms).tl lb228
 replace lr12:=(((lr12.tl lb206).tl lb207).t (Mod.mono m209 (fun x _ e=>e ▸ (il hO7 (il hO6 mbr))))).tl lb228
 have ms:=Mod.mono (S':=S13) m229 (fun x _ e=>(hS13 x).2 (by simp [e]))
 refine ⟨ms,?_⟩
 obtain ⟨A230,n230,c230,rfl⟩:=k229_1.frm
 replace lr12:=lr12.t (Mod.mono m229 (fun x _ e=>e ▸ (il hO7 (il hO6 mbr))))
 have hb_pr229:=fun x hx=>Nat.le_trans (pr229.2 x hx) (by decide:2000 ≤ 1000000)
 refine aW 9 (?_)
 replace k2_1:=k2_1.md m229 (fun _ e=>e ▸ (il hO228 (il hO206 (il hO7 (il hO6 mbr)))))
 replace k2_2:=k2_2.md m229 (fun _ e=>e ▸ (il hO228 (il hO206 (il hO7 (il hO6 mbr)))))
 replace k2_3:=k2_3.md m229 (fun _ e=>e ▸ (il hO228 (il hO206 (il hO7 (il hO6 mbr)))))
 replace OB0:=OB0.leO m229.1
 refine cC rfl aG (dM (v:=v2) (t:=t2) k2_1 k2_2 k2_3 k229_1 OB0) (fun v231 h231 q231=>?_)
 obtain ⟨s231_1,s231_2,s231_3,s231_4,rfl,lc231,k231_1,k231_2,k231_3,k231_4⟩:=q231
 have z231:=lc231.1
 refine ⟨Le.mod lc231,?_⟩
 obtain ⟨A232,n232,c232,rfl⟩:=k231_1.frm
 obtain ⟨A233,n233,c233,rfl⟩:=k231_2.frm
 obtain ⟨A234,n234,c234,rfl⟩:=k231_3.frm
 replace k231_4:=k231_4.end OB0
 obtain ⟨A235,n235,c235,rfl⟩:=k231_4.frm
 replace B206:=((((B206.le lb207).mod m209 (by omega)).le lb228).mod m229 (by omega)).le lc231
 refine bG 10 rfl (fun _=>y_move)<|bG 11 rfl (fun _=>aL)<|bG 12 rfl (fun _=>aL)<|bG 13 rfl (fun _=>aL)<|cV 16 rfl (aK aP B206) (fun v236 h236 q236=>?_)
 obtain ⟨rfl,q236⟩:=q236
 have z236:=q236.1
 replace B206:=q236.2.2
 replace B228:=((B228.mod m229 (by omega)).le lc231).s q236
 refine cV 17 rfl (aK aP B228) (fun v237 h237 q237=>?_)
 replace kr:=(kr.leO lc231).setO q236 (il hO228 (ir hO206)) (by omega)
 obtain ⟨rfl,q237⟩:=q237
 have z237:=q237.1
 replace B228:=q237.2.2
 replace kr:=kr.setO q237 (ir hO228) (by omega)
 refine bG 18 rfl (fun _=>aC)<|bD ?_
 replace le:=(((((((((((((le.t m1).t m2).tl lb6).tl lb7).s q8).s q9).tl lb206).tl lb207).t m209).tl lb228).t m229).tl lc231).s q236).s q237
 replace B6:=(((((((B6.le lb206).le lb207).mod m209 (by omega)).le lb228).mod m229 (by omega)).le lc231).s q236).s q237
 replace B7:=(((((((B7.le lb206).le lb207).mod m209 (by omega)).le lb228).mod m229 (by omega)).le lc231).s q236).s q237
 replace lr12:=((lr12.tl lc231).s q236).s q237
 replace k231_4:=(k231_4.st q236 (il hO228 (ir hO206))).st q237 (ir hO228)
 replace OB0:=OB0.leO (h':=h237) (by omega)
 exact ⟨(ol229,O228,p229,(.slice A235 n235 c235)),ag2,⟨le,lr12,lx12,fun x hx=>(il hO228 (il hO206 hx)),OB0,B6,(il hO228 (il hO206 (il hO7 (ir hO6)))),B7,(il hO228 (il hO206 (ir hO7))),kr,by omega,by omega,k231_4.cast (by first | rfl | simp_all),pr229⟩⟩
 refine cB rfl aY (fun v238 h238 q238=>?_)
 obtain ⟨b238,O238,rfl,eb238,sb238,lb238,B238,hO238⟩:=q238.ox O206
 refine ⟨Le.mod lb238,?_⟩
 replace lx12:=laB lx12 hO238 (by omega)
 refine aW 7 (?_)
 replace kr:=((kr.newB lb206 hO206 eb206).leO lb207).newB lb238 hO238 eb238
 replace k207:=k207.nb lb238 hO238 eb238
 replace OB0:=(OB0.leO lb207.1).newB sb238 hO238 eb238
 refine cC rfl aG (jH kr k207 OB0) (fun v239 h239 q239=>?_)
 clear kr
 obtain ⟨n239,rfl,⟨m239,p239,kr,pa239,pb239⟩,pr239⟩:=q239
 have z239:=m239.1
 have ms:=Mod.mono (S':=S13) m239 (fun x _ e=>(hS13 x).2 (by simp [e]))
 refine ⟨ms,?_⟩
 have ib239:0 ≤ n239∧n239 ≤ 8:=jM (by decide) pr239
 refine aW 8 (?_)
 replace k2_1:=(((k2_1.nb lb206 hO206 eb206).le lb207).nb lb238 hO238 eb238).md m239 (fun _ e=>e ▸ (il hO238 (il hO206 (il hO7 (il hO6 mbr)))))
 replace k2_2:=(((k2_2.nb lb206 hO206 eb206).le lb207).nb lb238 hO238 eb238).md m239 (fun _ e=>e ▸ (il hO238 (il hO206 (il hO7 (il hO6 mbr)))))
 replace k2_3:=(((k2_3.nb lb206 hO206 eb206).le lb207).nb lb238 hO238 eb238).md m239 (fun _ e=>e ▸ (il hO238 (il hO206 (il hO7 (il hO6 mbr)))))
 replace OB0:=OB0.leO m239.1
 refine cC rfl aG (eK (v:=v2) (t:=t2) kr k2_1 k2_2 k2_3 OB0) (fun v240 h240 q240=>?_)
 clear kr
 obtain ⟨ol240,⟨m240,p240,kr,pa240,pb240⟩,k240_1,pr240⟩:=q240
 have z240:=m240.1
 replace mR13:=(((mR13.tl lb206).tl lb207).tl lb238).t ms
 replace lr12:=(((lr12.tl lb206).tl lb207).tl lb238).t (Mod.mono m239 (fun x _ e=>e ▸ (il hO7 (il hO6 mbr))))
 have ms:=Mod.mono (S':=S13) m240 (fun x _ e=>(hS13 x).2 (by simp [e]))
 refine ⟨ms,?_⟩
 obtain ⟨A241,n241,c241,rfl⟩:=k240_1.frm
 replace lr12:=lr12.t (Mod.mono m240 (fun x _ e=>e ▸ (il hO7 (il hO6 mbr))))
 have hb_pr240:=fun x hx=>Nat.le_trans (pr240.2 x hx) (by decide:2000 ≤ 1000000)
 refine aW 9 (?_)
 replace k2_1:=k2_1.md m240 (fun _ e=>e ▸ (il hO238 (il hO206 (il hO7 (il hO6 mbr)))))
 replace k2_2:=k2_2.md m240 (fun _ e=>e ▸ (il hO238 (il hO206 (il hO7 (il hO6 mbr)))))
 replace k2_3:=k2_3.md m240 (fun _ e=>e ▸ (il hO238 (il hO206 (il hO7 (il hO6 mbr)))))
 replace OB0:=OB0.leO m240.1
 refine cC rfl aG (dM (v:=v2) (t:=t2) k2_1 k2_2 k2_3 k240_1 OB0) (fun v242 h242 q242=>?_)
 obtain ⟨s242_1,s242_2,s242_3,s242_4,rfl,lc242,k242_1,k242_2,k242_3,k242_4⟩:=q242
 have z242:=lc242.1
 refine ⟨Le.mod lc242,?_⟩
 obtain ⟨A243,n243,c243,rfl⟩:=k242_1.frm
 obtain ⟨A244,n244,c244,rfl⟩:=k242_2.frm
 obtain ⟨A245,n245,c245,rfl⟩:=k242_3.frm
 replace k242_4:=k242_4.end OB0
 obtain ⟨A246,n246,c246,rfl⟩:=k242_4.frm
 replace B206:=((((B206.le lb207).le lb238).mod m239 (by omega)).mod m240 (by omega)).le lc242
 refine bG 10 rfl (fun _=>y_move)<|bG 11 rfl (fun _=>aL)<|bG 12 rfl (fun _=>aL)<|bG 13 rfl (fun _=>aL)<|cV 16 rfl (aK aP B206) (fun v247 h247 q247=>?_)
 obtain ⟨rfl,q247⟩:=q247
 have z247:=q247.1
 replace B206:=q247.2.2
 replace B238:=(((B238.mod m239 (by omega)).mod m240 (by omega)).le lc242).s q247
 refine cV 17 rfl (aK aP B238) (fun v248 h248 q248=>?_)
 replace kr:=(kr.leO lc242).setO q247 (il hO238 (ir hO206)) (by omega)
 obtain ⟨rfl,q248⟩:=q248
 have z248:=q248.1
 replace B238:=q248.2.2
 replace kr:=kr.setO q248 (ir hO238) (by omega)
 refine bG 18 rfl (fun _=>aC)<|bD ?_
 replace le:=(((((((((((((le.t m1).t m2).tl lb6).tl lb7).s q8).s q9).tl lb206).tl lb207).tl lb238).t m239).t m240).tl lc242).s q247).s q248
 replace B6:=(((((((B6.le lb206).le lb207).le lb238).mod m239 (by omega)).mod m240 (by omega)).le lc242).s q247).s q248
 replace B7:=(((((((B7.le lb206).le lb207).le lb238).mod m239 (by omega)).mod m240 (by omega)).le lc242).s q247).s q248
 replace lr12:=((lr12.tl lc242).s q247).s q248
 replace k242_4:=(k242_4.st q247 (il hO238 (ir hO206))).st q248 (ir hO238)
 replace OB0:=OB0.leO (h':=h248) (by omega)
 exact ⟨(ol240,O238,p240,(.slice A246 n246 c246)),ag2,⟨le,lr12,lx12,fun x hx=>(il hO238 (il hO206 hx)),OB0,B6,(il hO238 (il hO206 (il hO7 (ir hO6)))),B7,(il hO238 (il hO206 (ir hO7))),kr,by omega,by omega,k242_4.cast (by first | rfl | simp_all),pr240⟩⟩
 refine cB rfl aY (fun v249 h249 q249=>?_)
 obtain ⟨b249,O249,rfl,eb249,sb249,lb249,B249,hO249⟩:=q249.ox O206
 refine ⟨Le.mod lb249,?_⟩
 replace lx12:=laB lx12 hO249 (by omega)
 refine aW 6 (?_)
 refine cB rfl (bA (l:=([3,5,8,1,0]:List Int))) (fun v250 h250 q250=>?_)
 obtain ⟨lb250,ow250,sb250⟩:=q250
 have z250:=lb250.1
 refine ⟨Le.mod lb250,?_⟩
 replace OB0:=(OB0.newB sb206 hO206 eb206).newB sb249 hO249 eb249
 replace k250:Rs _ O249 _ _:=Ow.end ⟨ow250,⟨by simp,by simp [Ok.ok]⟩⟩ OB0
 obtain ⟨A251,n251,c251,rfl⟩:=k250.frm
 refine aW 7 (?_)
 replace kr:=((kr.newB lb206 hO206 eb206).newB lb249 hO249 eb249).leO lb250
 replace OB0:=OB0.leO lb250.1
 refine cC rfl aG (jH kr k250 OB0) (fun v252 h252 q252=>?_)
 clear kr
 obtain ⟨n252,rfl,⟨m252,p252,kr,pa252,pb252⟩,pr252⟩:=q252
 have z252:=m252.1
 have ms:=Mod.mono (S':=S13) m252 (fun x _ e=>(hS13 x).2 (by simp [e]))
 refine ⟨ms,?_⟩
 have ib252:0 ≤ n252∧n252 ≤ 8:=jM (by decide) pr252
 refine aW 8 (?_)
 replace k2_1:=(((k2_1.nb lb206 hO206 eb206).nb lb249 hO249 eb249).le lb250).md m252 (fun _ e=>e ▸ (il hO249 (il hO206 (il hO7 (il hO6 mbr)))))
 replace k2_2:=(((k2_2.nb lb206 hO206 eb206).nb lb249 hO249 eb249).le lb250).md m252 (fun _ e=>e ▸ (il hO249 (il hO206 (il hO7 (il hO6 mbr)))))
 replace k2_3:=(((k2_3.nb lb206 hO206 eb206).nb lb249 hO249 eb249).le lb250).md m252 (fun _ e=>e ▸ (il hO249 (il hO206 (il hO7 (il hO6 mbr)))))
 replace OB0:=OB0.leO m252.1
 refine cC rfl aG (eK (v:=v2) (t:=t2) kr k2_1 k2_2 k2_3 OB0) (fun v253 h253 q253=>?_)
 clear kr
 obtain ⟨ol253,⟨m253,p253,kr,pa253,pb253⟩,k253_1,pr253⟩:=q253
 have z253:=m253.1
 replace mR13:=(((mR13.tl lb206).tl lb249).tl lb250).t ms
 replace lr12:=(((lr12.tl lb206).tl lb249).tl lb250).t (Mod.mono m252 (fun x _ e=>e ▸ (il hO7 (il hO6 mbr))))
 have ms:=Mod.mono (S':=S13) m253 (fun x _ e=>(hS13 x).2 (by simp [e]))
 refine ⟨ms,?_⟩
 obtain ⟨A254,n254,c254,rfl⟩:=k253_1.frm
 replace lr12:=lr12.t (Mod.mono m253 (fun x _ e=>e ▸ (il hO7 (il hO6 mbr))))
 have hb_pr253:=fun x hx=>Nat.le_trans (pr253.2 x hx) (by decide:2000 ≤ 1000000)
 refine aW 9 (?_)
 replace k2_1:=k2_1.md m253 (fun _ e=>e ▸ (il hO249 (il hO206 (il hO7 (il hO6 mbr)))))
 replace k2_2:=k2_2.md m253 (fun _ e=>e ▸ (il hO249 (il hO206 (il hO7 (il hO6 mbr)))))
 replace k2_3:=k2_3.md m253 (fun _ e=>e ▸ (il hO249 (il hO206 (il hO7 (il hO6 mbr)))))
 replace OB0:=OB0.leO m253.1
 refine cC rfl aG (dM (v:=v2) (t:=t2) k2_1 k2_2 k2_3 k253_1 OB0) (fun v255 h255 q255=>?_)
 obtain ⟨s255_1,s255_2,s255_3,s255_4,rfl,lc255,k255_1,k255_2,k255_3,k255_4⟩:=q255
 have z255:=lc255.1
 refine ⟨Le.mod lc255,?_⟩
 obtain ⟨A256,n256,c256,rfl⟩:=k255_1.frm
 obtain ⟨A257,n257,c257,rfl⟩:=k255_2.frm
 obtain ⟨A258,n258,c258,rfl⟩:=k255_3.frm
 replace k255_4:=k255_4.end OB0
 obtain ⟨A259,n259,c259,rfl⟩:=k255_4.frm
 replace B206:=((((B206.le lb249).le lb250).mod m252 (by omega)).mod m253 (by omega)).le lc255
 refine bG 10 rfl (fun _=>y_move)<|bG 11 rfl (fun _=>aL)<|bG 12 rfl (fun _=>aL)<|bG 13 rfl (fun _=>aL)<|cV 16 rfl (aK aP B206) (fun v260 h260 q260=>?_)
 obtain ⟨rfl,q260⟩:=q260
 have z260:=q260.1
 replace B206:=q260.2.2
 replace B249:=((((B249.le lb250).mod m252 (by omega)).mod m253 (by omega)).le lc255).s q260
 refine cV 17 rfl (aK aP B249) (fun v261 h261 q261=>?_)
 replace kr:=(kr.leO lc255).setO q260 (il hO249 (ir hO206)) (by omega)
 obtain ⟨rfl,q261⟩:=q261
 have z261:=q261.1
 replace B249:=q261.2.2
 replace kr:=kr.setO q261 (ir hO249) (by omega)
 refine bG 18 rfl (fun _=>aC)<|bD ?_
 replace le:=(((((((((((((le.t m1).t m2).tl lb6).tl lb7).s q8).s q9).tl lb206).tl lb249).tl lb250).t m252).t m253).tl lc255).s q260).s q261
 replace B6:=(((((((B6.le lb206).le lb249).le lb250).mod m252 (by omega)).mod m253 (by omega)).le lc255).s q260).s q261
 replace B7:=(((((((B7.le lb206).le lb249).le lb250).mod m252 (by omega)).mod m253 (by omega)).le lc255).s q260).s q261
 replace lr12:=((lr12.tl lc255).s q260).s q261
 replace k255_4:=(k255_4.st q260 (il hO249 (ir hO206))).st q261 (ir hO249)
 replace OB0:=OB0.leO (h':=h261) (by omega)
 exact ⟨(ol253,O249,p253,(.slice A259 n259 c259)),ag2,⟨le,lr12,lx12,fun x hx=>(il hO249 (il hO206 hx)),OB0,B6,(il hO249 (il hO206 (il hO7 (ir hO6)))),B7,(il hO249 (il hO206 (ir hO7))),kr,by omega,by omega,k255_4.cast (by first | rfl | simp_all),pr253⟩⟩
 refine cB rfl aY (fun v262 h262 q262=>?_)
 obtain ⟨b262,O262,rfl,eb262,sb262,lb262,B262,hO262⟩:=q262.ox O7
 refine ⟨Le.mod lb262,?_⟩
 replace lx12:=laB lx12 hO262 (by omega)
 refine dU 6 14 ?_ ?_
 refine cB rfl (bA (l:=([3,5,8,1,0]:List Int))) (fun v263 h263 q263=>?_)
 obtain ⟨lb263,ow263,sb263⟩:=q263
 have z263:=lb263.1
 refine ⟨Le.mod lb263,?_⟩
 replace OB0:=OB0.newB sb262 hO262 eb262
 replace k263:Rs _ O262 _ _:=Ow.end ⟨ow263,⟨by simp,by simp [Ok.ok]⟩⟩ OB0
 obtain ⟨A264,n264,c264,rfl⟩:=k263.frm
 refine dU 7 14 ?_ ?_
 replace kr:=(kr.newB lb262 hO262 eb262).leO lb263
 replace OB0:=OB0.leO lb263.1
 refine cC rfl aG (jH kr k263 OB0) (fun v265 h265 q265=>?_)
 clear kr
 obtain ⟨n265,rfl,⟨m265,p265,kr,pa265,pb265⟩,pr265⟩:=q265
 have z265:=m265.1
 have ms:=Mod.mono (S':=S13) m265 (fun x _ e=>(hS13 x).2 (by simp [e]))
 refine ⟨ms,?_⟩
 have ib265:0 ≤ n265∧n265 ≤ 8:=jM (by decide) pr265
 refine dU 8 14 ?_ ?_
 replace k2_1:=((k2_1.nb lb262 hO262 eb262).le lb263).md m265 (fun _ e=>e ▸ (il hO262 (il hO7 (il hO6 mbr))))
 replace k2_2:=((k2_2.nb lb262 hO262 eb262).le lb263).md m265 (fun _ e=>e ▸ (il hO262 (il hO7 (il hO6 mbr))))
 replace k2_3:=((k2_3.nb lb262 hO262 eb262).le lb263).md m265 (fun _ e=>e ▸ (il hO262 (il hO7 (il hO6 mbr))))
 replace OB0:=OB0.leO m265.1
 refine cC rfl aG (eK (v:=v2) (t:=t2) kr k2_1 k2_2 k2_3 OB0) (fun v266 h266 q266=>?_)
 clear kr
 obtain ⟨ol266,⟨m266,p266,kr,pa266,pb266⟩,k266_1,pr266⟩:=q266
 have z266:=m266.1
 replace mR13:=((mR13.tl lb262).tl lb263).t ms
 replace lr12:=((lr12.tl lb262).tl lb263).t (Mod.mono m265 (fun x _ e=>e ▸ (il hO7 (il hO6 mbr))))
 have ms:=Mod.mono (S':=S13) m266 (fun x _ e=>(hS13 x).2 (by simp [e]))
 refine ⟨ms,?_⟩
 obtain ⟨A267,n267,c267,rfl⟩:=k266_1.frm
 replace lr12:=lr12.t (Mod.mono m266 (fun x _ e=>e ▸ (il hO7 (il hO6 mbr))))
 have hb_pr266:=fun x hx=>Nat.le_trans (pr266.2 x hx) (by decide:2000 ≤ 1000000)
 refine dU 9 14 ?_ ?_
 replace k2_1:=k2_1.md m266 (fun _ e=>e ▸ (il hO262 (il hO7 (il hO6 mbr))))
 replace k2_2:=k2_2.md m266 (fun _ e=>e ▸ (il hO262 (il hO7 (il hO6 mbr))))
 replace k2_3:=k2_3.md m266 (fun _ e=>e ▸ (il hO262 (il hO7 (il hO6 mbr))))
 replace OB0:=OB0.leO m266.1
 refine cC rfl aG (dM (v:=v2) (t:=t2) k2_1 k2_2 k2_3 k266_1 OB0) (fun v268 h268 q268=>?_)
 obtain ⟨s268_1,s268_2,s268_3,s268_4,rfl,lc268,k268_1,k268_2,k268_3,k268_4⟩:=q268
 have z268:=lc268.1
 refine ⟨Le.mod lc268,?_⟩
 obtain ⟨A269,n269,c269,rfl⟩:=k268_1.frm
 obtain ⟨A270,n270,c270,rfl⟩:=k268_2.frm
 obtain ⟨A271,n271,c271,rfl⟩:=k268_3.frm
 replace k268_4:=k268_4.end OB0
 obtain ⟨A272,n272,c272,rfl⟩:=k268_4.frm
 refine ha2_p 10 rfl (fun _=>y_move)<|ha2_p 11 rfl (fun _=>aL)<|ha2_p 12 rfl (fun _=>aL)<|ha2_p 13 rfl (fun _=>aL)<|?_
 refine aW 14 (cB rfl aY (fun v273 h273 q273=>?_))
 obtain ⟨b273,O273,rfl,eb273,sb273,lb273,B273,hO273⟩:=q273.ox O262
 refine ⟨Le.mod lb273,?_⟩
 replace lx12:=laB lx12 hO273 (by omega)
 refine cV 16 rfl (aK aP B273) (fun v274 h274 q274=>?_)
 obtain ⟨rfl,q274⟩:=q274
 have z274:=q274.1
 replace B273:=q274.2.2
 replace B262:=(((((B262.le lb263).mod m265 (by omega)).mod m266 (by omega)).le lc268).le lb273).s q274
 refine cV 17 rfl (aK aP B262) (fun v275 h275 q275=>?_)
 replace kr:=((kr.leO lc268).newB lb273 hO273 eb273).setO q274 (ir hO273) (by omega)
 obtain ⟨rfl,q275⟩:=q275
 have z275:=q275.1
 replace B262:=q275.2.2
 replace kr:=kr.setO q275 (il hO273 (ir hO262)) (by omega)
 refine bG 18 rfl (fun _=>aC)<|bD ?_
 replace le:=(((((((((((((le.t m1).t m2).tl lb6).tl lb7).s q8).s q9).tl lb262).tl lb263).t m265).t m266).tl lc268).tl lb273).s q274).s q275
 replace B6:=(((((((B6.le lb262).le lb263).mod m265 (by omega)).mod m266 (by omega)).le lc268).le lb273).s q274).s q275
 replace B7:=(((((((B7.le lb262).le lb263).mod m265 (by omega)).mod m266 (by omega)).le lc268).le lb273).s q274).s q275
 replace lr12:=(((lr12.tl lc268).tl lb273).s q274).s q275
 replace k268_4:=((k268_4.nb lb273 hO273 eb273).st q274 (ir hO273)).st q275 (il hO273 (ir hO262))
 replace OB0:=(((OB0.leO lc268.1).newB sb273 hO273 eb273).leO (Nat.le_of_eq q274.1.symm)).leO (Nat.le_of_eq q275.1.symm)
 exact ⟨(ol266,O273,p266,(.slice A272 n272 c272)),ag2,⟨le,lr12,lx12,fun x hx=>(il hO273 (il hO262 hx)),OB0,B6,(il hO273 (il hO262 (il hO7 (ir hO6)))),B7,(il hO273 (il hO262 (ir hO7))),kr,by omega,by omega,k268_4.cast (by first | rfl | simp_all),pr266⟩⟩
 refine cB rfl aY (fun v276 h276 q276=>?_)
 obtain ⟨b276,O276,rfl,eb276,sb276,lb276,B276,hO276⟩:=q276.ox O262
 refine ⟨Le.mod lb276,?_⟩
 replace lx12:=laB lx12 hO276 (by omega)
 refine aW 9 (?_)
 replace k2_1:=(k2_1.md m266 (fun _ e=>e ▸ (il hO262 (il hO7 (il hO6 mbr))))).nb lb276 hO276 eb276
 replace k2_2:=(k2_2.md m266 (fun _ e=>e ▸ (il hO262 (il hO7 (il hO6 mbr))))).nb lb276 hO276 eb276
 replace k2_3:=(k2_3.md m266 (fun _ e=>e ▸ (il hO262 (il hO7 (il hO6 mbr))))).nb lb276 hO276 eb276
 replace k266_1:=k266_1.nb lb276 hO276 eb276
 replace OB0:=(OB0.leO m266.1).newB sb276 hO276 eb276
 refine cC rfl aG (dM (v:=v2) (t:=t2) k2_1 k2_2 k2_3 k266_1 OB0) (fun v277 h277 q277=>?_)
 obtain ⟨s277_1,s277_2,s277_3,s277_4,rfl,lc277,k277_1,k277_2,k277_3,k277_4⟩:=q277
 have z277:=lc277.1
 refine ⟨Le.mod lc277,?_⟩
 obtain ⟨A278,n278,c278,rfl⟩:=k277_1.frm
 obtain ⟨A279,n279,c279,rfl⟩:=k277_2.frm
 obtain ⟨A280,n280,c280,rfl⟩:=k277_3.frm
 replace k277_4:=k277_4.end OB0
 obtain ⟨A281,n281,c281,rfl⟩:=k277_4.frm
 replace B276:=B276.le lc277
 refine bG 10 rfl (fun _=>y_move)<|bG 11 rfl (fun _=>aL)<|bG 12 rfl (fun _=>aL)<|bG 13 rfl (fun _=>aL)<|cV 16 rfl (aK aP B276) (fun v282 h282 q282=>?_)
 obtain ⟨rfl,q282⟩:=q282
 have z282:=q282.1
 replace B276:=q282.2.2
 replace B262:=(((((B262.le lb263).mod m265 (by omega)).mod m266 (by omega)).le lb276).le lc277).s q282
 refine cV 17 rfl (aK aP B262) (fun v283 h283 q283=>?_)
 replace kr:=((kr.newB lb276 hO276 eb276).leO lc277).setO q282 (ir hO276) (by omega)
 obtain ⟨rfl,q283⟩:=q283
 have z283:=q283.1
 replace B262:=q283.2.2
 replace kr:=kr.setO q283 (il hO276 (ir hO262)) (by omega)
 refine bG 18 rfl (fun _=>aC)<|bD ?_
 replace le:=(((((((((((((le.t m1).t m2).tl lb6).tl lb7).s q8).s q9).tl lb262).tl lb263).t m265).t m266).tl lb276).tl lc277).s q282).s q283
 replace B6:=(((((((B6.le lb262).le lb263).mod m265 (by omega)).mod m266 (by omega)).le lb276).le lc277).s q282).s q283
 replace B7:=(((((((B7.le lb262).le lb263).mod m265 (by omega)).mod m266 (by omega)).le lb276).le lc277).s q282).s q283
 replace lr12:=(((lr12.tl lb276).tl lc277).s q282).s q283
 replace k277_4:=(k277_4.st q282 (ir hO276)).st q283 (il hO276 (ir hO262))
 replace OB0:=OB0.leO (h':=h283) (by omega)
 exact ⟨(ol266,O276,p266,(.slice A281 n281 c281)),ag2,⟨le,lr12,lx12,fun x hx=>(il hO276 (il hO262 hx)),OB0,B6,(il hO276 (il hO262 (il hO7 (ir hO6)))),B7,(il hO276 (il hO262 (ir hO7))),kr,by omega,by omega,k277_4.cast (by first | rfl | simp_all),pr266⟩⟩
 refine cB rfl aY (fun v284 h284 q284=>?_)
 obtain ⟨b284,O284,rfl,eb284,sb284,lb284,B284,hO284⟩:=q284.ox O262
 refine ⟨Le.mod lb284,?_⟩
 replace lx12:=laB lx12 hO284 (by omega)
 refine aW 8 (?_)
 replace kr:=kr.newB lb284 hO284 eb284
 replace k2_1:=(((k2_1.nb lb262 hO262 eb262).le lb263).md m265 (fun _ e=>e ▸ (il hO262 (il hO7 (il hO6 mbr))))).nb lb284 hO284 eb284
 replace k2_2:=(((k2_2.nb lb262 hO262 eb262).le lb263).md m265 (fun _ e=>e ▸ (il hO262 (il hO7 (il hO6 mbr))))).nb lb284 hO284 eb284
 replace k2_3:=(((k2_3.nb lb262 hO262 eb262).le lb263).md m265 (fun _ e=>e ▸ (il hO262 (il hO7 (il hO6 mbr))))).nb lb284 hO284 eb284
 replace OB0:=(OB0.leO m265.1).newB sb284 hO284 eb284
 refine cC rfl aG (eK (v:=v2) (t:=t2) kr k2_1 k2_2 k2_3 OB0) (fun v285 h285 q285=>?_)
 clear kr
 obtain ⟨ol285,⟨m285,p285,kr,pa285,pb285⟩,k285_1,pr285⟩:=q285
 have z285:=m285.1
 replace mR13:=(((mR13.tl lb262).tl lb263).t ms).tl lb284
 replace lr12:=(((lr12.tl lb262).tl lb263).t (Mod.mono m265 (fun x _ e=>e ▸ (il hO7 (il hO6 mbr))))).tl lb284
 have ms:=Mod.mono (S':=S13) m285 (fun x _ e=>(hS13 x).2 (by simp [e]))
 refine ⟨ms,?_⟩
 obtain ⟨A286,n286,c286,rfl⟩:=k285_1.frm
 replace lr12:=lr12.t (Mod.mono m285 (fun x _ e=>e ▸ (il hO7 (il hO6 mbr))))
 have hb_pr285:=fun x hx=>Nat.le_trans (pr285.2 x hx) (by decide:2000 ≤ 1000000)
 refine aW 9 (?_)
 replace k2_1:=k2_1.md m285 (fun _ e=>e ▸ (il hO284 (il hO262 (il hO7 (il hO6 mbr)))))
 replace k2_2:=k2_2.md m285 (fun _ e=>e ▸ (il hO284 (il hO262 (il hO7 (il hO6 mbr)))))
 replace k2_3:=k2_3.md m285 (fun _ e=>e ▸ (il hO284 (il hO262 (il hO7 (il hO6 mbr)))))
 replace OB0:=OB0.leO m285.1
 refine cC rfl aG (dM (v:=v2) (t:=t2) k2_1 k2_2 k2_3 k285_1 OB0) (fun v287 h287 q287=>?_)
 obtain ⟨s287_1,s287_2,s287_3,s287_4,rfl,lc287,k287_1,k287_2,k287_3,k287_4⟩:=q287
 have z287:=lc287.1
 refine ⟨Le.mod lc287,?_⟩
 obtain ⟨A288,n288,c288,rfl⟩:=k287_1.frm
 obtain ⟨A289,n289,c289,rfl⟩:=k287_2.frm
 obtain ⟨A290,n290,c290,rfl⟩:=k287_3.frm
 replace k287_4:=k287_4.end OB0
 obtain ⟨A291,n291,c291,rfl⟩:=k287_4.frm
 replace B284:=(B284.mod m285 (by omega)).le lc287
 refine bG 10 rfl (fun _=>y_move)<|bG 11 rfl (fun _=>aL)<|bG 12 rfl (fun _=>aL)<|bG 13 rfl (fun _=>aL)<|cV 16 rfl (aK aP B284) (fun v292 h292 q292=>?_)
 obtain ⟨rfl,q292⟩:=q292
 have z292:=q292.1
 replace B284:=q292.2.2
 replace B262:=(((((B262.le lb263).mod m265 (by omega)).le lb284).mod m285 (by omega)).le lc287).s q292
 refine cV 17 rfl (aK aP B262) (fun v293 h293 q293=>?_)
 replace kr:=(kr.leO lc287).setO q292 (ir hO284) (by omega)
 obtain ⟨rfl,q293⟩:=q293
 have z293:=q293.1
 replace B262:=q293.2.2
 replace kr:=kr.setO q293 (il hO284 (ir hO262)) (by omega)
 refine bG 18 rfl (fun _=>aC)<|bD ?_
 replace le:=(((((((((((((le.t m1).t m2).tl lb6).tl lb7).s q8).s q9).tl lb262).tl lb263).t m265).tl lb284).t m285).tl lc287).s q292).s q293
 replace B6:=(((((((B6.le lb262).le lb263).mod m265 (by omega)).le lb284).mod m285 (by omega)).le lc287).s q292).s q293
 replace B7:=(((((((B7.le lb262).le lb263).mod m265 (by omega)).le lb284).mod m285 (by omega)).le lc287).s q292).s q293
 replace lr12:=((lr12.tl lc287).s q292).s q293
 replace k287_4:=(k287_4.st q292 (ir hO284)).st q293 (il hO284 (ir hO262))
 replace OB0:=OB0.leO (h':=h293) (by omega)
 exact ⟨(ol285,O284,p285,(.slice A291 n291 c291)),ag2,⟨le,lr12,lx12,fun x hx=>(il hO284 (il hO262 hx)),OB0,B6,(il hO284 (il hO262 (il hO7 (ir hO6)))),B7,(il hO284 (il hO262 (ir hO7))),kr,by omega,by omega,k287_4.cast (by first | rfl | simp_all),pr285⟩⟩
 refine cB rfl aY (fun v294 h294 q294=>?_)
 obtain ⟨b294,O294,rfl,eb294,sb294,lb294,B294,hO294⟩:=q294.ox O262
 refine ⟨Le.mod lb294,?_⟩
 replace lx12:=laB lx12 hO294 (by omega)
 refine aW 7 (?_)
 replace kr:=((kr.newB lb262 hO262 eb262).leO lb263).newB lb294 hO294 eb294
 replace k263:=k263.nb lb294 hO294 eb294
 replace OB0:=(OB0.leO lb263.1).newB sb294 hO294 eb294
 refine cC rfl aG (jH kr k263 OB0) (fun v295 h295 q295=>?_)
 clear kr
 obtain ⟨n295,rfl,⟨m295,p295,kr,pa295,pb295⟩,pr295⟩:=q295
 have z295:=m295.1
 have ms:=Mod.mono (S':=S13) m295 (fun x _ e=>(hS13 x).2 (by simp [e]))
 refine ⟨ms,?_⟩
 have ib295:0 ≤ n295∧n295 ≤ 8:=jM (by decide) pr295
 refine aW 8 (?_)
 replace k2_1:=(((k2_1.nb lb262 hO262 eb262).le lb263).nb lb294 hO294 eb294).md m295 (fun _ e=>e ▸ (il hO294 (il hO262 (il hO7 (il hO6 mbr)))))
 replace k2_2:=(((k2_2.nb lb262 hO262 eb262).le lb263).nb lb294 hO294 eb294).md m295 (fun _ e=>e ▸ (il hO294 (il hO262 (il hO7 (il hO6 mbr)))))
 replace k2_3:=(((k2_3.nb lb262 hO262 eb262).le lb263).nb lb294 hO294 eb294).md m295 (fun _ e=>e ▸ (il hO294 (il hO262 (il hO7 (il hO6 mbr)))))
 replace OB0:=OB0.leO m295.1
 refine cC rfl aG (eK (v:=v2) (t:=t2) kr k2_1 k2_2 k2_3 OB0) (fun v296 h296 q296=>?_)
 clear kr
 obtain ⟨ol296,⟨m296,p296,kr,pa296,pb296⟩,k296_1,pr296⟩:=q296
 have z296:=m296.1
 replace mR13:=(((mR13.tl lb262).tl lb263).tl lb294).t ms
 replace lr12:=(((lr12.tl lb262).tl lb263).tl lb294).t (Mod.mono m295 (fun x _ e=>e ▸ (il hO7 (il hO6 mbr))))
 have ms:=Mod.mono (S':=S13) m296 (fun x _ e=>(hS13 x).2 (by simp [e]))
 refine ⟨ms,?_⟩
 obtain ⟨A297,n297,c297,rfl⟩:=k296_1.frm
 replace lr12:=lr12.t (Mod.mono m296 (fun x _ e=>e ▸ (il hO7 (il hO6 mbr))))
 have hb_pr296:=fun x hx=>Nat.le_trans (pr296.2 x hx) (by decide:2000 ≤ 1000000)
 refine aW 9 (?_)
 replace k2_1:=k2_1.md m296 (fun _ e=>e ▸ (il hO294 (il hO262 (il hO7 (il hO6 mbr)))))
 replace k2_2:=k2_2.md m296 (fun _ e=>e ▸ (il hO294 (il hO262 (il hO7 (il hO6 mbr)))))
 replace k2_3:=k2_3.md m296 (fun _ e=>e ▸ (il hO294 (il hO262 (il hO7 (il hO6 mbr)))))
 replace OB0:=OB0.leO m296.1
 refine cC rfl aG (dM (v:=v2) (t:=t2) k2_1 k2_2 k2_3 k296_1 OB0) (fun v298 h298 q298=>?_)
 obtain ⟨s298_1,s298_2,s298_3,s298_4,rfl,lc298,k298_1,k298_2,k298_3,k298_4⟩:=q298
 have z298:=lc298.1
 refine ⟨Le.mod lc298,?_⟩
 obtain ⟨A299,n299,c299,rfl⟩:=k298_1.frm
 obtain ⟨A300,n300,c300,rfl⟩:=k298_2.frm
 obtain ⟨A301,n301,c301,rfl⟩:=k298_3.frm
 replace k298_4:=k298_4.end OB0
 obtain ⟨A302,n302,c302,rfl⟩:=k298_4.frm
 replace B294:=((B294.mod m295 (by omega)).mod m296 (by omega)).le lc298
 refine bG 10 rfl (fun _=>y_move)<|bG 11 rfl (fun _=>aL)<|bG 12 rfl (fun _=>aL)<|bG 13 rfl (fun _=>aL)<|cV 16 rfl (aK aP B294) (fun v303 h303 q303=>?_)
 obtain ⟨rfl,q303⟩:=q303
 have z303:=q303.1
 replace B294:=q303.2.2
 replace B262:=(((((B262.le lb263).le lb294).mod m295 (by omega)).mod m296 (by omega)).le lc298).s q303
 refine cV 17 rfl (aK aP B262) (fun v304 h304 q304=>?_)
 replace kr:=(kr.leO lc298).setO q303 (ir hO294) (by omega)
 obtain ⟨rfl,q304⟩:=q304
 have z304:=q304.1
 replace B262:=q304.2.2
 replace kr:=kr.setO q304 (il hO294 (ir hO262)) (by omega)
 refine bG 18 rfl (fun _=>aC)<|bD ?_
 replace le:=(((((((((((((le.t m1).t m2).tl lb6).tl lb7).s q8).s q9).tl lb262).tl lb263).tl lb294).t m295).t m296).tl lc298).s q303).s q304
 replace B6:=(((((((B6.le lb262).le lb263).le lb294).mod m295 (by omega)).mod m296 (by omega)).le lc298).s q303).s q304
 replace B7:=(((((((B7.le lb262).le lb263).le lb294).mod m295 (by omega)).mod m296 (by omega)).le lc298).s q303).s q304
 replace lr12:=((lr12.tl lc298).s q303).s q304
 replace k298_4:=(k298_4.st q303 (ir hO294)).st q304 (il hO294 (ir hO262))
 replace OB0:=OB0.leO (h':=h304) (by omega)
 exact ⟨(ol296,O294,p296,(.slice A302 n302 c302)),ag2,⟨le,lr12,lx12,fun x hx=>(il hO294 (il hO262 hx)),OB0,B6,(il hO294 (il hO262 (il hO7 (ir hO6)))),B7,(il hO294 (il hO262 (ir hO7))),kr,by omega,by omega,k298_4.cast (by first | rfl | simp_all),pr296⟩⟩
 refine cB rfl aY (fun v305 h305 q305=>?_)
 obtain ⟨b305,O305,rfl,eb305,sb305,lb305,B305,hO305⟩:=q305.ox O262
 refine ⟨Le.mod lb305,?_⟩
 replace lx12:=laB lx12 hO305 (by omega)
 refine aW 6 (?_)
 refine cB rfl (bA (l:=([3,5,8,1,0]:List Int))) (fun v306 h306 q306=>?_)
 obtain ⟨lb306,ow306,sb306⟩:=q306
 have z306:=lb306.1
 refine ⟨Le.mod lb306,?_⟩
 replace OB0:=(OB0.newB sb262 hO262 eb262).newB sb305 hO305 eb305
 replace k306:Rs _ O305 _ _:=Ow.end ⟨ow306,⟨by simp,by simp [Ok.ok]⟩⟩ OB0
 obtain ⟨A307,n307,c307,rfl⟩:=k306.frm
 refine aW 7 (?_)
 replace kr:=((kr.newB lb262 hO262 eb262).newB lb305 hO305 eb305).leO lb306
 replace OB0:=OB0.leO lb306.1
 refine cC rfl aG (jH kr k306 OB0) (fun v308 h308 q308=>?_)
 clear kr
 obtain ⟨n308,rfl,⟨m308,p308,kr,pa308,pb308⟩,pr308⟩:=q308
 have z308:=m308.1
 have ms:=Mod.mono (S':=S13) m308 (fun x _ e=>(hS13 x).2 (by simp [e]))
 refine ⟨ms,?_⟩
 have ib308:0 ≤ n308∧n308 ≤ 8:=jM (by decide) pr308
 refine aW 8 (?_)
 replace k2_1:=(((k2_1.nb lb262 hO262 eb262).nb lb305 hO305 eb305).le lb306).md m308 (fun _ e=>e ▸ (il hO305 (il hO262 (il hO7 (il hO6 mbr)))))
 replace k2_2:=(((k2_2.nb lb262 hO262 eb262).nb lb305 hO305 eb305).le lb306).md m308 (fun _ e=>e ▸ (il hO305 (il hO262 (il hO7 (il hO6 mbr)))))
 replace k2_3:=(((k2_3.nb lb262 hO262 eb262).nb lb305 hO305 eb305).le lb306).md m308 (fun _ e=>e ▸ (il hO305 (il hO262 (il hO7 (il hO6 mbr)))))
 replace OB0:=OB0.leO m308.1
 refine cC rfl aG (eK (v:=v2) (t:=t2) kr k2_1 k2_2 k2_3 OB0) (fun v309 h309 q309=>?_)
 clear kr
 obtain ⟨ol309,⟨m309,p309,kr,pa309,pb309⟩,k309_1,pr309⟩:=q309
 have z309:=m309.1
 replace mR13:=(((mR13.tl lb262).tl lb305).tl lb306).t ms
 replace lr12:=(((lr12.tl lb262).tl lb305).tl lb306).t (Mod.mono m308 (fun x _ e=>e ▸ (il hO7 (il hO6 mbr))))
 have ms:=Mod.mono (S':=S13) m309 (fun x _ e=>(hS13 x).2 (by simp [e]))
 refine ⟨ms,?_⟩
 obtain ⟨A310,n310,c310,rfl⟩:=k309_1.frm
 replace lr12:=lr12.t (Mod.mono m309 (fun x _ e=>e ▸ (il hO7 (il hO6 mbr))))
 have hb_pr309:=fun x hx=>Nat.le_trans (pr309.2 x hx) (by decide:2000 ≤ 1000000)
 refine aW 9 (?_)
 replace k2_1:=k2_1.md m309 (fun _ e=>e ▸ (il hO305 (il hO262 (il hO7 (il hO6 mbr)))))
 replace k2_2:=k2_2.md m309 (fun _ e=>e ▸ (il hO305 (il hO262 (il hO7 (il hO6 mbr)))))
 replace k2_3:=k2_3.md m309 (fun _ e=>e ▸ (il hO305 (il hO262 (il hO7 (il hO6 mbr)))))
 replace OB0:=OB0.leO m309.1
 refine cC rfl aG (dM (v:=v2) (t:=t2) k2_1 k2_2 k2_3 k309_1 OB0) (fun v311 h311 q311=>?_)
 obtain ⟨s311_1,s311_2,s311_3,s311_4,rfl,lc311,k311_1,k311_2,k311_3,k311_4⟩:=q311
 have z311:=lc311.1
 refine ⟨Le.mod lc311,?_⟩
 obtain ⟨A312,n312,c312,rfl⟩:=k311_1.frm
 obtain ⟨A313,n313,c313,rfl⟩:=k311_2.frm
 obtain ⟨A314,n314,c314,rfl⟩:=k311_3.frm
 replace k311_4:=k311_4.end OB0
 obtain ⟨A315,n315,c315,rfl⟩:=k311_4.frm
 replace B305:=(((B305.le lb306).mod m308 (by omega)).mod m309 (by omega)).le lc311
 refine bG 10 rfl (fun _=>y_move)<|bG 11 rfl (fun _=>aL)<|bG 12 rfl (fun _=>aL)<|bG 13 rfl (fun _=>aL)<|cV 16 rfl (aK aP B305) (fun v316 h316 q316=>?_)
 obtain ⟨rfl,q316⟩:=q316
 have z316:=q316.1
 replace B305:=q316.2.2
 replace B262:=(((((B262.le lb305).le lb306).mod m308 (by omega)).mod m309 (by omega)).le lc311).s q316
 refine cV 17 rfl (aK aP B262) (fun v317 h317 q317=>?_)
 replace kr:=(kr.leO lc311).setO q316 (ir hO305) (by omega)
 obtain ⟨rfl,q317⟩:=q317
 have z317:=q317.1
 replace B262:=q317.2.2
 replace kr:=kr.setO q317 (il hO305 (ir hO262)) (by omega)
 refine bG 18 rfl (fun _=>aC)<|bD ?_
 replace le:=(((((((((((((le.t m1).t m2).tl lb6).tl lb7).s q8).s q9).tl lb262).tl lb305).tl lb306).t m308).t m309).tl lc311).s q316).s q317
 replace B6:=(((((((B6.le lb262).le lb305).le lb306).mod m308 (by omega)).mod m309 (by omega)).le lc311).s q316).s q317
 replace B7:=(((((((B7.le lb262).le lb305).le lb306).mod m308 (by omega)).mod m309 (by omega)).le lc311).s q316).s q317
 replace lr12:=((lr12.tl lc311).s q316).s q317
 replace k311_4:=(k311_4.st q316 (ir hO305)).st q317 (il hO305 (ir hO262))
 replace OB0:=OB0.leO (h':=h317) (by omega)
 exact ⟨(ol309,O305,p309,(.slice A315 n315 c315)),ag2,⟨le,lr12,lx12,fun x hx=>(il hO305 (il hO262 hx)),OB0,B6,(il hO305 (il hO262 (il hO7 (ir hO6)))),B7,(il hO305 (il hO262 (ir hO7))),kr,by omega,by omega,k311_4.cast (by first | rfl | simp_all),pr309⟩⟩
 replace le:=(((((le.t m1).t m2).tl lb6).tl lb7).s q8).s q9
 replace kr:=kr.setO q9 (ir hO7) (by omega)
 replace B6:=B6.s q9
 rintro ⟨jol14,OL12,p12,js10⟩ r hl12 ⟨le,lp12,la12,lb12,lo12,B6,mB6,B7,mB7,kr,pa12,pb12,kjs10,jp11⟩
 obtain ⟨A318,n318,c318,rfl⟩:=kjs10.frm
 have zl12:=lp12.1
 refine aI ?_
 refine hw_sr (aB y_move<|aB (y_lenA kjs10.1)<|aB cU<|aB y_move<|?_)
 replace OB0:=lo12
 refine dA ((0:Int) < (((cJ v2 t2 jol14).2.2).length:Int)) (fun g35=>?_) (fun g35=>?_)
 refine aO (dT g35) y_move<|iR (dT g35) aG (eH kr OB0) (fun v319 h319 q319=>?_)
 clear kr
 obtain ⟨i319,rfl,⟨m319,p319,kr,pa319,pb319⟩,pr319⟩:=q319
 have z319:=m319.1
 refine aO (dT g35) bM<|aB (y_pickT (dT g35))<|aD ?_
 refine aF (ah3 0 7 39) fun r=>?_
 refine aZ (fun g39=>?_) (fun g39=>?_)
 refine hw_sr (aB y_move<|aB y_move<|aB y_move<|aB (y_lenA kjs10.1)<|?_)
 replace OB0:=OB0.leO m319.1
 refine bL aG (eH kr OB0) (fun v320 h320 q320=>?_)
 clear kr
 obtain ⟨i320,rfl,⟨m320,p320,kr,pa320,pb320⟩,pr320⟩:=q320
 have z320:=m320.1
 refine aB (iG kjs10.1)<|aB aC<|aD ?_
 refine aF (ah1 2) fun r=>?_
 refine hw_rr ?_
 refine aQ rfl (.cons aU .nil) ?_
 replace le:=(le.t m319).t m320
 replace kjs10:=(kjs10.md m319 (fun _ e=>e ▸ (lb12 _ (il hO7 (il hO6 mbr))))).md m320 (fun _ e=>e ▸ (lb12 _ (il hO7 (il hO6 mbr))))
 exact ⟨_,⟨le,_,RD.weakO kr (fun x hx=>(lb12 _ (il hO7 (il hO6 hx)))) mbr,by omega,by omega⟩,((Rs.cutHi kjs10 (n:=(i320).toNat) (by first | omega | (simp; omega))).wk (fun x hx=>(lb12 _ (il hO7 (il hO6 hx))))).cast (by first | rfl | (simp_all [oneOf] <;> omega)),by first | omega | (simp; omega) | exact fZ (by omega) | (rw [List.length_take]; exact Nat.le_trans (Nat.min_le_right _ _) (fZ (by omega)))⟩
 refine aM ?_
 refine hw_sr (aB y_move<|aB aC<|aD ?_)
 refine hw_rr ?_
 refine aQ rfl (.cons aU .nil) ?_
 replace le:=le.t m319
 replace kjs10:=kjs10.md m319 (fun _ e=>e ▸ (lb12 _ (il hO7 (il hO6 mbr))))
 exact ⟨_,⟨le,_,RD.weakO kr (fun x hx=>(lb12 _ (il hO7 (il hO6 hx)))) mbr,by omega,by omega⟩,(kjs10.wk (fun x hx=>(lb12 _ (il hO7 (il hO6 hx))))).cast (by first | rfl | (simp_all [oneOf] <;> omega)),by first | omega | (simp; omega) | exact fZ (by omega) | (rw [List.length_take]; exact Nat.le_trans (Nat.min_le_right _ _) (fZ (by omega)))⟩
 refine aN (neF (dF g35))<|aN (neF (dF g35))<|aN (neF (dF g35))<|aB (aR (dF g35))<|aD ?_
 refine aF (ah3 0 7 39) fun r=>?_
 refine eZ rfl ?_
 refine aM ?_
 refine hw_sr (aB y_move<|aB aC<|aD ?_)
 refine hw_rr ?_
 refine aQ rfl (.cons aU .nil) ?_
 exact ⟨_,⟨le,_,RD.weakO kr (fun x hx=>(lb12 _ (il hO7 (il hO6 hx)))) mbr,by omega,by omega⟩,(kjs10.wk (fun x hx=>(lb12 _ (il hO7 (il hO6 hx))))).cast (by first | rfl | (simp_all [oneOf] <;> omega)),by first | omega | (simp; omega) | exact fZ (by omega) | (rw [List.length_take]; exact Nat.le_trans (Nat.min_le_right _ _) (fZ (by omega)))⟩
 refine aM ?_
 refine hw_sr (?_)
 refine bE (bA (l:=([]:List Letter))) (fun v321 h321 q321=>?_)
 obtain ⟨lb321,ow321,sb321⟩:=q321
 have z321:=lb321.1
 obtain ⟨O321,hO321⟩:=mkO (fun x=>O x ∨ vblk v321 x)
 replace o321:Ow _ _ _ _ _:=⟨ow321,OkL.nil⟩
 obtain ⟨A322,n322,c322,rfl⟩:=o321.frm
 refine aB aC<|aD ?_
 refine aI ?_
 refine hw_sr (aB y_move<|?_)
 refine bE (bA (l:=([2,4,1,6,0]:List Int))) (fun v323 h323 q323=>?_)
 obtain ⟨lb323,ow323,sb323⟩:=q323
 have z323:=lb323.1
 replace OB0:=(OB0.leO m1.1).newS lb321.1 hO321 (fun x hv=>(ow321.vb hv).2)
 replace k323:Rs _ O321 _ _:=Ow.end ⟨ow323,⟨by simp,by simp [Ok.ok]⟩⟩ OB0
 obtain ⟨A324,n324,c324,rfl⟩:=k323.frm
 replace kr:=(kr.newS lb321 hO321 (fun x hv=>(ow321.vb hv).1)).leO lb323
 replace OB0:=OB0.leO lb323.1
 refine bL aG (jH kr k323 OB0) (fun v325 h325 q325=>?_)
 clear kr
 obtain ⟨n325,rfl,⟨m325,p325,kr,pa325,pb325⟩,pr325⟩:=q325
 have z325:=m325.1
 replace o321:=o321.le lb323
 have ib325:0 ≤ n325∧n325 ≤ 6:=jM (by decide) pr325
 refine aB aC<|aD ?_
 refine aF (ah3 0 8 9) fun r=>?_
 replace le:=(((le.t m1).tl lb321).tl lb323).t m325
 replace o321:=o321.md m325 (fun x hv e=>by have:=o321.vb hv; omega)
 replace OB0:=OB0.leO m325.1
 refine cT (fun (gx:Int × (List Letter) × (Nat → Prop) × Value × Int)=>match gx with | (i,m,OL326,ov,p326)=>[(0,.pointer (some ⟨br,0,none⟩)),(8,ov),(9,vi i)]) (fun (gx:Int × (List Letter) × (Nat → Prop) × Value × Int) (h' : Heap)=>match gx with | (i,m,OL326,ov,p326)=>Mod (· = br) h h' ∧ Mod O321 h325 h' ∧ (∀ x,OL326 x → O321 x ∨ h325.size ≤ x)∧(∀ x,O321 x → OL326 x)∧OB h' OL326∧Ow h' h.size ov m 28∧(∀ x,vblk ov x → OL326 x)∧RD h' OL326 br p326∧p325 ≤ p326∧p326 ≤ p325 + 10 * (6 - i)∧0 ≤ i∧(m.length:Int) ≤ 6) (aX (cK (fun (gx:Int × (List Letter) × (Nat → Prop) × Value × Int)=>match gx with | (i,m,OL326,ov,p326)=>[(0,.pointer (some ⟨br,0,none⟩)),(8,ov),(9,vi i)]) (fun (gx:Int × (List Letter) × (Nat → Prop) × Value × Int) (h' : Heap)=>match gx with | (i,m,OL326,ov,p326)=>Mod (· = br) h h' ∧ Mod O321 h325 h' ∧ (∀ x,OL326 x → O321 x ∨ h325.size ≤ x)∧(∀ x,O321 x → OL326 x)∧OB h' OL326∧Ow h' h.size ov m 28∧(∀ x,vblk ov x → OL326 x)∧RD h' OL326 br p326∧p325 ≤ p326∧p326 ≤ p325 + 10 * (6 - i)∧0 ≤ i∧i ≤ 6∧(m.length:Int) ≤ 6 - i) (fun (gx:Int × (List Letter) × (Nat → Prop) × Value × Int)=>match gx with | (i,m,OL326,ov,p326)=>i.toNat) (n325,[],O321,(.slice A322 n322 c322),p325) ag3 ⟨le,Mod.refl _,fun x hx=>.inl hx,fun x hx=>hx,OB0,o321.wk (by omega),(fun x hv=>(hO321 x).2 (.inr hv)),kr,by omega,by omega,by exact ⟨by omega,by omega,by simp; omega⟩⟩ ?_)) ?_
 rintro ⟨i,m,OL326,ov,p326⟩ r hl326 ⟨le,lp326,la326,lb326,lo326,o321,mo321,kr,pa326,pb326,e0,e1,e2⟩
 obtain ⟨A327,n327,c327,rfl⟩:=o321.frm
 have zl326:=lp326.1
 replace lr326:=lp326
 replace lx326:=la326
 refine aI ?_
 refine hw_sr (aB y_move<|aB cU<|aD ?_)
 refine aZ (fun g52=>?_) (fun g52=>?_)
 refine aM ?_
 refine aI ?_
 refine aX ?_
 refine aE (aB y_move<|aB y_move<|?_)
 replace OB0:=lo326
 refine bL aG (aA0 kr OB0) (fun v328 h328 q328=>?_)
 clear kr
 obtain ⟨l328,rfl,⟨m328,p328,kr,pa328,pb328⟩,pr328⟩:=q328
 have z328:=m328.1
 refine bE (bA (l:=([l328]:List Letter))) (fun v329 h329 q329=>?_)
 obtain ⟨lb329,ow329,sb329⟩:=q329
 have z329:=lb329.1
 replace OB0:=OB0.leO m328.1
 replace k329:Rs _ OL326 _ _:=Ow.end ⟨ow329,ok1⟩ OB0
 obtain ⟨A330,n330,c330,rfl⟩:=k329.frm
 replace o321:=(o321.md m328 (fun x hv e=>by have:=o321.vb hv; omega)).le lb329
 refine bE (bW aP o321.1 k329.1 (by omega) (Nat.add_le_add o321.2.len k329.2.len)) (fun v331 h331 q331=>?_)
 have L1:=o321.2.len
 have L2:=k329.2.len
 obtain ⟨O331,hO331,z331,ow331⟩:=q331.ow (OkL.app o321.2 k329.2 (by first | omega | (simp only [List.length_append,List.length_take,List.length_drop,List.length_cons,List.length_nil,List.length_set]; omega) | (simp; omega))) OL326
 replace lr326:=((lr326.t (Mod.mono m328 (fun x _ e=>e ▸ (il hO321 mbr)))).tl lb329).apO q331 (fun x hv=>lx326 x (mo321 x hv))
 replace lx326:=laA lx326 hO331 q331 mo321 (by omega)
 replace le:=((le.t m328).tl lb329).ap o321 q331 (by omega)
 replace kr:=(kr.leO lb329).appO q331 mo321 hO331 (fun hv=>by have:=o321.vb hv; omega)
 replace o321:=ow331
 obtain ⟨A332,n332,c332,rfl⟩:=o321.frm
 refine aB aC<|aD ?_
 refine aF (ah3 0 8 9) fun r=>?_
 refine aE (aB y_move<|aB dQ<|aB aC<|aD ?_)
 replace OB0:=(OB0.leO lb329.1).app q331 hO331
 exact ⟨((i - 1),(m ++ ([l328]:List Letter)),O331,(.slice A332 n332 c332),p328),ag3,⟨le,lr326,lx326,fun x hx=>(il hO331 (lb326 _ hx)),OB0,o321.wk (by omega),(fun x hv=>(hO331 x).2 (.inr hv)),kr,by omega,by omega,by first | omega | (simp; omega)⟩,by first | omega | (dsimp only; omega)⟩
 refine cI ?_
 replace OB0:=lo326
 exact ⟨(i,m,OL326,(.slice A327 n327 c327),p326),ag3,⟨le,lr326,lx326,fun x hx=>(lb326 _ hx),OB0,o321.wk (by omega),mo321,kr,by omega,by omega,by omega⟩⟩
 rintro ⟨i,m,OL326,ov,p326⟩ r hl326 ⟨le,lp326,la326,lb326,lo326,o321,mo321,kr,pa326,pb326,e0,e1⟩
 obtain ⟨A333,n333,c333,rfl⟩:=o321.frm
 have zl326:=lp326.1
 refine hw_sr (aB y_move<|aB aC<|aD ?_)
 refine hw_rr ?_
 refine aQ rfl (.cons aU .nil) ?_
 exact ⟨_,⟨le,_,RD.weakO kr (fun x hx=>(lb326 _ (il hO321 hx))) mbr,by omega,by omega⟩,(o321.fin OBe (by omega)).cast (by first | rfl | (simp_all [oneOf] <;> omega)),by first | omega | (simp; omega) | exact fZ (by omega) | (rw [List.length_take]; exact Nat.le_trans (Nat.min_le_right _ _) (fZ (by omega)))⟩
end
section
open Go.Conc
section
variable {P:Program} {J:eM P} {w0:World} {s:Env} {h:Heap} {ty t yt:TypeId} {x y:Operand}
class IfcT (P:Program) (t:TypeId):Prop where h:∃ ms,P.underlying t = some (.interface ms)
class aDA (P:Program) (t:TypeId):Prop where h:∃ d,P.underlying t = some d∧∀ ms,d ≠ .interface ms
def EV (ok:Bool) (u:Value):Prop:=(ok = true∧u = .nilIface) ∨ (ok = false∧∃ T v,u = .iface T v)
theorem EV.some (T:TypeId) (v:Value):EV false (.iface T v):=.inr ⟨rfl,T,v,rfl⟩
theorem uL {w:World} (d:Nat) {ms:_} (hu:P.underlying t = .some (.interface ms)):(Op.equalIn (d + 1) t .nilIface .nilIface).run P w = .ok true w:=by
  simp [Op.equalIn,run_underlying hu]
theorem uK {w:World} (d:Nat) {ms:_} (hu:P.underlying t = .some (.interface ms)) (T:TypeId) (v:Value):(Op.equalIn (d + 1) t (.iface T v) .nilIface).run P w = .ok false w:=by
  simp [Op.equalIn,run_underlying hu]
theorem aBe {w:World} (d:Nat) {ms:_} (hu:P.underlying t = .some (.interface ms)) (T:TypeId) (v:Value):(Op.equalIn (d + 1) t .nilIface (.iface T v)).run P w = .ok false w:=by
  simp [Op.equalIn,run_underlying hu]
theorem pK {w:World} {es:Array Event} (d:Nat) {ms:_} (hu:P.underlying t = .some (.interface ms)):(Op.equalIn (d + 1) t .nilIface .nilIface).events P w es = es:=by
  simp [Op.equalIn,run_underlying hu]
theorem pJ {w:World} {es:Array Event} (d:Nat) {ms:_} (hu:P.underlying t = .some (.interface ms)) (T:TypeId) (v:Value):(Op.equalIn (d + 1) t (.iface T v) .nilIface).events P w es = es:=by
  simp [Op.equalIn,run_underlying hu]
theorem vO {w:World} {es:Array Event} (d:Nat) {ms:_} (hu:P.underlying t = .some (.interface ms)) (T:TypeId) (v:Value):(Op.equalIn (d + 1) t .nilIface (.iface T v)).events P w es = es:=by
  simp [Op.equalIn,run_underlying hu]
theorem aCC {ok:Bool} {u:Value} [ht:IfcT P t] (hE:EV ok u) (hx:ev s x = u:=by (simp only [ev,aH,reduceIte,Nat.reduceEqDiff,reduceCtorEq] <;> rfl)):Y P s h (.binOp .eql t x (.const .nilIface) yt) ty (.bool ok):=fun _ _ _ _ w _=>by
  obtain ⟨ms,hu⟩:=ht.h
  have hy:ev s (.const .nilIface) = .nilIface:=rfl
  rcases hE with ⟨rfl,rfl⟩ | ⟨rfl,T,v,rfl⟩
  · have e:binOp .eql t .nilIface .nilIface = (do pure (.bool (← Op.equal t .nilIface .nilIface))):=rfl
    have e1:(Op.equal t .nilIface .nilIface).run P w = .ok true w:=uL 9999 hu
    have e2:∀ es,(Op.equal t .nilIface .nilIface).events P w es = es:=fun es=>pK 9999 hu
    simp [execOp,hx,hy,eqGuard,e,e1,e2]
  · have e:binOp .eql t (.iface T v) .nilIface = (do pure (.bool (← Op.equal t (.iface T v) .nilIface))):=rfl
    have e1:(Op.equal t (.iface T v) .nilIface).run P w = .ok false w:=uK 9999 hu T v
    have e2:∀ es,(Op.equal t (.iface T v) .nilIface).events P w es = es:=fun es=>pJ 9999 hu T v
    simp [execOp,hx,hy,eqGuard,e,e1,e2]
theorem vS {ok:Bool} {u:Value} [ht:IfcT P t] (hE:EV ok u) (hx:ev s x = u:=by (simp only [ev,aH,reduceIte,Nat.reduceEqDiff,reduceCtorEq] <;> rfl)):Y P s h (.binOp .neq t x (.const .nilIface) yt) ty (.bool (!ok)):=fun _ _ _ _ w _=>by
  obtain ⟨ms,hu⟩:=ht.h
  have hy:ev s (.const .nilIface) = .nilIface:=rfl
  rcases hE with ⟨rfl,rfl⟩ | ⟨rfl,T,v,rfl⟩
  · have e:binOp .neq t .nilIface .nilIface = (do pure (.bool (!(← Op.equal t .nilIface .nilIface)))):=rfl
    have e1:(Op.equal t .nilIface .nilIface).run P w = .ok true w:=uL 9999 hu
    have e2:∀ es,(Op.equal t .nilIface .nilIface).events P w es = es:=fun es=>pK 9999 hu
    simp [execOp,hx,hy,eqGuard,e,e1,e2]
  · have e:binOp .neq t (.iface T v) .nilIface = (do pure (.bool (!(← Op.equal t (.iface T v) .nilIface)))):=rfl
    have e1:(Op.equal t (.iface T v) .nilIface).run P w = .ok false w:=uK 9999 hu T v
    have e2:∀ es,(Op.equal t (.iface T v) .nilIface).events P w es = es:=fun es=>pJ 9999 hu T v
    simp [execOp,hx,hy,eqGuard,e,e1,e2]
theorem kA {u:Value} [ht:aDA P t] (hx:ev s x = u:=by (simp only [ev,aH,reduceIte,Nat.reduceEqDiff,reduceCtorEq] <;> rfl)):Y P s h (.makeInterface t x) ty (.iface t u):=fun _ _ _ _ w _=>by
  obtain ⟨d,hu,hd⟩:=ht.h
  cases d <;> first | exact absurd rfl (hd _) | simp [execOp,hx,Instr.makeInterface,run_underlying hu]
structure aDz (P:Program) (f:FuncId) (e:Array Value → Sem Value):Prop where
  h:∃ fn,P.funcs[f]? = some fn∧(fn.name == "runtime.NumGoroutine") = false∧fn.body.isNone = true∧Extern.findNext fn = none∧Extern.find fn = some e
theorem aCB {f:FuncId} {e:Array Value → Sem Value} (hf:aDz P f e) {xs:List Operand} {ats:Array TypeId} {vals:List Value} {v:Value} (hr:∀ w,w.heap = h → (e vals.toArray).run P w = .ok v w∧∀ es,(e vals.toArray).events P w es = es) (hv:xs.map (ev s) = vals:=by (simp only [List.map_cons,List.map_nil,ev,aH,reduceIte,Nat.reduceEqDiff,reduceCtorEq] <;> rfl)) :
    Y P s h (.call { callee:=.value (.func f),args:=xs.toArray,argTypes:=ats }) ty v:=fun _ _ _ _ w hh=>by
  obtain ⟨fn,h1,h2,h3,h4,h5⟩:=hf.h
  have h2' : ¬ fn.name = "runtime.NumGoroutine":=by simpa using h2
  have h3' : fn.body = none:=by simpa using h3
  obtain ⟨r1,r2⟩:=hr w hh
  have e1:∀ d ps af g,execOp (ev s) { dst:=d,op:=.call { callee:=.value (.func f),args:=xs.toArray,argTypes:=ats },type:=ty,pos:=ps,after:=af,guard:=g } = callFunc f vals.toArray:=by
    intro d ps af g; rw [← hv]; simp [execOp,resolve,Deferred.ofValue,ev,invoke]
  rw [e1]
  simp [callFunc,h1,h2',h3',h4,h5,r1,r2]
  rfl
class yI (P:Program) (t:TypeId) (n:outParam Nat) (e:outParam TypeId):Prop where h:P.underlying t = some (.array n e)
theorem sQ {a:Addr} {n sz:Nat} {e:TypeId} {k:IntKind} {i:Nat} [ht:yI P t n e] [hz:eG P e sz] (hx:ev s x = .pointer (some a):=by (simp only [ev,aH,reduceIte,Nat.reduceEqDiff,reduceCtorEq] <;> rfl)) (hy:ev s y = .int k i:=by (simp only [ev,aH,reduceIte,Nat.reduceEqDiff,reduceCtorEq] <;> rfl)) (hi:i < n:=by first | omega | decide) :
    Y P s h (.indexAddr t x y) ty (.pointer (some (a.add (i * sz)))):=fun _ _ _ _ w _=>by
  obtain ⟨info,hi',hs⟩:=Option.map_eq_some_iff.1 hz.h
  simp [execOp,Instr.indexAt,hx,hy,ht.h,run_underlying,asIntOf,Instr.sureAddr,sizeOf,typeInfo,hi',hs,hi]
theorem aCE {cs:List Value} {n:Nat} {e:TypeId} {u:Value} {k:IntKind} {i:Nat} [ht:yI P t n e] [hz:eG P e 1] [ho:rN P e] (hc:cs[i]? = some u) (hn:cs.length = n:=by rfl) (hx:ev s x = .agg cs.toArray:=by (simp only [ev,aH,reduceIte,Nat.reduceEqDiff,reduceCtorEq] <;> rfl)) (hy:ev s y = .int k i:=by (simp only [ev,aH,reduceIte,Nat.reduceEqDiff,reduceCtorEq] <;> rfl)) :
    Y P s h (.index t x y) ty u:=fun _ _ _ _ w _=>by
  obtain ⟨info,hi',hs⟩:=Option.map_eq_some_iff.1 hz.h
  have hlt:i < n:=hn ▸ (List.getElem?_eq_some_iff.1 hc).1
  have h1:=lU ho.h w
  simp [execOp,Instr.index,hx,hy,ht.h,run_underlying,asIntOf,sizeOf,typeInfo,hi',hs,hlt,part,h1,hc]
theorem aDm {f:FuncId} {q:Nat} {xs:List Operand} {ats:Array TypeId} {vals:List Value} [hf:bS P f] (hq:ev s (.tmp q) = .func (.func f) #[] #[]:=by (simp only [ev,aH,reduceIte,Nat.reduceEqDiff,reduceCtorEq] <;> rfl)) (hv:xs.map (ev s) = vals:=by (simp only [List.map_cons,List.map_nil,ev,aH,reduceIte,Nat.reduceEqDiff,reduceCtorEq] <;> rfl)) :
    Ent J s h (.call { callee:=.value (.tmp q),args:=xs.toArray,argTypes:=ats }) ty f vals.toArray:=by
  intro ps af g d w hh
  have hf:=hf.h
  unfold uN at hf
  cases hfn:P.funcs[f]? with
  | none=>simp [hfn] at hf
  | some fn =>
    simp only [hfn,Bool.and_eq_true,Bool.not_eq_true'] at hf
    have hne:¬ fn.name = "runtime.NumGoroutine":=by simpa using hf.1
    have hbn:¬ fn.body = none:=fun e=>by rw [e] at hf; simp at hf
    have e1:execOp (ev s) { dst:=d,op:=.call { callee:=.value (.tmp q),args:=xs.toArray,argTypes:=ats },type:=ty,pos:=ps,after:=af,guard:=g } = callFunc f vals.toArray:=by
      rw [← hv]; simp [execOp,resolve,Deferred.ofValue,hq,invoke]
    rw [e1]
    refine ⟨by simp [callFunc,hfn,hne,hbn],fun e he=>?_⟩
    simp [callFunc,hfn,hne,hbn] at he
theorem aCn {t2 e:TypeId} (hJ:∀ l,J.wr l) {v:Value} {l:List UInt8} {l2:Str} {B bytes:Nat} {zs:List Value} [ht:fA P t e] [ht2:sN P t2] [hz:eG P e 1] [hby:lJ P e bytes] [hzt:hI P e zs]
    (ho:Own h B v l e) (hB:B ≤ h.size) (hlen:l.length + l2.length ≤ 8589934592) (hx:ev s x = v:=by (simp only [ev,aH,reduceIte,Nat.reduceEqDiff,reduceCtorEq] <;> rfl)) (hy:ev s y = vs l2:=by (simp only [ev,aH,reduceIte,Nat.reduceEqDiff,reduceCtorEq] <;> rfl))
    (hbl:Nat.ble bytes 4096 = true:=by rfl) (hzl:zs.length = 1:=by rfl):E J s h (.call { callee:=.builtin .append,args:=#[x,y],argTypes:=#[t,t2] }) ty (fun v' h'=>App h B v (l ++ l2) e v' h'):=by
  intro ps af g d w hh
  subst hh
  obtain ⟨A,n,c,rfl,o1,o2,o3,rfl,o5⟩:∃ A n c,v = .slice A n c∧(A = none∧n = 0∧c = 0∧encs l = [] ∨ ∃ b rest,A = some ⟨b,0,none⟩∧Blk w.heap b (encs l ++ rest) e∧rest.length = (c - n) * Flat.n UInt8∧B ≤ b)∧n ≤ c∧c ≤ maxLen∧n = l.length∧(A = none → l = []):=by
    rcases ho with ⟨rfl,rfl⟩ | ⟨b,cap,rest,rfl,h2,h3,h4,h5,h6⟩
    · exact ⟨none,0,0,rfl,.inl ⟨rfl,rfl,rfl,rfl⟩,by omega,by simp,rfl,fun _=>rfl⟩
    · exact ⟨_,_,_,rfl,.inr ⟨b,rest,rfl,h3,h6,h2⟩,h4,h5,rfl,fun h=>by cases h⟩
  obtain ⟨A',c',w',r1,r2,⟨r3,r3'⟩,r4,r5,r6⟩:=uQ (P:=P) (ty:=ty) (t:=t) (sz:=Flat.n UInt8) (Src.str (t2:=t2) (l:=l2)) o1 (gP l) o2 o3 hB hlen (Nat.le_of_ble_eq_true hbl) hzl (uM oM.h l2)
  refine ⟨.slice A' (l.length + l2.length) c',w',.inl ?_,r2,fun e' he'=>⟨?_,fun _=>hJ _⟩,?_,r5,?_⟩
  · simp [execOp,resolve,invoke,builtin,hx,hy,r1]
  · simp [execOp,resolve,invoke,builtin,hx,hy,r1] at he'
    exact r6 _ he'
  · rcases r4 with ⟨rfl,q1,rfl⟩ | ⟨b,rest,rfl,q1,q2,q3,q4⟩
    · have e1:l = []:=List.length_eq_zero_iff.1 (by omega)
      have e2:l2 = []:=List.length_eq_zero_iff.1 (by omega)
      subst e1; subst e2
      exact .inl ⟨rfl,rfl⟩
    · exact .inr ⟨b,c',rest,by rw [List.length_append],q3,by rw [oD]; exact q1,by rw [List.length_append]; exact r3,r3',by rw [List.length_append]; exact q2⟩
  · rintro b ⟨o,n',c'',hb⟩
    simp only [Value.slice.injEq] at hb
    obtain ⟨rfl,_,_⟩:=hb
    rcases r4 with ⟨q,_⟩ | ⟨b',rest,hb',q1,q2,q3,q4⟩
    · cases q
    · simp only [Option.some.injEq,Addr.mk.injEq] at hb'
      obtain ⟨rfl,rfl,_⟩:=hb'
      by_cases hlt:b < w.heap.size
      · exact .inl ⟨0,_,_,by rw [q4 hlt]⟩
      · exact .inr (by omega)
class aBn (P:Program) (t:TypeId) (e:outParam TypeId):Prop where h:P.underlying t = some (.pointer e)
class CellT (P:Program) (e:TypeId):Prop where h:P.cellsOf e = 1
theorem nI:∀ (n:Nat) (w:World) (a:Addr) (acc:ByteArray) (es:Array Event),(∀ e ∈ es,e.mute = false) → (∀ j,j < n → ∃ x:UInt8,w.cell? (a.add j) = some (.int .u8 x.toNat)) → ∀ e ∈ (loadBytes a acc n).events P w es,e.mute = false
  | 0,w,a,acc,es,hes,_=>by simpa [loadBytes] using hes
  | n + 1,w,a,acc,es,hes,hc=>by
    obtain ⟨x,hx⟩:=hc 0 (by omega)
    have e0:a.add 0 = a:=by simp [Addr.add]
    rw [e0] at hx
    intro e he
    simp only [loadBytes,Sem.events_bind,run_load,hx,events_load,Result.evThen] at he
    refine nI n w (a.add 1) _ _ ?_ (fun j hj=>by rw [jZ,Nat.add_comm 1 j]; exact hc (j + 1) (by omega)) e he
    intro e' he'
    rcases Array.mem_push.1 he' with h' | rfl
    · exact hes e' h'
    · rfl
theorem e_usd {v:Value} {l:List UInt8} {B:Nat} {e:TypeId} [ht:fA P t e] [hp:aBn P ty e] (ho:Own h B v l e) (hx:ev s x = v:=by (simp only [ev,aH,reduceIte,Nat.reduceEqDiff,reduceCtorEq] <;> rfl)) :
    E J s h (.call { callee:=.builtin .unsafeSliceData,args:=#[x],argTypes:=#[t] }) ty (fun u h'=>Le h h' ∧ (∃ q,u = .pointer q)∧(l ≠ [] → u = .pointer (some (elA v 0)))):=by
  intro ps af g d w hh
  subst hh
  rcases ho with ⟨rfl,rfl⟩ | ⟨b,cap,rest,rfl,h2,h3,h4,h5,h6⟩
  · refine ⟨.pointer none,w,.inl ?_,fY.rfl',fun e he=>?_,Le.refl _,⟨none,rfl⟩,fun h=>absurd rfl h⟩
    · have hdef:Builtin.unsafeSliceData_ #[t] ty #[.slice none 0 0] = pure (.pointer none):=rfl
      simp [execOp,resolve,invoke,builtin,hx,hdef]
    · have hdef:Builtin.unsafeSliceData_ #[t] ty #[.slice none 0 0] = pure (.pointer none):=rfl
      simp [execOp,resolve,invoke,builtin,hx,hdef] at he
  · have hdef : ∀ c, Builtin.unsafeSliceData_ #[t] ty #[.slice (some ⟨b, 0, none⟩) l.length c] =
          (do
            if c ≠ 0 then pure (.pointer (some ⟨b,0,none⟩))
            else if (← viewAt b).isSome then pure (.pointer (some ⟨b,0,none⟩))
            else pure (.pointer (some ⟨← newObj (.view ⟨b,0,none⟩ (← elemOf ty)),0,none⟩))):=fun _=>rfl
    by_cases hc:cap = 0
    · subst hc
      have hsh:w.shape? b = some (e,(encs l ++ rest).length):=by unfold World.shape?; rw [show w.heap[b]? = _ from h3]; simp
      have hr:=Lib.run_unsafeSliceData_zero (P:=P) (w:=w) #[t] ty _ hp.h ⟨b,0,none⟩ l.length _ hsh
      refine ⟨.pointer (some ⟨w.heap.size,0,none⟩),w.alloc (.view ⟨b,0,none⟩ e),.inl (by simp [execOp,resolve,invoke,builtin,hx,hr]),⟨rfl,rfl,rfl⟩,fun e he=>?_,mW _ _,⟨_,rfl⟩,fun h=>?_⟩
      · simp [execOp,resolve,invoke,builtin,hx,hdef 0,viewAt,hsh,elemOf,run_underlying hp.h] at he
      · exact absurd (List.length_eq_zero_iff.1 (by omega)) h
    · refine ⟨.pointer (some ⟨b,0,none⟩),w,.inl ?_,fY.rfl',fun e he=>?_,Le.refl _,⟨_,rfl⟩,fun _=>rfl⟩
      · simp [execOp,resolve,invoke,builtin,hx,hdef cap,hc]
      · simp [execOp,resolve,invoke,builtin,hx,hdef cap,hc] at he
theorem aDp {pt it e:TypeId} {v:Value} {l:List UInt8} {B:Nat} {q:Option Addr} [hp:aBn P pt e] [hce:CellT P e] (hJ:∀ l,J.wr l) (ho:Own h B v l e) (hq:l ≠ [] → q = some (elA v 0)) (hl:l.length ≤ 4294967296) (hx:ev s x = .pointer q:=by (simp only [ev,aH,reduceIte,Nat.reduceEqDiff,reduceCtorEq] <;> rfl)) (hy:ev s y = .int .i64 l.length:=by (simp only [ev,aH,reduceIte,Nat.reduceEqDiff,reduceCtorEq] <;> rfl)) :
    E J s h (.call { callee:=.builtin .unsafeString,args:=#[x,y],argTypes:=#[pt,it] }) ty (fun u h'=>u = vs l∧Mod (vblk v) h h'):=by
  intro ps af g d w hh
  subst hh
  have hmax:IntKind.i64.max = 9223372036854775807:=rfl
  have hdN:∀ n:Int,Builtin.unsafeString_ #[pt,it] ty #[.pointer none,.int .i64 n] =
      (do
        let n ← asInt (.int .i64 n)
        if n < 0 then runtimePanic (.error "unsafe.String: len out of range")
        if n > IntKind.i64.max then unsupported (.unsafePointer "String: a length above the largest int")
        if n = 0 then pure (.string .empty)
        else runtimePanic (.error "unsafe.String: ptr is nil and len is not zero")):=fun _=>rfl
  have hdS:∀ (a:Addr) (n:Int),Builtin.unsafeString_ #[pt,it] ty #[.pointer (some a),.int .i64 n] =
      (do
        let n ← asInt (.int .i64 n)
        if n < 0 then runtimePanic (.error "unsafe.String: len out of range")
        if n > IntKind.i64.max then unsupported (.unsafePointer "String: a length above the largest int")
        if n = 0 then pure (.string .empty)
        else if ← variablesAt a (← elemOf pt) n.toNat then do
          let s ← loadBytes a .empty n.toNat
          freeze a n.toNat
          pure (.string s)
        else unsupported (.unsafePointer "String: not so many bytes at ptr")):=fun _ _=>rfl
  by_cases h0:l = []
  · subst h0
    have hy:ev s y = .int .i64 0:=hy
    have hr:=Lib.run_unsafeString_none (P:=P) (w:=w) pt it ty q
    refine ⟨_,w,.inl (by simp [execOp,resolve,invoke,builtin,hx,hy,hr]; rfl),fY.rfl',fun e he=>?_,rfl,Mod.refl _⟩
    cases q with
    | none=>simp [execOp,resolve,invoke,builtin,hx,hy,hdN,asInt,asIntOf,hmax] at he
    | some a=>simp [execOp,resolve,invoke,builtin,hx,hy,hdS,asInt,asIntOf,hmax] at he
  · rcases ho with ⟨rfl,rfl⟩ | ⟨b,cap,rest,rfl,h2,h3,h4,h5,h6⟩
    · exact absurd rfl h0
    · obtain rfl:=hq h0
      have hsh:w.shape? b = some (e,(encs l ++ rest).length):=by unfold World.shape?; rw [show w.heap[b]? = _ from h3]; simp
      have hlen:(encs l).length = l.length:=by rw [gP]; show l.length * 1 = l.length; omega
      have hcell:∀ j x,l[j]? = some x → w.cell? ((⟨b,0,none⟩:Addr).add j) = some (.int .u8 x.toNat):=fun j x hj=>by
        rw [eR]
        have hj':=(List.getElem?_eq_some_iff.1 hj).1
        refine h3.at (off:=j) (by unfold Addr.add; split <;> simp_all) ?_
        rw [List.getElem?_append_left (by rw [hlen]; exact hj'),iE,List.map_map,List.getElem?_map,hj]
        rfl
      have hr:=Lib.run_unsafeString_row (P:=P) (w:=w) pt it ty e hp.h hce.h b _ hsh l h0 (by rw [List.length_append,hlen]; omega) (by omega) hcell
      have hx' : ev s x = .pointer (some ⟨b,0,none⟩):=hx
      have hlies:=Lib.liesAt_bytes (P:=P) hce.h ((encs l ++ rest).length / P.cellsOf e) l.length (by rw [hce.h,List.length_append,hlen]; simp)
      have hl0:l.length ≠ 0:=by simpa using h0
      have h63:¬ (9223372036854775807:Int) < (l.length:Int):=by omega
      have hneg:¬ (l.length:Int) < 0:=by omega
      refine ⟨_,w.freeze ⟨b,0,none⟩ l.length,.inl (by simp [execOp,resolve,invoke,builtin,hx',hy,hr]),?_,fun e he=>⟨?_,fun _=>hJ _⟩,rfl,?_⟩
      · unfold World.freeze; split <;> exact ⟨rfl,rfl,rfl⟩
      · simp [execOp,resolve,invoke,builtin,hx',hy,hdS,asInt,asIntOf,hmax,hl0,h63,hneg,variablesAt,hsh,elemOf,run_underlying hp.h,hlies,Lib.run_loadBytes (P:=P) w l ⟨b,0,none⟩ .empty hcell] at he
        refine nI _ _ _ _ #[] (by simp) (fun j hj=>?_) e he.2
        obtain ⟨x,hx⟩:∃ x,l[j]? = some x:=⟨_,List.getElem?_eq_getElem hj⟩
        exact ⟨x,hcell j x hx⟩
      · unfold World.freeze
        split
        · exact Mod.refl _
        · refine ⟨by simp,fun i hi hn=>?_⟩
          simp only [Array.getElem?_modify]
          rw [if_neg]
          rintro rfl
          exact hn ⟨_,_,_,rfl⟩
def firstIx (c:UInt8):Str → Option Nat
  | []=>none
  | x :: s=>if x = c then some 0 else (firstIx c s).map (· + 1)
def jN:Option Nat → Int
  | none=>-1
  | some k=>k
theorem xY (c:UInt8) (l:Str):(List.range l.length).find? (fun i=>l[i]?.getD 0 == c) = firstIx c l:=by
  have key:∀ (l2 l1:Str),(List.range' l1.length l2.length).find? (fun i=>(l1 ++ l2)[i]?.getD 0 == c) = (firstIx c l2).map (· + l1.length):=by
    intro l2
    induction l2 with
    | nil=>intro l1; simp [firstIx]
    | cons x l2 ih =>
      intro l1
      rw [List.length_cons,List.range'_succ,List.find?_cons]
      have e:(l1 ++ x :: l2)[l1.length]?.getD 0 = x:=by simp
      rw [e]
      by_cases hx:x = c
      · subst hx; simp [firstIx]
      · have h:=ih (l1 ++ [x])
        rw [List.append_assoc,List.singleton_append,List.length_append,List.length_singleton] at h
        have hb:(x == c) = false:=by simpa using hx
        rw [hb,firstIx,if_neg hx]
        simp only
        rw [h]
        cases firstIx c l2 with
        | none=>rfl
        | some k=>simp; omega
  have h:=key l []
  simpa [List.range_eq_range'] using h
theorem uH {p q:Nat → Bool}:∀ {l:List Nat},(∀ i ∈ l,p i = q i) → l.find? p = l.find? q
  | [],_=>rfl
  | i :: l,h=>by rw [List.find?_cons,List.find?_cons,h i List.mem_cons_self,uH (l:=l) fun j hj=>h j (List.mem_cons_of_mem _ hj)]
theorem vI {l:Str} {c:UInt8} {w:World}:(Extern.BytealgIndexByte.indexByte [vs l,.int .u8 c.toNat].toArray).run P w = .ok (vi (jN (firstIx c l))) w∧∀ es,(Extern.BytealgIndexByte.indexByte [vs l,.int .u8 c.toNat].toArray).events P w es = es:=by
  have hg:∀ i,i < l.length → (⟨l.toArray⟩:ByteArray)[i]! = l[i]?.getD 0:=fun i hi=>by
    have:i < (⟨l.toArray⟩:ByteArray).size:=by rw [kN]; exact hi
    rw [getElem!_pos _ i this,List.getElem?_eq_getElem hi]
    rfl
  have e:((List.range (⟨l.toArray⟩:ByteArray).size).find? fun i=>(⟨l.toArray⟩:ByteArray)[i]! == c) = firstIx c l:=by
    rw [kN,← xY]
    refine uH fun i hi=>?_
    rw [hg i (List.mem_range.1 hi)]
  have hd:Extern.BytealgIndexByte.indexByte [vs l,.int .u8 c.toNat].toArray = (do
      let b ← Extern.Bytes.bytesOf (vs l)
      let c ← Extern.Bytes.asByte (.int .u8 c.toNat)
      match (List.range b.size).find? fun i=>b[i]! == c with
      | some i=>pure (goInt i)
      | none=>pure (goInt (-1))):=rfl
  rw [hd]
  cases hf:firstIx c l with
  | none=>rw [hf] at e; simp [Extern.Bytes.bytesOf,Extern.Bytes.asByte,e,jN,goInt]
  | some k=>rw [hf] at e; simp [Extern.Bytes.bytesOf,Extern.Bytes.asByte,e,jN,goInt]
theorem aCA {f:FuncId} (hf:aDz P f Extern.BytealgIndexByte.indexByte) {q r:Operand} {ats:Array TypeId} {l:Str} {c:UInt8} (hv:[q,r].map (ev s) = [vs l,.int .u8 c.toNat]:=by (simp only [List.map_cons,List.map_nil,ev,aH,reduceIte,Nat.reduceEqDiff,reduceCtorEq] <;> rfl)) :
    Y P s h (.call { callee:=.value (.func f),args:=#[q,r],argTypes:=ats }) ty (vi (jN (firstIx c l))) :=
  aCB (xs:=[q,r]) hf (fun _ _=>vI) hv
instance :Flat Value:=⟨1,fun x=>[x],fun _=>rfl,by decide⟩
instance :Ok Value:=⟨fun _=>True⟩
theorem y_loadG {X:Nat → Prop} {a:Addr} {m c n:Nat} {l:List Str} {cs:List Value} [ht:oO P t n] (hr:RdF h X (.slice (some a) m c) l) (hcs:cs = l.map vs:=by rfl) (hn:cs.length = n:=by rfl) (hx:ev s x = .pointer (some a):=by (simp only [ev,aH,reduceIte,Nat.reduceEqDiff,reduceCtorEq] <;> rfl)):Y P s h (.load t x) ty (.agg cs.toArray):=by
  refine sP hn (fun j v hj=>?_) hx
  subst hcs
  rw [List.getElem?_map] at hj
  cases hl:l[j]? with
  | none=>rw [hl] at hj; cases hj
  | some z =>
    rw [hl] at hj
    have:=hr.cell hl (j:=0) (u:=vs z) rfl
    rw [← Option.some.inj hj]
    have e:(elA (.slice (some a) m c) (j * Flat.n Str)).add 0 = a.add j:=by
      show ((a.add (j * 1)).add 0) = a.add j
      rw [jZ,Nat.mul_one,Nat.add_zero]
    rwa [e] at this
end
end
section
open Go.Conc
theorem dD {n:Int} (h1:0 ≤ n) (h2:n ≤ 4294967295):IntKind.u32.wrap n = n:=by
  simp [IntKind.wrap,IntKind.bits,IntKind.signed]
  omega
theorem fC {n:Int} (h1:0 ≤ n) (h2:n ≤ 18446744073709551615):IntKind.u64.wrap n = n:=by
  simp [IntKind.wrap,IntKind.bits,IntKind.signed]
  omega
section
variable {P:Program} {J:eM P} {w0:World} {s:Env} {h:Heap} {ty t yt:TypeId} {x y:Operand}
theorem lG {wr:Loc → Prop} {fn:Func} {rs:List ResultVar} {vals:List Value} {Post:Value → Heap → Prop} (hr:fn.results = rs.toArray) (hk:rM P s h rs vals) (hp:Post (oneOf vals) h):uU P wr fn Post .normal s h :=
  show uU P wr fn Post .ret s h from aQ hr hk hp
theorem eW {k k' : IntKind} {n:Int} {src:TypeId} [hs:oL P src] [ht:qY P t k] (hx:ev s x = .int k' n:=by (simp only [ev,aH,reduceIte,Nat.reduceEqDiff,reduceCtorEq] <;> rfl)) (hw:k.wrap n = n):Y P s h (.convert src t x) ty (.int k n):=by
  have:=jP (P:=P) (s:=s) (h:=h) (ty:=ty) (x:=x) (t:=t) (k:=k) (k':=k') (n:=n) (src:=src) hx
  rwa [hw] at this
theorem nM {k:IntKind} {a b:Int} (hx:ev s x = .int k a:=by (simp only [ev,aH,reduceIte,Nat.reduceEqDiff,reduceCtorEq] <;> rfl)) (hy:ev s y = .int k b:=by (simp only [ev,aH,reduceIte,Nat.reduceEqDiff,reduceCtorEq] <;> rfl)) (hw:k.wrap (a / b) = a / b) (h0:0 ≤ a:=by omega) (hb:b ≠ 0:=by omega):Y P s h (.binOp .quo t x y yt) ty (.int k (a / b)):=by
  have:=y_quo (P:=P) (s:=s) (h:=h) (ty:=ty) (x:=x) (y:=y) (t:=t) (yt:=yt) (k:=k) hx hy hb
  rwa [Int.tdiv_eq_ediv_of_nonneg h0,hw] at this
theorem nL {k:IntKind} {a b:Int} (hx:ev s x = .int k a:=by (simp only [ev,aH,reduceIte,Nat.reduceEqDiff,reduceCtorEq] <;> rfl)) (hy:ev s y = .int k b:=by (simp only [ev,aH,reduceIte,Nat.reduceEqDiff,reduceCtorEq] <;> rfl)) (h0:0 ≤ a:=by omega) (hb:b ≠ 0:=by omega):Y P s h (.binOp .rem t x y yt) ty (.int k (a % b)):=by
  have:=pE (P:=P) (s:=s) (h:=h) (ty:=ty) (x:=x) (y:=y) (t:=t) (yt:=yt) (k:=k) hx hy hb
  rwa [Int.tmod_eq_emod_of_nonneg h0] at this
theorem aBq {k yk:IntKind} {a b v:Int} (hv:k.wrap (a * 2 ^ min b.toNat k.bits) = v) (h0:0 ≤ b:=by omega) (hx:ev s x = .int k a:=by (simp only [ev,aH,reduceIte,Nat.reduceEqDiff,reduceCtorEq] <;> rfl)) (hy:ev s y = .int yk b:=by (simp only [ev,aH,reduceIte,Nat.reduceEqDiff,reduceCtorEq] <;> rfl)):Y P s h (.binOp .shl t x y yt) ty (.int k v):=fun _ _ _ _ _ _=>by
  have h0' : ¬ b < 0:=by omega
  simp [execOp,hx,hy,eqGuard,binOp,Op.shift,h0',hv]
theorem rP {k yk:IntKind} {a b v:Int} (hv:a.fdiv (2 ^ min b.toNat k.bits) = v) (h0:0 ≤ b:=by omega) (hx:ev s x = .int k a:=by (simp only [ev,aH,reduceIte,Nat.reduceEqDiff,reduceCtorEq] <;> rfl)) (hy:ev s y = .int yk b:=by (simp only [ev,aH,reduceIte,Nat.reduceEqDiff,reduceCtorEq] <;> rfl)):Y P s h (.binOp .shr t x y yt) ty (.int k v):=fun _ _ _ _ _ _=>by
  have h0' : ¬ b < 0:=by omega
  simp [execOp,hx,hy,eqGuard,binOp,Op.shift,h0',hv]
theorem y_negW {k:IntKind} {xt:TypeId} {n:Int} (hx:ev s x = .int k n:=by (simp only [ev,aH,reduceIte,Nat.reduceEqDiff,reduceCtorEq] <;> rfl)):Y P s h (.unOp .neg t x) xt (.int k (k.wrap (0 - n))):=fun _ _ _ _ _ _=>by
  simp [execOp,hx,Op.unary,Op.intArith]
theorem mQ {k' : IntKind} {n:Int} {src:TypeId} [hs:oL P src] [ht:qY P t .u8] (hx:ev s x = .int k' (48 + n):=by (simp only [ev,aH,reduceIte,Nat.reduceEqDiff,reduceCtorEq] <;> rfl)) (h1:0 ≤ n:=by omega) (h2:n ≤ 9:=by omega):Y P s h (.convert src t x) ty (.int .u8 ((cF n).toNat:Int)):=by
  have:=jP (P:=P) (s:=s) (h:=h) (ty:=ty) (x:=x) (t:=t) (k:=.u8) (k':=k') (n:=48 + n) (src:=src) hx
  rw [eX (by omega) (by omega)] at this
  rwa [lO h1 h2]
theorem y_negU {xt:TypeId} {n:Int} (h1:n < 0:=by omega) (h2 : -9223372036854775808 ≤ n:=by omega) (hx:ev s x = .int .u64 (IntKind.u64.wrap n):=by (simp only [ev,aH,reduceIte,Nat.reduceEqDiff,reduceCtorEq] <;> rfl)):Y P s h (.unOp .neg t x) xt (.int .u64 (-n)):=by
  have:=y_negW (P:=P) (s:=s) (h:=h) (t:=t) (x:=x) (xt:=xt) hx
  have e:IntKind.u64.wrap (0 - IntKind.u64.wrap n) = -n:=by
    simp [IntKind.wrap,IntKind.bits,IntKind.signed]
    omega
  rwa [e] at this
structure N64 where
  n:Int
instance :Flat N64:=⟨1,fun x=>[.int .u64 x.n],fun _=>rfl,by decide⟩
instance :Ok N64:=⟨fun _=>True⟩
end
section
variable {P:Program} {J:eM P} {w0:World} {N:Nat} {ops:List Oper} {Q:HQ} {H:Heap → Prop} {L:SL} {r:Env} {h:Heap} {fuel:Nat} {listed:List Bool} {i:Nat} {d:Option Nat} {op:Op} {ty:TypeId} {ps:String} {af:Array Edge} {g:Option (Nat × Bool)}
theorem hone_yk {v:Value} (hi:ops[i]? = some { dst:=d,op:=op,type:=ty,pos:=ps,after:=af,guard:=none }) (hy:Y P (aH L r) h op ty v) (hd:dOk N d = true)
    (hn:HA J w0 N ops H fuel (listed.set i true) Q (aH (mE L d v) r) h):lK J w0 N ops H fuel listed Q (aH L r) h i:=by
  intro a w hr hs hh
  unfold OpX
  have hi' : ops.toArray[i]? = some { dst:=d,op:=op,type:=ty,pos:=ps,after:=af,guard:=none }:=by simpa using hi
  simp only [hi',Region.wanted,if_true]
  have e:=hy ps af none d w hh
  rw [← hr.ev] at e
  refine ⟨fun x hx=>⟨(e.2 x hx).1,fun hwr=>by rw [(e.2 x hx).2] at hwr; cases hwr⟩,?_⟩
  rw [e.1]
  exact ⟨.inr (.inl (sO.rfl w)),by simpa using hn _ w (rep_sput hr hd v) hs hh⟩
theorem sE {v:Value} {dn:Nat} (i:Nat) (hi:ops[i]? = some { dst:=some dn,op:=op,type:=ty,pos:=ps,after:=af,guard:=none }) (hy:Y P (aH L r) h op ty v) (hn:HA J w0 N ops H fuel (listed.set i true) Q (aH ((dn,v) :: L) r) h)
    (hr:Region.ready .any ops.toArray listed.toArray = [i]:=by kernel_rfl) (hd:Nat.blt dn N = true:=by rfl):HA J w0 N ops H (fuel + 1) listed Q (aH L r) h:=rH hr (hone_yk hi hy hd hn)
end
section
variable {P:Program} {J:eM P} {w0:World} {s:Env} {h:Heap} {ty t yt:TypeId} {x y:Operand}
theorem iU (L:List UInt8):(encs L).length = L.length:=by simp [iE]
theorem qA {b n lo hi:Nat} {l u:Int} {k k' : IntKind} {e:TypeId} {zl zh:Operand} [ht:yI P t n e] [hz:eG P e 1]
    (hx:ev s x = .pointer (some ⟨b,0,none⟩):=by (simp only [ev,aH,reduceIte,Nat.reduceEqDiff,reduceCtorEq] <;> rfl)) (hzl:ev s zl = .int k l:=by (simp only [ev,aH,reduceIte,Nat.reduceEqDiff,reduceCtorEq] <;> rfl)) (hzh:ev s zh = .int k' u:=by (simp only [ev,aH,reduceIte,Nat.reduceEqDiff,reduceCtorEq] <;> rfl)) (hl:l = lo) (hu:u = hi) (h1:lo ≤ hi:=by omega) (h2:hi ≤ n:=by omega) (h3:lo < n:=by omega) :
    Y P s h (.slice t x (some zl) (some zh) none) ty (.slice (some ⟨b,lo,none⟩) (hi - lo) (n - lo)):=fun _ _ _ _ w _=>by
  obtain ⟨info,hi',hs⟩:=Option.map_eq_some_iff.1 hz.h
  subst hl hu
  have h4:¬ n = lo:=by omega
  simp [execOp,Instr.sliceAt,hx,hzl,hzh,run_underlying,ht.h,Instr.sureAddr,Instr.sliceBounds,Instr.sliceBound,asIntOf,sizeOf,typeInfo,hi',hs,h1,h2,h4,Addr.add]
  exact fun e=>e.symm
theorem sY {b n hi:Nat} {u:Int} {k' : IntKind} {e:TypeId} {zh:Operand} [ht:yI P t n e] [hz:eG P e 1]
    (hx:ev s x = .pointer (some ⟨b,0,none⟩):=by (simp only [ev,aH,reduceIte,Nat.reduceEqDiff,reduceCtorEq] <;> rfl)) (hzh:ev s zh = .int k' u:=by (simp only [ev,aH,reduceIte,Nat.reduceEqDiff,reduceCtorEq] <;> rfl)) (hu:u = hi) (h2:hi ≤ n:=by omega) (h3:0 < n:=by omega) :
    Y P s h (.slice t x none (some zh) none) ty (.slice (some ⟨b,0,none⟩) hi n):=fun _ _ _ _ w _=>by
  obtain ⟨info,hi',hs⟩:=Option.map_eq_some_iff.1 hz.h
  subst hu
  have h4:¬ n = 0:=by omega
  simp [execOp,Instr.sliceAt,hx,hzh,run_underlying,ht.h,Instr.sureAddr,Instr.sliceBounds,Instr.sliceBound,asIntOf,sizeOf,typeInfo,hi',hs,h2,h4,Addr.add]
theorem eJ {b lo n c:Nat} {i:Int} {k:IntKind} {e:TypeId} (off:Nat) [ht:fA P t e] [hz:eG P e 1] (hx:ev s x = .slice (some ⟨b,lo,none⟩) n c:=by (simp only [ev,aH,reduceIte,Nat.reduceEqDiff,reduceCtorEq] <;> rfl)) (hy:ev s y = .int k i:=by (simp only [ev,aH,reduceIte,Nat.reduceEqDiff,reduceCtorEq] <;> rfl)) (ho:((off:Nat):Int) = lo + i) (h0:0 ≤ i:=by omega) (h1:i < n:=by omega) :
    Y P s h (.indexAddr t x y) ty (.pointer (some ⟨b,off,none⟩)):=by
  have:=rQ (P:=P) (s:=s) (h:=h) (ty:=ty) (t:=t) (x:=x) (y:=y) (sz:=1) hx hy h0 h1
  have e:(Addr.add ⟨b,lo,none⟩ (i.toNat * 1)) = ⟨b,off,none⟩:=by
    unfold Addr.add
    split <;> (simp only [Addr.mk.injEq,and_true,true_and]; omega)
  rwa [e] at this
theorem vR {b n:Nat} {k:IntKind} {e:TypeId} (off:Nat) [ht:yI P t n e] [hz:eG P e 1] (h1:off < n:=by omega) (hx:ev s x = .pointer (some ⟨b,0,none⟩):=by (simp only [ev,aH,reduceIte,Nat.reduceEqDiff,reduceCtorEq] <;> rfl)) (hy:ev s y = .int k (off:Nat):=by (simp only [ev,aH,reduceIte,Nat.reduceEqDiff,reduceCtorEq] <;> rfl)) :
    Y P s h (.indexAddr t x y) ty (.pointer (some ⟨b,off,none⟩)):=by
  have:=sQ (P:=P) (s:=s) (h:=h) (ty:=ty) (t:=t) (x:=x) (y:=y) (sz:=1) hx hy h1
  have e:(Addr.add ⟨b,0,none⟩ (off * 1)) = ⟨b,off,none⟩:=by
    unfold Addr.add
    split <;> (simp only [Addr.mk.injEq,and_true,true_and]; omega)
  rwa [e] at this
theorem aCF {a:Addr} {n sz:Nat} {e:TypeId} {k:IntKind} {i:Int} [ht:yI P t n e] [hz:eG P e sz] (hx:ev s x = .pointer (some a):=by (simp only [ev,aH,reduceIte,Nat.reduceEqDiff,reduceCtorEq] <;> rfl)) (hy:ev s y = .int k i:=by (simp only [ev,aH,reduceIte,Nat.reduceEqDiff,reduceCtorEq] <;> rfl)) (h0:0 ≤ i:=by omega) (hi:i < n:=by omega) :
    Y P s h (.indexAddr t x y) ty (.pointer (some (a.add (i.toNat * sz)))) :=
  sQ (i:=i.toNat) hx (by rw [hy,show ((i.toNat:Nat):Int) = i by omega]) (by omega)
theorem aBf (L:List UInt8) (n:Nat):(encs L).take n = encs (L.take n):=by simp [iE,List.map_take]
theorem aBg (L:List UInt8) (n:Nat):(encs L).drop n = encs (L.drop n):=by simp [iE,List.map_drop]
theorem eD (hJ:∀ l,J.wr l) {b off:Nat} {L:List UInt8} {T:TypeId} {c:UInt8} {v:Int} [hz:eG P t 1] (hb:Blk h b (encs L) T) (hx:ev s x = .pointer (some ⟨b,off,none⟩):=by (simp only [ev,aH,reduceIte,Nat.reduceEqDiff,reduceCtorEq] <;> rfl)) (hy:ev s y = .int .u8 v:=by (simp only [ev,aH,reduceIte,Nat.reduceEqDiff,reduceCtorEq] <;> rfl)) (hv:v = (c.toNat:Int)) (ho:off < L.length) :
    E J s h (.store t x y) ty (fun u h'=>u = undef∧fQ h b (encs (L.set off c)) T h'):=by
  have:=aK (P:=P) (J:=J) (s:=s) (ty:=ty) (t:=t) (x:=x) (y:=y) (off:=off) (us:=[.int .u8 v]) (n:=1) hJ hb rfl hx (hy:=hy) (hl:=by rw [iU]; exact Nat.ble_eq ▸ ho)
  have e:(encs L).take off ++ [.int .u8 v] ++ (encs L).drop (off + 1) = encs (L.set off c):=by
    subst hv
    rw [aBf,aBg,List.set_eq_take_append_cons_drop,if_pos ho]
    simp [iE]
  rwa [e] at this
theorem aBy {b lo n c:Nat} {L:List UInt8} {T:TypeId} (hb:Blk h b (encs L) T) (h1:lo + n ≤ L.length) (h2:n ≤ c) (h3:c ≤ maxLen):RdF h (· = b) (.slice (some ⟨b,lo,none⟩) n c) ((L.drop lo).take n):=by
  have hl:((L.drop lo).take n).length = n:=by simp; omega
  refine ⟨some ⟨b,lo,none⟩,c,by rw [hl],by omega,h3,fun i x hx=>⟨_,rfl,rfl,fun j u hu=>?_⟩⟩
  cases j with
  | succ j=>simp [Flat.enc] at hu
  | zero =>
    have hi:i < n:=by have:=(List.getElem?_eq_some_iff.1 hx).1; omega
    rw [List.getElem?_take,if_pos hi,List.getElem?_drop] at hx
    refine hb.at (off:=lo + i) ?_ ?_
    · unfold Addr.add; split <;> split <;> simp [Flat.n] <;> simp_all [Flat.n]
    · rw [iE,List.getElem?_map,List.getElem?_map,hx]; simpa [Flat.enc] using hu
end
end
section
open Go.Conc
instance :CellT PP 5:=⟨by kernel_rfl⟩
instance :aBn PP 41 43:=⟨Tryz.underlying41⟩
instance :IfcT PP 75:=⟨_,Tryz.underlying75⟩
instance :aBn PP 79 5:=⟨Tryz.underlying79⟩
instance :yI PP 123 7 9:=⟨Tryz.underlying123⟩
instance :aDA PP 198:=⟨_,Tryz.underlying198,fun _ h=>nomatch h⟩
instance :aDA PP 202:=⟨_,Tryz.underlying202,fun _ h=>nomatch h⟩
instance :yI PP 205 24 5:=⟨Tryz.underlying205⟩
instance :yI PP 221 20 199:=⟨Tryz.underlying221⟩
theorem ext83:aDz PP 83 Extern.ReflectliteType.typeOf:=⟨⟨_,Tryz.func83,by kernel_rfl,by kernel_rfl,by kernel_rfl,by kernel_rfl⟩⟩
theorem ext151:aDz PP 151 Extern.BytealgIndexByte.indexByte:=⟨⟨_,Tryz.func151,by kernel_rfl,by kernel_rfl,by kernel_rfl,by kernel_rfl⟩⟩
end
section
open Go.Conc
theorem mA {P:Program} {s:Env} {h:Heap} {ty t:TypeId} {x:Operand} [ht:sN P t] {c:UInt8} (hx:ev s x = vs [c]:=by (simp only [ev,aH,reduceIte,Nat.reduceEqDiff,reduceCtorEq] <;> rfl)):Y P s h (.call { callee:=.builtin .len,args:=#[x],argTypes:=#[t] }) ty (vi 1):=y_len_str hx
def iC (c:UInt8) (s:Str):Str × Str × Bool:=match firstIx c s with | some k=>(s.take k,s.drop (k + 1),true) | none=>(s,[],false)
theorem aBb {c:UInt8} {s:Str} {k:Nat} (h:firstIx c s = some k):k < s.length:=by
  induction s generalizing k with
  | nil=>cases h
  | cons x s ih =>
    unfold firstIx at h
    split at h
    · cases h; simp
    · cases hf:firstIx c s with
      | none=>rw [hf] at h; cases h
      | some j=>rw [hf] at h; cases h; have:=ih hf; simp; omega
theorem aC6 (c:UInt8) (s:Str) : -1 ≤ jN (firstIx c s)∧jN (firstIx c s) < (s.length:Int):=by
  cases h:firstIx c s with
  | none=>simp [jN]; omega
  | some k=>have:=aBb h; simp [jN]; omega
theorem aCr {c:UInt8} {s:Str} (h:0 ≤ jN (firstIx c s)):iC c s = (s.take (jN (firstIx c s)).toNat,s.drop (jN (firstIx c s) + 1).toNat,true):=by
  unfold iC
  cases hf:firstIx c s with
  | none=>rw [hf] at h; exact absurd h (by decide)
  | some k=>simp [jN]
theorem aCs {c:UInt8} {s:Str} (h:¬ 0 ≤ jN (firstIx c s)):iC c s = (s,[],false):=by
  unfold iC
  cases hf:firstIx c s with
  | none=>rfl
  | some k=>rw [hf] at h; exact absurd (by simp [jN]) h
def gI (c:UInt8) (s:Str):Str:=if (decide (1 ≤ (s.length:Int)) && decide (s.take 1 = [c])) then s.drop 1 else s
def aDf (c:UInt8) (s:Str):Bool:=decide (1 ≤ (s.length:Int)) && decide (s.take 1 = [c])
def mX (s:Str):Bool:=!decide ((s.length:Int) = 1) && !decide ((s.length:Int) = 2)
def iQ (c:UInt8):Bool:=decide ((c.toNat:Int) < 97) || decide (122 < (c.toNat:Int))
def fW (s:Str):Bool:=!mX s && !s.any iQ
set_option maxHeartbeats 1000000 in
theorem sD {w0:World} {h:Heap} {c:UInt8}   : HC (XM PP) w0 35 [.int .u8 (c.toNat:Int)].toArray h (fun rv h'=>rv = vb (dV c)∧h' = h):=by
 refine aV 9 [(0,.int .u8 (c.toNat:Int))] Tryz.func35 (fun r=>?_)
 refine hw_sr (aB aC<|aD ?_)
 refine hw_sr (aB y_move<|aB y_leq<|aB y_move<|?_)
 refine bB 3 [(8,vb ((decide ((48:Int) ≤ (c.toNat:Int))) && (decide ((c.toNat:Int) ≤ 57))))] (fun r=>?_) (fun jn=>?_)
 refine aB aC<|aD ?_
 refine hw_rr ?_
 refine aQ rfl (.cons aU .nil) ?_
 exact ⟨by first | rfl | (simp_all [oneOf] <;> omega),rfl⟩
 refine dA ((48:Int) ≤ (c.toNat:Int)) (fun g5=>?_) (fun g5=>?_)
 refine aO (dT g5) y_move<|aO (dT g5) y_leq<|aB (y_pickT (dT g5))<|?_
 exact jn _ (aA aJ (by simp only [aH,reduceIte,Nat.reduceEqDiff,reduceCtorEq,(dT g5),bb] <;> rfl))
 refine aN (neF (dF g5))<|aN (neF (dF g5))<|aB (aR (dF g5))<|?_
 exact jn _ (aA aJ (by simp only [aH,reduceIte,Nat.reduceEqDiff,reduceCtorEq,(dF g5),bb] <;> rfl))
set_option maxHeartbeats 1000000 in
theorem tY {w0:World} {h:Heap} {c:UInt8}   : HC (XM PP) w0 18 [.int .u8 (c.toNat:Int)].toArray h (fun rv h'=>rv = vb (fV c)∧h' = h):=by
 refine aV 13 [(0,.int .u8 (c.toNat:Int))] Tryz.func18 (fun r=>?_)
 refine hw_sr (aB aC<|aD ?_)
 refine hw_sr (aB y_move<|aB y_leq<|aB y_move<|?_)
 refine bB 3 [(0,.int .u8 (c.toNat:Int)),(8,vb ((decide ((65:Int) ≤ (c.toNat:Int))) && (decide ((c.toNat:Int) ≤ 90))))] (fun r=>?_) (fun jn=>?_)
 refine aB y_move<|?_
 refine bB 3 [(12,vb (((decide ((65:Int) ≤ (c.toNat:Int))) && (decide ((c.toNat:Int) ≤ 90))) || dV c))] (fun r=>?_) (fun jn=>?_)
 refine aB aC<|aD ?_
 refine hw_rr ?_
 refine aQ rfl (.cons aU .nil) ?_
 exact ⟨by first | rfl | (simp_all [oneOf] <;> omega),rfl⟩
 refine eT (b:=((decide ((65:Int) ≤ (c.toNat:Int))) && (decide ((c.toNat:Int) ≤ 90)))) (fun g9=>?_) (fun g9=>?_)
 have g9':=g9
 simp at g9'
 refine aN (neT g9)<|aN (neT g9)<|aB (y_pickT g9)<|?_
 exact jn _ (aA aJ (by simp only [aH,reduceIte,Nat.reduceEqDiff,reduceCtorEq,g9,bb] <;> rfl))
 have g9':=g9
 simp at g9'
 refine aO g9 y_move<|gH g9 aG sD<|aB (aR g9)<|?_
 exact jn _ (aA aJ (by simp only [aH,reduceIte,Nat.reduceEqDiff,reduceCtorEq,g9,bb] <;> rfl))
 refine dA ((65:Int) ≤ (c.toNat:Int)) (fun g5=>?_) (fun g5=>?_)
 refine aO (dT g5) y_move<|aO (dT g5) y_leq<|aB (y_pickT (dT g5))<|?_
 exact jn _ (aA (aA aJ (by simp only [aH,reduceIte,Nat.reduceEqDiff,reduceCtorEq,(dT g5),bb] <;> rfl)))
 refine aN (neF (dF g5))<|aN (neF (dF g5))<|aB (aR (dF g5))<|?_
 exact jn _ (aA (aA aJ (by simp only [aH,reduceIte,Nat.reduceEqDiff,reduceCtorEq,(dF g5),bb] <;> rfl)))
set_option maxHeartbeats 1000000 in
theorem oC {w0:World} {h:Heap} {c:UInt8}   : HC (XM PP) w0 19 [.int .u8 (c.toNat:Int)].toArray h (fun rv h'=>rv = vb (fK c)∧h' = h):=by
 refine aV 9 [(0,.int .u8 (c.toNat:Int))] Tryz.func19 (fun r=>?_)
 refine hw_sr (aB aC<|aD ?_)
 refine hw_sr (aB y_move<|aB y_leq<|aB y_move<|?_)
 refine bB 3 [(8,vb ((decide ((32:Int) ≤ (c.toNat:Int))) && (decide ((c.toNat:Int) ≤ 126))))] (fun r=>?_) (fun jn=>?_)
 refine aB aC<|aD ?_
 refine hw_rr ?_
 refine aQ rfl (.cons aU .nil) ?_
 exact ⟨by first | rfl | (simp_all [oneOf] <;> omega),rfl⟩
 refine dA ((32:Int) ≤ (c.toNat:Int)) (fun g5=>?_) (fun g5=>?_)
 refine aO (dT g5) y_move<|aO (dT g5) y_leq<|aB (y_pickT (dT g5))<|?_
 exact jn _ (aA aJ (by simp only [aH,reduceIte,Nat.reduceEqDiff,reduceCtorEq,(dT g5),bb] <;> rfl))
 refine aN (neF (dF g5))<|aN (neF (dF g5))<|aB (aR (dF g5))<|?_
 exact jn _ (aA aJ (by simp only [aH,reduceIte,Nat.reduceEqDiff,reduceCtorEq,(dF g5),bb] <;> rfl))
set_option maxHeartbeats 1000000 in
theorem mZ {w0:World} {h:Heap} {O:Nat → Prop} {l:Letter}  (OB0:OB h O) (s0:SB l.sign:=by first | assumption | omega | (simp; done) | (simp; omega)) (s1:SB l.body:=by first | assumption | omega | (simp; done) | (simp; omega)):HC (XM PP) w0 8 [.agg #[vs l.sign,vs l.body]].toArray h (fun rv h'=>rv = vb (cM l)∧Le h h'):=by
 replace le:=Le.refl h
 have OBe:=OB0
 refine aV 34 [(0,.agg #[vs l.sign,vs l.body])] Tryz.func8 (fun r=>?_)
 refine hw_sr (bE cW (fun v1 h1 q1=>?_))
 obtain ⟨b1,O1,rfl,eb1,sb1,lb1,B1,hO1⟩:=q1.ox O
 refine aB aC<|aD ?_
 refine aI ?_
 refine hw_sr (aB y_fieldAddr<|aB (y_load (Blk.at B1 rfl rfl))<|aB y_len_str<|aB fS<|aB y_move<|?_)
 refine bB 6 [(1,.pointer (some ⟨b1,0,none⟩)),(14,vb ((!decide ((l.sign.length:Int) = 1)) || ((l.sign[0]?).any (fun y=>(!fV y)))))] (fun r=>?_) (fun jn=>?_)
 refine aB y_move<|?_
 refine bB 5 [(1,.pointer (some ⟨b1,0,none⟩)),(20,vb (((!decide ((l.sign.length:Int) = 1)) || ((l.sign[0]?).any (fun y=>(!fV y)))) || (decide ((40:Int) < (l.body.length:Int)))))] (fun r=>?_) (fun jn=>?_)
 refine aD ?_
 refine bF (fun g20=>?_) (fun g20=>?_)
 have g20':=g20
 simp at g20'
 refine hw_sr (aB aC<|aD ?_)
 refine hw_rr ?_
 refine aQ rfl (.cons aU .nil) ?_
 have hr:cM l = false:=by unfold cM gX; rw [g20]; rfl
 replace le:=le.t lb1
 exact ⟨by first | rfl | (rw [hr] <;> rfl),le⟩
 have g20':=g20
 simp at g20'
 have hb:gX l = false:=g20
 refine aM ?_
 refine aI ?_
 refine hw_sr (aB aC<|aD ?_)
 refine cT (fun (k:Nat)=>[(1,.pointer (some ⟨b1,0,none⟩)),(3,vi (k:Int))]) (fun (k:Nat) (h' : Heap)=>Le h1 h' ∧ l.body.all fK = true) (aX (cK (fun (k:Nat)=>[(1,.pointer (some ⟨b1,0,none⟩)),(3,vi (k:Int))]) (fun (k:Nat) (h' : Heap)=>Le h1 h' ∧ k ≤ l.body.length∧(l.body.take k).all fK = true) (fun (k:Nat)=>l.body.length - k) (0) ag2 ⟨Le.refl _,by simp⟩ ?_)) ?_
 rintro k r hl2 ⟨lp2,e1,e2⟩
 have zl2:=lp2.1
 replace lr2:=lp2
 refine aI ?_
 refine aI ?_
 replace B1:=B1.le lp2
 refine aE (aB y_move<|aB y_fieldAddr<|aB (y_load (Blk.at B1 rfl rfl))<|aB y_len_str<|aB dB<|aD ?_)
 refine aF (ah3 1 3 25) fun r=>?_
 refine aZ (fun g25=>?_) (fun g25=>?_)
 refine aM ?_
 refine aI ?_
 refine aX ?_
 refine hw_sr (aB y_fieldAddr<|aB (y_load (Blk.at B1 rfl rfl))<|aB y_move<|?_)
 obtain ⟨x2,hx2⟩:∃ c,l.body[k]? = some c:=⟨_,List.getElem?_eq_getElem (by omega)⟩
 refine aB (bV hx2)<|dY aG oC<|aB dG<|aD ?_
 refine aF (ah3 1 3 33) fun r=>?_
 refine dS (fun g33=>?_) (fun g33=>?_)
 refine hw_sr (aB aC<|aD ?_)
 refine hw_rr ?_
 refine aQ rfl (.cons aU .nil) ?_
 have hr:cM l = false:=by unfold cM; rw [rK (p:=fK) (by assumption) g33]; simp
 replace le:=(le.t lb1).t lp2
 exact ⟨by first | rfl | (rw [hr] <;> rfl),le⟩
 refine aM ?_
 refine aE (aB y_move<|aB bI<|aB aC<|aD ?_)
 exact ⟨k + 1,ag2,⟨lr2,by exact ⟨by omega,by rw [kF (by assumption),e2]; simp_all⟩⟩,by first | omega | (dsimp only; omega)⟩
 refine cI ?_
 exact ⟨k,ag2,⟨lr2,by rw [List.take_of_length_le (by omega)] at e2; exact e2⟩⟩
 rintro k r hl2 ⟨lp2,e1⟩
 have zl2:=lp2.1
 refine hw_sr (aB aC<|aD ?_)
 refine hw_rr ?_
 refine aQ rfl (.cons aU .nil) ?_
 have hr:cM l = true:=by unfold cM; rw [hb,e1]; rfl
 replace le:=(le.t lb1).t lp2
 exact ⟨by first | rfl | (rw [hr] <;> rfl),le⟩
 refine eT (b:=((!decide ((l.sign.length:Int) = 1)) || ((l.sign[0]?).any (fun y=>(!fV y))))) (fun g15=>?_) (fun g15=>?_)
 have g15':=g15
 simp at g15'
 refine aN (neT g15)<|aN (neT g15)<|aN (neT g15)<|aN (neT g15)<|aB (y_pickT g15)<|?_
 exact jn _ (aA (aA aJ (by simp only [aH,reduceIte,Nat.reduceEqDiff,reduceCtorEq,g15,bb] <;> rfl)))
 have g15':=g15
 simp at g15'
 refine aO g15 y_fieldAddr<|aO g15 (y_load (Blk.at B1 rfl rfl))<|aO g15 y_len_str<|aO g15 cU<|aB (aR g15)<|?_
 exact jn _ (aA (aA aJ (by simp only [aH,reduceIte,Nat.reduceEqDiff,reduceCtorEq,g15,bb] <;> rfl)))
 refine dA ((l.sign.length:Int) = 1) (fun g8=>?_) (fun g8=>?_)
 refine aO (nT (dT g8)) y_fieldAddr<|aO (nT (dT g8)) (y_load (Blk.at B1 rfl rfl))<|?_
 obtain ⟨x1,hx1⟩:∃ c,l.sign[0]? = some c:=⟨_,List.getElem?_eq_getElem (by omega)⟩
 refine aO (nT (dT g8)) (bV hx1)<|gH (nT (dT g8)) aG tY<|aO (nT (dT g8)) dG<|aB (aR (nT (dT g8)))<|?_
 exact jn _ (aA (aA aJ (by first | (simp only [aH,reduceIte,Nat.reduceEqDiff,reduceCtorEq,(nT (dT g8)),hx1,bb]; done) | (simp only [aH,reduceIte,Nat.reduceEqDiff,reduceCtorEq]; try simp only [(nT (dT g8)),bb]; try simp only [hx1,bb]; done) | (simp only [aH,reduceIte,Nat.reduceEqDiff,reduceCtorEq,(nT (dT g8)),hx1,bb]; rfl))))
 refine aN (neT (nF (dF g8)))<|aN (neT (nF (dF g8)))<|aN (neT (nF (dF g8)))<|aN (neT (nF (dF g8)))<|aN (neT (nF (dF g8)))<|aB (y_pickT (nF (dF g8)))<|?_
 exact jn _ (aA (aA aJ (by simp only [aH,reduceIte,Nat.reduceEqDiff,reduceCtorEq,(nF (dF g8)),bb] <;> rfl)))
set_option maxHeartbeats 1000000 in
theorem aCg {w0:World} {h:Heap} {s:Str}  (s0:SB s:=by first | assumption | omega | (simp; done) | (simp; omega)):HC (XM PP) w0 103 [vs s].toArray h (fun rv h'=>rv = vb (fW s)∧h' = h):=by
 refine aV 28 [(0,vs s)] Tryz.func103 (fun r=>?_)
 refine hw_sr (aB aC<|aD ?_)
 refine aI ?_
 refine hw_sr (aB y_move<|aB y_len_str<|aB fS<|aB y_move<|?_)
 refine bB 4 [(0,vs s),(11,vb ((!decide ((s.length:Int) = 1)) && (!decide ((s.length:Int) = 2))))] (fun r=>?_) (fun jn=>?_)
 refine aD ?_
 refine bF (fun g11=>?_) (fun g11=>?_)
 have g11':=g11
 simp at g11'
 refine hw_sr (aB aC<|aD ?_)
 refine hw_rr ?_
 refine aQ rfl (.cons aU .nil) ?_
 have hr:fW s = false:=by unfold fW; rw [show mX s = true from g11]; rfl
 exact ⟨by first | rfl | (rw [hr] <;> rfl),rfl⟩
 have g11':=g11
 simp at g11'
 have hb:mX s = false:=g11
 refine aM ?_
 refine aI ?_
 refine hw_sr (aB aC<|aD ?_)
 refine cT (fun (k:Nat)=>[(0,vs s),(3,vi (k:Int))]) (fun (k:Nat) (h' : Heap)=>h = h' ∧ s.any iQ = false) (aX (cK (fun (k:Nat)=>[(0,vs s),(3,vi (k:Int))]) (fun (k:Nat) (h' : Heap)=>h = h' ∧ k ≤ s.length∧(s.take k).any iQ = false) (fun (k:Nat)=>s.length - k) (0) ag2 ⟨rfl,by simp⟩ ?_)) ?_
 rintro k r _ ⟨rfl,e1,e2⟩
 refine aI ?_
 refine hw_sr (aB y_move<|aB y_move<|aB y_len_str<|aB dB<|aD ?_)
 refine aF (ah3 0 3 15) fun r=>?_
 refine aZ (fun g15=>?_) (fun g15=>?_)
 refine aM ?_
 refine aI ?_
 refine aX ?_
 refine hw_sr (aB y_move<|aB y_move<|?_)
 obtain ⟨x1,hx1⟩:∃ c,s[k]? = some c:=⟨_,List.getElem?_eq_getElem (by omega)⟩
 refine aB (bV hx1)<|aB dB<|aB y_move<|?_
 refine bB 5 [(0,vs s),(3,vi (k:Int)),(27,vb ((decide ((x1.toNat:Int) < 97)) || (decide ((122:Int) < (x1.toNat:Int)))))] (fun r=>?_) (fun jn=>?_)
 refine aD ?_
 refine bF (fun g27=>?_) (fun g27=>?_)
 have g27':=g27
 simp at g27'
 refine hw_sr (aB aC<|aD ?_)
 refine hw_rr ?_
 refine aQ rfl (.cons aU .nil) ?_
 have hr:fW s = false:=by unfold fW; rw [any_at (p:=iQ) (by assumption) g27]; simp
 exact ⟨by first | rfl | (rw [hr] <;> rfl),rfl⟩
 have g27':=g27
 simp at g27'
 refine aM ?_
 refine aE (aB y_move<|aB bI<|aB aC<|aD ?_)
 exact ⟨k + 1,ag2,⟨rfl,by exact ⟨by omega,by rw [aAy (by assumption),e2]; exact g27⟩⟩,by first | omega | (dsimp only; omega)⟩
 refine dA ((x1.toNat:Int) < 97) (fun g22=>?_) (fun g22=>?_)
 refine aN (neT (dT g22))<|aN (neT (dT g22))<|aN (neT (dT g22))<|aN (neT (dT g22))<|aB (y_pickT (dT g22))<|?_
 exact jn _ (aA (aA (aA aJ (by simp only [aH,reduceIte,Nat.reduceEqDiff,reduceCtorEq,(dT g22),bb] <;> rfl))))
 refine aO (dF g22) y_move<|aO (dF g22) y_move<|aO (dF g22) (bV hx1)<|aO (dF g22) cU<|aB (aR (dF g22))<|?_
 exact jn _ (aA (aA (aA aJ (by simp only [aH,reduceIte,Nat.reduceEqDiff,reduceCtorEq,(dF g22),bb] <;> rfl))))
 refine cI ?_
 exact ⟨k,ag2,⟨rfl,by rw [List.take_of_length_le (by omega)] at e2; exact e2⟩⟩
 rintro k r _ ⟨rfl,e1⟩
 refine hw_sr (aB aC<|aD ?_)
 refine hw_rr ?_
 refine aQ rfl (.cons aU .nil) ?_
 have hr:fW s = true:=by unfold fW; rw [hb,e1]; rfl
 exact ⟨by first | rfl | (rw [hr] <;> rfl),rfl⟩
 refine dA ((s.length:Int) = 1) (fun g7=>?_) (fun g7=>?_)
 refine aN (neF (nT (dT g7)))<|aN (neF (nT (dT g7)))<|aN (neF (nT (dT g7)))<|aB (aR (nT (dT g7)))<|?_
 exact jn _ (aA (aA aJ (by simp only [aH,reduceIte,Nat.reduceEqDiff,reduceCtorEq,(nT (dT g7)),bb] <;> rfl)))
 refine aO (nF (dF g7)) y_move<|aO (nF (dF g7)) y_len_str<|aO (nF (dF g7)) fS<|aB (y_pickT (nF (dF g7)))<|?_
 exact jn _ (aA (aA aJ (by simp only [aH,reduceIte,Nat.reduceEqDiff,reduceCtorEq,(nF (dF g7)),bb] <;> rfl)))
set_option maxHeartbeats 1000000 in
theorem aAC {w0:World} {h:Heap} {s:Str} {c:UInt8}  (s0:SB s:=by first | assumption | omega | (simp; done) | (simp; omega)):HC (XM PP) w0 135 [vs s,.int .u8 (c.toNat:Int)].toArray h (fun rv h'=>rv = vi (jN (firstIx c s))∧h' = h):=by
 refine aV 8 [(0,vs s),(1,.int .u8 (c.toNat:Int))] Tryz.func135 (fun r=>?_)
 refine aI ?_
 refine aE (aB aC<|aD ?_)
 refine aI ?_
 refine aE (aB y_move<|aB y_move<|aB (aCA (c:=c) ext151)<|aB aC<|aD ?_)
 refine aF (L':=[(4,_)]) (aA aJ) (fun r=>?_)
 refine uA ?_
 repeat (first | refine gA ?_ | refine fJ ?_)
 refine aQ rfl (.cons aU .nil) ?_
 exact ⟨by first | rfl | (simp_all [oneOf]; done) | (simp_all [oneOf]; omega),rfl⟩
set_option maxHeartbeats 1000000 in
theorem Index_c {w0:World} {h:Heap} {s:Str} {c:UInt8}  (s0:SB s:=by first | assumption | omega | (simp; done) | (simp; omega)):HC (XM PP) w0 124 [vs s,vs [c]].toArray h (fun rv h'=>rv = vi (jN (firstIx c s))∧h' = h):=by
 refine aV 143 [(0,vs s),(1,vs [c])] Tryz.func124 (fun r=>?_)
 refine hw_sr (aB aC<|aD ?_)
 refine hw_sr (aB y_move<|aB mA<|aB aC<|aD ?_)
 refine aI ?_
 refine aX ?_
 refine hw_sr (aB y_move<|aB bM<|aB y_move<|aO rfl y_move<|aO rfl y_move<|aO rfl y_seql<|aB (aR rfl)<|aB aC<|aD ?_)
 refine aF (ah4 0 1 5 16) fun r=>?_
 refine aZ (fun g16=>?_) (fun g16=>?_)
 refine hw_sr (aB aC<|aD ?_)
 refine hw_rr ?_
 refine aQ rfl (.cons aU .nil) ?_
 have hs:[c] = s:=by simpa using g16
 have hr:jN (firstIx c s) = 0:=by rw [← hs]; simp [firstIx,jN]
 exact ⟨by first | rfl | (rw [hr] <;> rfl),rfl⟩
 refine hw_sr (aB y_move<|aB bM<|aB aC<|aD ?_)
 refine fP rfl ?_
 refine hw_sr (aB y_move<|aB y_move<|?_)
 refine aB (bV (rfl:[c][0]? = some c))<|dY aG aAC<|aB aC<|aD ?_
 refine aF (ah1 4) fun r=>?_
 refine hw_rr ?_
 refine aQ rfl (.cons aU .nil) ?_
 exact ⟨by first | rfl | (simp_all [oneOf] <;> omega),rfl⟩
set_option maxHeartbeats 1000000 in
theorem sCut_c {w0:World} {h:Heap} {s:Str} {c:UInt8}  (s0:SB s:=by first | assumption | omega | (simp; done) | (simp; omega)):HC (XM PP) w0 112 [vs s,vs [c]].toArray h (fun rv h'=>rv = .tuple #[vs ((iC c s).1),vs ((iC c s).2.1),vb ((iC c s).2.2)]∧h' = h):=by
 have hb:=aC6 c s
 refine aV 23 [(0,vs s),(1,vs [c])] Tryz.func112 (fun r=>?_)
 refine hw_sr (aB aC<|aB aC<|aB aC<|aD ?_)
 refine aF (ah2 0 1) fun r=>?_
 refine aI ?_
 refine hw_sr (aB y_move<|aB y_move<|dY aG Index_c<|aB aC<|aD ?_)
 refine aF (ah3 0 1 7) fun r=>?_
 refine hw_sr (aB y_move<|aB y_geq<|aD ?_)
 refine aZ (fun g12=>?_) (fun g12=>?_)
 refine aI ?_
 refine fR (bN y_move<|bN y_move<|bN iY<|bN y_move<|bN y_move<|bN y_move<|bN mA<|bN bI<|bN hQ<|bN aC<|bN aC<|bN aC<|gO ?_)
 refine aF (ah3 4 5 6) fun r=>?_
 refine hw_rr ?_
 refine aQ rfl (.cons aU (.cons aU (.cons aU .nil))) ?_
 have hr:=aCr g12
 exact ⟨by first | rfl | (rw [hr] <;> rfl),rfl⟩
 refine aM ?_
 refine hw_sr (aB y_move<|aB aC<|aB aC<|aB aC<|aD ?_)
 refine hw_rr ?_
 refine aQ rfl (.cons aU (.cons aU (.cons aU .nil))) ?_
 have hr:=aCs g12
 exact ⟨by first | rfl | (rw [hr] <;> rfl),rfl⟩
set_option maxHeartbeats 1000000 in
theorem Cut_c {w0:World} {h:Heap} {s:Str} {c:UInt8}  (s0:SB s:=by first | assumption | omega | (simp; done) | (simp; omega)):HC (XM PP) w0 102 [vs s,vs [c]].toArray h (fun rv h'=>rv = .tuple #[vs ((iC c s).1),vs ((iC c s).2.1),vb ((iC c s).2.2)]∧h' = h):=by
 refine aV 13 [(0,vs s),(1,vs [c])] Tryz.func102 (fun r=>?_)
 refine hw_sr (aB aC<|aB aC<|aB aC<|aD ?_)
 refine aF (ah2 0 1) fun r=>?_
 refine hw_sr (aB y_move<|aB y_move<|dY aG sCut_c<|aB aL<|aB aL<|aB aL<|aB aC<|aB aC<|aB aC<|aD ?_)
 refine aF (ah3 4 5 6) fun r=>?_
 refine hw_rr ?_
 refine aQ rfl (.cons aU (.cons aU (.cons aU .nil))) ?_
 exact ⟨by first | rfl | (simp_all [oneOf] <;> omega),rfl⟩
set_option maxHeartbeats 1000000 in
theorem aAD {w0:World} {h:Heap} {s:Str} {c:UInt8}  (s0:SB s:=by first | assumption | omega | (simp; done) | (simp; omega)):HC (XM PP) w0 139 [vs s,vs [c]].toArray h (fun rv h'=>rv = vb (aDf c s)∧h' = h):=by
 refine aV 18 [(0,vs s),(1,vs [c])] Tryz.func139 (fun r=>?_)
 refine hw_sr (aB aC<|aD ?_)
 refine hw_sr (aB y_move<|aB y_len_str<|aB y_move<|aB mA<|aB y_geq<|aB y_move<|?_)
 refine bB 7 [(17,vb ((decide ((1:Int) ≤ (s.length:Int))) && (decide ((s.take 1) = [c]))))] (fun r=>?_) (fun jn=>?_)
 refine aB aC<|aD ?_
 refine hw_rr ?_
 refine aQ rfl (.cons aU .nil) ?_
 exact ⟨by first | rfl | (simp_all [oneOf] <;> omega),rfl⟩
 refine dA ((1:Int) ≤ (s.length:Int)) (fun g10=>?_) (fun g10=>?_)
 refine aO (dT g10) y_move<|aO (dT g10) y_move<|aO (dT g10) mA<|aO (dT g10) iY<|aO (dT g10) y_move<|aO (dT g10) y_seql<|aB (y_pickT (dT g10))<|?_
 exact jn _ (aA aJ (by simp only [aH,reduceIte,Nat.reduceEqDiff,reduceCtorEq,(dT g10),bb] <;> rfl))
 refine aN (neF (dF g10))<|aN (neF (dF g10))<|aN (neF (dF g10))<|aN (neF (dF g10))<|aN (neF (dF g10))<|aN (neF (dF g10))<|aB (aR (dF g10))<|?_
 exact jn _ (aA aJ (by simp only [aH,reduceIte,Nat.reduceEqDiff,reduceCtorEq,(dF g10),bb] <;> rfl))
set_option maxHeartbeats 1000000 in
theorem vD {w0:World} {h:Heap} {s:Str} {c:UInt8}  (s0:SB s:=by first | assumption | omega | (simp; done) | (simp; omega)):HC (XM PP) w0 125 [vs s,vs [c]].toArray h (fun rv h'=>rv = vs (gI c s)∧h' = h):=by
 refine aV 13 [(0,vs s),(1,vs [c])] Tryz.func125 (fun r=>?_)
 refine hw_sr (aB aC<|aD ?_)
 refine aI ?_
 refine hw_sr (aB y_move<|aB y_move<|dY aG aAD<|aD ?_)
 refine bF (fun g7=>?_) (fun g7=>?_)
 have h1:1 ≤ s.length:=by have:=g7; simp [aDf] at this; omega
 refine hw_sr (aB y_move<|aB y_move<|aB mA<|aB hQ<|aB aC<|aD ?_)
 refine aF (ah1 4) fun r=>?_
 refine hw_rr ?_
 refine aQ rfl (.cons aU .nil) ?_
 have hr:gI c s = s.drop 1:=if_pos g7
 exact ⟨by first | rfl | (rw [hr] <;> rfl),rfl⟩
 refine aM ?_
 refine hw_sr (aB y_move<|aB aC<|aD ?_)
 refine hw_rr ?_
 refine aQ rfl (.cons aU .nil) ?_
 have hr:gI c s = s:=if_neg (neF g7)
 exact ⟨by first | rfl | (rw [hr] <;> rfl),rfl⟩
set_option maxHeartbeats 1000000 in
theorem yE {w0:World} {h:Heap} {s:Str} {c:UInt8}  (s0:SB s:=by first | assumption | omega | (simp; done) | (simp; omega)):HC (XM PP) w0 113 [vs s,vs [c]].toArray h (fun rv h'=>rv = vs (gI c s)∧h' = h):=by
 refine aV 8 [(0,vs s),(1,vs [c])] Tryz.func113 (fun r=>?_)
 refine aI ?_
 refine aE (aB aC<|aD ?_)
 refine aI ?_
 refine aE (aB y_move<|aB y_move<|dY aG vD<|aB aC<|aD ?_)
 refine aF (L':=[(4,_)]) (aA aJ) (fun r=>?_)
 refine uA ?_
 repeat (first | refine gA ?_ | refine fJ ?_)
 refine aQ rfl (.cons aU .nil) ?_
 exact ⟨by first | rfl | (simp_all [oneOf]; done) | (simp_all [oneOf]; omega),rfl⟩
end
section
open Go.Conc
abbrev eI (eb:Addr):Value:=.iface 224 (.pointer (some eb))
def aAr (ok:Bool) (u:Value):Value:=if ok then .nilIface else u
theorem EV.of (ok:Bool) (T:TypeId) (v:Value):EV ok (aAr ok (.iface T v)):=by
  cases ok
  · exact .inr ⟨rfl,T,v,rfl⟩
  · exact .inl ⟨rfl,rfl⟩
theorem Blk.cast {h:Heap} {b:Nat} {cs cs' : List Value} {T:TypeId} (k:Blk h b cs T) (e:cs = cs'):Blk h b cs' T:=e ▸ k
noncomputable abbrev rtV:Value:=.agg #[typeHandle PP 224]
theorem aAL (v:Value) (w:World):(Extern.ReflectliteType.typeOf [.iface 224 v].toArray).run PP w = .ok (.iface 155 rtV) w:=by kernel_rfl
theorem aBX (v:Value) (w:World) (es:Array Event):(Extern.ReflectliteType.typeOf [.iface 224 v].toArray).events PP w es = es:=by kernel_rfl
section
variable {s:Env} {h:Heap} {ty t yt:TypeId} {x y q:Operand} {eb:Addr}
theorem aCy {ats:Array TypeId} (hv:[q].map (ev s) = [eI eb]:=by (simp only [List.map_cons,List.map_nil,ev,aH,reduceIte,Nat.reduceEqDiff,reduceCtorEq] <;> rfl)) :
    Y PP s h (.call { callee:=.value (.func 83),args:=#[q],argTypes:=ats }) ty (.iface 155 rtV) :=
  aCB (xs:=[q]) ext83 (fun w _=>⟨aAL _ w,fun es=>aBX _ w es⟩) hv
theorem yB (w:World):(callMethod (.iface 155 rtV) "Comparable" #[]).run PP w = .ok (.value (.bool true)) w:=by kernel_rfl
theorem aAv (w:World) (es:Array Event):(callMethod (.iface 155 rtV) "Comparable" #[]).events PP w es = es.push ⟨.mark (.extern 192),false,true⟩:=by kernel_rfl
theorem xH {ats:Array TypeId} (hq:ev s q = .iface 155 rtV:=by (simp only [ev,aH,reduceIte,Nat.reduceEqDiff,reduceCtorEq] <;> rfl)) :
    Y PP s h (.call { callee:=.invoke q "Comparable",args:=#[],argTypes:=ats }) ty (.bool true):=fun _ _ _ _ w hh=>by
  have e1:∀ d ps af g,execOp (ev s) { dst:=d,op:=.call { callee:=.invoke q "Comparable",args:=#[],argTypes:=ats },type:=ty,pos:=ps,after:=af,guard:=g } = callMethod (.iface 155 rtV) "Comparable" #[]:=by
    intro d ps af g; simp [execOp,resolve,hq,invoke]
  rw [e1]
  refine ⟨yB w,fun e he=>?_⟩
  rw [aAv] at he
  obtain rfl:e = _:=by simpa using he
  exact ⟨rfl,rfl⟩
theorem errComp:(PP.info? 224).map (·.comparable) = some true:=by kernel_rfl
theorem errSize:(PP.info? 226).map (·.size) = some 1:=by kernel_rfl
theorem y_eiS (hx:ev s x = eI eb:=by (simp only [ev,aH,reduceIte,Nat.reduceEqDiff,reduceCtorEq] <;> rfl)) (hy:ev s y = eI eb:=by (simp only [ev,aH,reduceIte,Nat.reduceEqDiff,reduceCtorEq] <;> rfl)):Y PP s h (.binOp .eql 75 x y yt) ty (.bool true):=fun _ _ _ _ w _=>by
  obtain ⟨i,hi,hcmp⟩:=Option.map_eq_some_iff.1 errComp
  obtain ⟨j,hj,hjs⟩:=Option.map_eq_some_iff.1 errSize
  have e:binOp .eql 75 (eI eb) (eI eb) = (do pure (.bool (← Op.equal 75 (eI eb) (eI eb)))):=rfl
  have e1:(Op.equal 75 (eI eb) (eI eb)).run PP w = .ok true w:=run_equalIn_iface_ptr_same w 9998 eb Tryz.underlying75 Tryz.underlying224 hi hcmp hj
  have e2:∀ es,(Op.equal 75 (eI eb) (eI eb)).events PP w es = es:=fun es=>by
    have hev:∀ d,(Op.equalIn (d + 2) 75 (eI eb) (eI eb)).events PP w es = es:=fun d=>by
      simp [Op.equalIn,run_underlying Tryz.underlying75,run_underlying Tryz.underlying224,typeInfo,hi,hcmp,sizeOf,hj,hjs,sameAddr]
    exact hev 9998
  simp [execOp,hx,hy,eqGuard,e,e1,e2]
theorem y_eiN {e:Bool} (he:e = true) (hx:ev s x = aAr e (eI eb):=by (simp only [ev,aH,reduceIte,Nat.reduceEqDiff,reduceCtorEq] <;> rfl)) (hy:ev s y = eI eb:=by (simp only [ev,aH,reduceIte,Nat.reduceEqDiff,reduceCtorEq] <;> rfl)):Y PP s h (.binOp .eql 75 x y yt) ty (.bool false):=fun _ _ _ _ w _=>by
  subst he
  have hx:ev s x = .nilIface:=hx
  have e:binOp .eql 75 .nilIface (eI eb) = (do pure (.bool (← Op.equal 75 .nilIface (eI eb)))):=rfl
  have e1:(Op.equal 75 .nilIface (eI eb)).run PP w = .ok false w:=aBe 9999 Tryz.underlying75 _ _
  have e2:∀ es,(Op.equal 75 .nilIface (eI eb)).events PP w es = es:=fun es=>vO 9999 Tryz.underlying75 _ _
  simp [execOp,hx,hy,eqGuard,e,e1,e2]
end
end
section
open Go.Conc
def gJ (seen:Int) (c:UInt8):Bool:=(decide (seen = 1) || decide (seen = 2)) && dV c
def dE (seen size:Int) (c:UInt8):Int:=if gJ seen c then (if seen = 1 then (size + ((c.toNat:Int) - 48)) * 10 else size + ((c.toNat:Int) - 48)) else size
def eV (seen size:Int) (c:UInt8):Bool:=if seen = 0 then fV c else if (decide (seen = 1) || decide (seen = 2)) then (dV c && decide (dE seen size c ≤ 40)) else fK c
def cG (seen size:Int) (c:UInt8):Int:=if eV seen size c then seen + 1 else seen
def jL (seen size:Int):Bool:=decide (3 ≤ seen) && decide (seen = 3 + size)
def cP (seen size:Int):Str → Int × Bool
  | []=>(0,true)
  | c :: s=>if eV seen size c then (if jL (cG seen size c) (dE seen size c) then (cG seen size c,true) else cP (cG seen size c) (dE seen size c) s) else (0,false)
theorem lW {seen size:Int} {s:Str} {k:Nat} {c:UInt8} (hx:s[k]? = some c):cP seen size (s.drop k) = if eV seen size c then (if jL (cG seen size c) (dE seen size c) then (cG seen size c,true) else cP (cG seen size c) (dE seen size c) (s.drop (k + 1))) else (0,false):=by
  obtain ⟨h1,rfl⟩:=List.getElem?_eq_some_iff.1 hx
  rw [List.drop_eq_getElem_cons h1,cP]
theorem oE {c:UInt8} (h:dV c = true):0 ≤ (c.toNat:Int) - 48∧(c.toNat:Int) - 48 ≤ 9:=by
  simp only [dV,Bool.and_eq_true,decide_eq_true_eq] at h; omega
theorem aAp {seen size:Int} {c:UInt8} (h1:0 ≤ size) (h2:size ≤ 40) (hs:seen ≤ 1000000) (hok:eV seen size c = true):0 ≤ dE seen size c∧dE seen size c ≤ 40:=by
  by_cases hn:gJ seen c = true
  · have hd:dV c = true:=by simp only [gJ,Bool.and_eq_true] at hn; exact hn.2
    have hb:=oE hd
    have h12:(decide (seen = 1) || decide (seen = 2)) = true:=by simp only [gJ,Bool.and_eq_true] at hn; exact hn.1
    have h0:¬ seen = 0:=by simp only [Bool.or_eq_true,decide_eq_true_eq] at h12; omega
    unfold eV at hok
    rw [if_neg h0,if_pos h12,hd,Bool.true_and,decide_eq_true_eq] at hok
    refine ⟨?_,hok⟩
    unfold dE
    rw [if_pos hn]
    split <;> omega
  · unfold dE; rw [if_neg hn]; exact ⟨h1,h2⟩
theorem sC (s:Str):∀ seen size:Int,0 ≤ seen → (cP seen size s).1 = 0 ∨ (3 ≤ (cP seen size s).1∧(cP seen size s).1 ≤ seen + (s.length:Int)):=by
  induction s with
  | nil=>intro seen size _; exact .inl rfl
  | cons c s ih =>
    intro seen size h0
    unfold cP
    split
    · rename_i hok
      have hs:cG seen size c = seen + 1:=if_pos hok
      split
      · rename_i hd
        simp only [jL,Bool.and_eq_true,decide_eq_true_eq] at hd
        rw [hs] at hd
        refine .inr ?_
        simp only [hs,List.length_cons]
        omega
      · have:=ih (cG seen size c) (dE seen size c) (by omega)
        simp only [hs,List.length_cons] at this ⊢
        omega
    · exact .inl rfl
def cO (s:Str):Letter × Int × Int :=
  if (cP 0 0 s).2 then if (cP 0 0 s).1 = 0 then (⟨[],[]⟩,0,1) else (⟨s.take 1,(s.take (cP 0 0 s).1.toNat).drop 3⟩,(cP 0 0 s).1,0) else (⟨[],[]⟩,0,2)
set_option maxHeartbeats 1000000 in
theorem aBc {w0:World} {h:Heap} {eb:Addr}   : HC (XM PP) w0 84 [eI eb,eI eb,vb true].toArray h (fun rv h'=>rv = vb true∧h' = h):=by
 refine aV 54 [(0,(eI eb)),(1,(eI eb)),(2,vb true)] Tryz.func84 (fun r=>?_)
 refine hw_sr (aB aC<|aD ?_)
 refine cT (fun (gu:Unit)=>[(0,(eI eb)),(1,(eI eb)),(2,vb true)]) (fun (gu:Unit) (h' : Heap)=>h = h' ∧ False) (aX (cK (fun (gu:Unit)=>[(0,(eI eb)),(1,(eI eb)),(2,vb true)]) (fun (gu:Unit) (h' : Heap)=>h = h' ∧ True) (fun (gu:Unit)=>0) () ag3 ⟨rfl,by trivial⟩ ?_)) ?_
 rintro gu r _ ⟨rfl,e1⟩
 refine aX ?_
 refine aI ?_
 refine hw_sr (aB y_move<|aB y_move<|aO rfl y_move<|aO rfl y_move<|aO rfl y_eiS<|aB (y_pickT rfl)<|aD ?_)
 refine aF (ah4 0 1 2 19) fun r=>?_
 refine bF (fun g19=>?_) (fun g19=>?_)
 refine hw_sr (aB aC<|aD ?_)
 refine hw_rr ?_
 refine aQ rfl (.cons aU .nil) ?_
 exact ⟨by first | rfl | (simp_all [oneOf] <;> omega),rfl⟩
 cases g19
 rintro gu r _ ⟨rfl,hfalse⟩
 exact hfalse.elim
theorem aAq {w0:World} {h:Heap} {eb:Addr} {e:Bool} (he:e = false):HC (XM PP) w0 84 [aAr e (eI eb),eI eb,vb true].toArray h (fun rv h'=>rv = vb true∧h' = h):=by
 subst he; exact aBc
set_option maxHeartbeats 1000000 in
theorem aBd {w0:World} {h:Heap} {eb:Addr} {e:Bool}   : HC (XM PP) w0 61 [aAr e (eI eb),eI eb].toArray h (fun rv h'=>rv = vb (!e)∧h' = h):=by
 refine aV 22 [(0,(aAr e (eI eb))),(1,(eI eb))] Tryz.func61 (fun r=>?_)
 refine hw_sr (aB aC<|aD ?_)
 refine aI ?_
 refine hw_sr (aB y_move<|aB (aCC (EV.of _ _ _))<|aB y_move<|?_)
 refine bB 3 [(0,(aAr e (eI eb))),(1,(eI eb)),(11,vb (e && true))] (fun r=>?_) (fun jn=>?_)
 refine aD ?_
 refine bF (fun g11=>?_) (fun g11=>?_)
 have g11':=g11
 simp at g11'
 refine hw_sr (aB y_move<|aB y_move<|aB (y_eiN (by assumption))<|aB aC<|aD ?_)
 refine aF (ah1 4) fun r=>?_
 refine hw_rr ?_
 refine aQ rfl (.cons aU .nil) ?_
 exact ⟨by first | rfl | (simp_all [oneOf] <;> omega),rfl⟩
 have g11':=g11
 simp at g11'
 refine aM ?_
 refine hw_sr (aB y_move<|aB aCy<|aB xH<|aB aC<|aD ?_)
 refine aF (ah3 0 1 5) fun r=>?_
 refine hw_sr (aB y_move<|aB y_move<|aB y_move<|dY aG (aAq (by assumption))<|aB aC<|aD ?_)
 refine aF (ah1 4) fun r=>?_
 refine hw_rr ?_
 refine aQ rfl (.cons aU .nil) ?_
 exact ⟨by first | rfl | (simp_all [oneOf] <;> omega),rfl⟩
 refine eT (b:=e) (fun g8=>?_) (fun g8=>?_)
 refine aN (neT g8)<|aN (neT g8)<|aB (y_pickT g8)<|?_
 exact jn _ (aA (aA (aA aJ (by simp only [aH,reduceIte,Nat.reduceEqDiff,reduceCtorEq,g8,bb] <;> rfl))))
 refine aO g8 y_move<|aO g8 (aCC (EV.some _ _))<|aB (aR g8)<|?_
 exact jn _ (aA (aA (aA aJ (by simp only [aH,reduceIte,Nat.reduceEqDiff,reduceCtorEq,g8,bb] <;> rfl))))
set_option maxHeartbeats 1000000 in
theorem done_c {w0:World} {h:Heap} {seen:Int} {size:Int} {b0:Nat} (B0:Blk h b0 [vi seen,vi size] 126)  (hs:0 ≤ size∧size ≤ 1000:=by omega):HC (XM PP) w0 82 [.pointer (some ⟨b0,0,none⟩)].toArray h (fun rv h'=>rv = vb (jL seen size)∧h' = h):=by
 have lB0:=B0.lt
 refine aV 20 [(0,.pointer (some ⟨b0,0,none⟩))] Tryz.func82 (fun r=>?_)
 refine hw_sr (aB aC<|aD ?_)
 refine aI ?_
 refine fR (bN y_move<|bN y_nilCheck<|bN y_fieldAddr<|bN (y_load (Blk.at B0 rfl rfl))<|bN y_geq<|bN y_move<|?_)
 refine mJ 11 [(19,vb ((decide ((3:Int) ≤ seen)) && (decide (seen = (3 + size)))))] (fun r=>?_) (fun jn=>?_)
 refine bN aC<|gO ?_
 refine hw_rr ?_
 refine aQ rfl (.cons aU .nil) ?_
 exact ⟨by first | rfl | (simp_all [oneOf] <;> omega),rfl⟩
 refine dA ((3:Int) ≤ seen) (fun g8=>?_) (fun g8=>?_)
 refine dJ (dT g8) y_move<|dJ (dT g8) y_nilCheck<|dJ (dT g8) y_fieldAddr<|dJ (dT g8) (y_load (Blk.at B0 rfl rfl))<|dJ (dT g8) y_move<|dJ (dT g8) y_nilCheck<|dJ (dT g8) y_fieldAddr<|dJ (dT g8) (y_load (Blk.at B0 rfl rfl))<|?_
 refine dJ (dT g8) bI<|dJ (dT g8) bM<|bN (y_pickT (dT g8))<|?_
 exact jn _ (aA aJ (by simp only [aH,reduceIte,Nat.reduceEqDiff,reduceCtorEq,(dT g8),bb] <;> rfl))
 refine dI (neF (dF g8))<|dI (neF (dF g8))<|dI (neF (dF g8))<|dI (neF (dF g8))<|dI (neF (dF g8))<|dI (neF (dF g8))<|dI (neF (dF g8))<|dI (neF (dF g8))<|dI (neF (dF g8))<|dI (neF (dF g8))<|bN (aR (dF g8))<|?_
 exact jn _ (aA aJ (by simp only [aH,reduceIte,Nat.reduceEqDiff,reduceCtorEq,(dF g8),bb] <;> rfl))
set_option maxHeartbeats 1000000 in
theorem feed_c {w0:World} {h:Heap} {O:Nat → Prop} {eb:Addr} {seen:Int} {size:Int} {b0:Nat} {c:UInt8} (gm:Rs h O (.slice (some ⟨0,0,none⟩) 1 1) [eI eb]) (B0:Blk h b0 [vi seen,vi size] 126) (mB0:O b0) (OB0:OB h O)  (hs:0 ≤ size∧size ≤ 1000:=by omega) (hn:0 ≤ seen∧seen ≤ 1000000:=by omega):HC (XM PP) w0 81 [.pointer (some ⟨b0,0,none⟩),.int .u8 (c.toNat:Int)].toArray h (fun rv h'=>rv = (aAr (eV seen size c) (eI eb))∧fQ h b0 [vi (cG seen size c),vi (dE seen size c)] 126 h'):=by
 have lB0:=B0.lt
 replace le:=Mod.refl (S:=(· = b0)) h
 have OBe:=OB0
 refine aV 58 [(0,.pointer (some ⟨b0,0,none⟩)),(1,.int .u8 (c.toNat:Int))] Tryz.func81 (fun r=>?_)
 refine hw_sr (aB aC<|aD ?_)
 refine hw_sr (aB aC<|aD ?_)
 refine aI ?_
 refine hw_sr (aB y_move<|aB y_nilCheck<|aB y_fieldAddr<|aB (y_load (Blk.at B0 rfl rfl))<|aD ?_)
 refine aF (ah4 0 1 5 9) fun r=>?_
 refine aX ?_
 refine hw_sr (aB bM<|aB aC<|aD ?_)
 refine aZ (fun g12=>?_) (fun g12=>?_)
 have hk:eV seen size c = fV c:=if_pos g12
 have hz:dE seen size c = size:=if_neg (by simp [gJ,g12])
 refine aE (aB y_move<|dY aG tY<|aB aC<|aD ?_)
 refine aF (ah2 0 5) fun r=>?_
 refine aI ?_
 refine hw_sr (aB y_move<|aB dG<|aD ?_)
 refine dS (fun g49=>?_) (fun g49=>?_)
 refine hw_sr (aB (y_load (RdF.cell1 gm.1 (i:=0) rfl rfl))<|aB aC<|aD ?_)
 refine hw_rr ?_
 refine aQ rfl (.cons aU .nil) ?_
 have hr:eV seen size c = false:=by rw [hk]; first | exact g49 | (rw [hz]; exact decide_eq_false g49)
 exact ⟨by first | rfl | (first | (rw [hr]; rfl) | (unfold cG; rw [hr,hz]; rfl)),⟨by omega,le,Blk.cast B0 (by first | rfl | (first | (rw [hr]; rfl) | (unfold cG; rw [hr,hz]; rfl)))⟩⟩
 refine aM ?_
 refine hw_sr (aB y_move<|aB y_nilCheck<|aB y_fieldAddr<|aB (y_load (Blk.at B0 rfl rfl))<|?_)
 refine aB bI<|aB y_nilCheck<|aB y_fieldAddr<|bO (aK aP B0) (fun v1 h1 q1=>?_)
 obtain ⟨rfl,q1⟩:=q1
 have z1:=q1.1
 replace B0:=q1.2.2
 refine aD ?_
 refine aF (L':=[]) aJ (fun r=>?_)
 refine hw_sr (aB aC<|aD ?_)
 refine hw_rr ?_
 refine aQ rfl (.cons aU .nil) ?_
 have hr:eV seen size c = true:=by rw [hk]; first | exact g49 | (rw [hz]; exact decide_eq_true g49)
 replace le:=le.stO q1 rfl
 exact ⟨by first | rfl | (first | (rw [hr]; rfl) | (unfold cG; rw [hr,hz]; rfl)),⟨by omega,le,Blk.cast B0 (by first | rfl | (first | (rw [hr]; rfl) | (unfold cG; rw [hr,hz]; rfl)))⟩⟩
 refine dH (fun (gu:Unit)=>[(0,.pointer (some ⟨b0,0,none⟩)),(1,.int .u8 (c.toNat:Int)),(5,vb false),(16,vb ((decide (seen = 1)) || (decide (seen = 2))))]) (fun (gu:Unit) (h' : Heap)=>h = h') ?_ ?_
 refine hw_sr (aB bM<|aB aC<|aD ?_)
 refine aZ (fun g16=>?_) (fun g16=>?_)
 refine aM ?_
 exact ⟨(),(aA (aA (aA (aA aJ (by simp only [aH,reduceIte,Nat.reduceEqDiff,reduceCtorEq,(dT g16),bb] <;> rfl))))),(rfl)⟩
 first | (have hk:eV seen size c = fK c:=(if_neg g12).trans (if_neg (neF g16)); have hz:dE seen size c = size:=if_neg (by unfold gJ; rw [g16]; simp)) | skip
 refine aE (aB bM<|aB aC<|aD ?_)
 exact ⟨(),(aA (aA (aA (aA aJ (by simp only [aH,reduceIte,Nat.reduceEqDiff,reduceCtorEq,(dF g16),bb] <;> rfl))))),(rfl)⟩
 rintro gu r _ rfl
 refine bF (fun g16=>?_) (fun g16=>?_)
 have g16':=g16
 simp at g16'
 refine hw_sr (aB y_move<|dY aG sD<|aD ?_)
 refine bF (fun g20=>?_) (fun g20=>?_)
 have hb:=oE g20
 have hnm:gJ seen c = true:=by unfold gJ; rw [g16,g20]; rfl
 have hk:eV seen size c = decide (dE seen size c ≤ 40):=by unfold eV; rw [if_neg g12,if_pos g16,g20]; rfl
 refine hw_sr (aB y_move<|aB y_nilCheck<|aB y_fieldAddr<|aB (y_load (Blk.at B0 rfl rfl))<|aB y_move<|?_)
 refine aB (dQ (hw:=eX (by omega) (by omega)))<|aB iZ<|aB bI<|aB y_nilCheck<|aB y_fieldAddr<|bO (aK aP B0) (fun v3 h3 q3=>?_)
 obtain ⟨rfl,q3⟩:=q3
 have z3:=q3.1
 replace B0:=q3.2.2
 refine aD ?_
 refine aF (ah1 0) fun r=>?_
 refine aI ?_
 refine hw_sr (aB y_move<|aB y_nilCheck<|aB y_fieldAddr<|aB (y_load (Blk.at B0 rfl rfl))<|aB bM<|aD ?_)
 refine aF (ah2 0 35) fun r=>?_
 refine aZ (fun g35=>?_) (fun g35=>?_)
 have hz:dE seen size c = (size + ((c.toNat:Int) - 48)) * 10:=(if_pos hnm).trans (if_pos g35)
 refine aE (aB y_move<|aB y_nilCheck<|aB y_fieldAddr<|aB (y_load (Blk.at B0 rfl rfl))<|?_)
 refine aB hG<|aB y_nilCheck<|aB y_fieldAddr<|bO (aK aP B0) (fun v4 h4 q4=>?_)
 replace le:=le.stO q3 rfl
 obtain ⟨rfl,q4⟩:=q4
 have z4:=q4.1
 replace B0:=q4.2.2
 refine aD ?_
 refine aF (ah1 0) fun r=>?_
 refine aE (aB y_move<|aB y_nilCheck<|aB y_fieldAddr<|aB (y_load (Blk.at B0 rfl rfl))<|aB y_leq<|aB aC<|aD ?_)
 refine aF (ah2 0 5) fun r=>?_
 refine aI ?_
 refine hw_sr (aB y_move<|aB dG<|aD ?_)
 refine fH (fun g49=>?_) (fun g49=>?_)
 refine hw_sr (?_)
 replace gm:=(gm.st q3 mB0).st q4 mB0
 refine aB (y_load (RdF.cell1 gm.1 (i:=0) rfl rfl))<|aB aC<|aD ?_
 refine hw_rr ?_
 refine aQ rfl (.cons aU .nil) ?_
 have hr:eV seen size c = false:=by rw [hk]; first | exact g49 | (rw [hz]; exact decide_eq_false g49)
 replace le:=le.stO q4 rfl
 exact ⟨by first | rfl | (first | (rw [hr]; rfl) | (unfold cG; rw [hr,hz]; rfl)),⟨by omega,le,Blk.cast B0 (by first | rfl | (first | (rw [hr]; rfl) | (unfold cG; rw [hr,hz]; rfl)))⟩⟩
 refine aM ?_
 refine hw_sr (aB y_move<|aB y_nilCheck<|aB y_fieldAddr<|aB (y_load (Blk.at B0 rfl rfl))<|?_)
 refine aB bI<|aB y_nilCheck<|aB y_fieldAddr<|bO (aK aP B0) (fun v5 h5 q5=>?_)
 replace le:=le.stO q4 rfl
 obtain ⟨rfl,q5⟩:=q5
 have z5:=q5.1
 replace B0:=q5.2.2
 refine aD ?_
 refine aF (L':=[]) aJ (fun r=>?_)
 refine hw_sr (aB aC<|aD ?_)
 refine hw_rr ?_
 refine aQ rfl (.cons aU .nil) ?_
 have hr:eV seen size c = true:=by rw [hk]; first | exact g49 | (rw [hz]; exact decide_eq_true g49)
 replace le:=le.stO q5 rfl
 exact ⟨by first | rfl | (first | (rw [hr]; rfl) | (unfold cG; rw [hr,hz]; rfl)),⟨by omega,le,Blk.cast B0 (by first | rfl | (first | (rw [hr]; rfl) | (unfold cG; rw [hr,hz]; rfl)))⟩⟩
 have hz:dE seen size c = size + ((c.toNat:Int) - 48):=(if_pos hnm).trans (if_neg g35)
 refine aM ?_
 refine aE (aB y_move<|aB y_nilCheck<|aB y_fieldAddr<|aB (y_load (Blk.at B0 rfl rfl))<|aB y_leq<|aB aC<|aD ?_)
 refine aF (ah2 0 5) fun r=>?_
 refine aI ?_
 refine hw_sr (aB y_move<|aB dG<|aD ?_)
 refine fH (fun g49=>?_) (fun g49=>?_)
 refine hw_sr (?_)
 replace gm:=gm.st q3 mB0
 refine aB (y_load (RdF.cell1 gm.1 (i:=0) rfl rfl))<|aB aC<|aD ?_
 refine hw_rr ?_
 refine aQ rfl (.cons aU .nil) ?_
 have hr:eV seen size c = false:=by rw [hk]; first | exact g49 | (rw [hz]; exact decide_eq_false g49)
 replace le:=le.stO q3 rfl
 exact ⟨by first | rfl | (first | (rw [hr]; rfl) | (unfold cG; rw [hr,hz]; rfl)),⟨by omega,le,Blk.cast B0 (by first | rfl | (first | (rw [hr]; rfl) | (unfold cG; rw [hr,hz]; rfl)))⟩⟩
 refine aM ?_
 refine hw_sr (aB y_move<|aB y_nilCheck<|aB y_fieldAddr<|aB (y_load (Blk.at B0 rfl rfl))<|?_)
 refine aB bI<|aB y_nilCheck<|aB y_fieldAddr<|bO (aK aP B0) (fun v6 h6 q6=>?_)
 replace le:=le.stO q3 rfl
 obtain ⟨rfl,q6⟩:=q6
 have z6:=q6.1
 replace B0:=q6.2.2
 refine aD ?_
 refine aF (L':=[]) aJ (fun r=>?_)
 refine hw_sr (aB aC<|aD ?_)
 refine hw_rr ?_
 refine aQ rfl (.cons aU .nil) ?_
 have hr:eV seen size c = true:=by rw [hk]; first | exact g49 | (rw [hz]; exact decide_eq_true g49)
 replace le:=le.stO q6 rfl
 exact ⟨by first | rfl | (first | (rw [hr]; rfl) | (unfold cG; rw [hr,hz]; rfl)),⟨by omega,le,Blk.cast B0 (by first | rfl | (first | (rw [hr]; rfl) | (unfold cG; rw [hr,hz]; rfl)))⟩⟩
 have hk:eV seen size c = false:=by unfold eV; rw [if_neg g12,if_pos g16,g20]; rfl
 have hz:dE seen size c = size:=if_neg (by unfold gJ; rw [g20]; simp)
 refine aM ?_
 refine aI ?_
 refine hw_sr (aB y_move<|aB dG<|aD ?_)
 refine dS (fun g49=>?_) (fun g49=>?_)
 refine hw_sr (aB (y_load (RdF.cell1 gm.1 (i:=0) rfl rfl))<|aB aC<|aD ?_)
 refine hw_rr ?_
 refine aQ rfl (.cons aU .nil) ?_
 have hr:eV seen size c = false:=hk
 exact ⟨by first | rfl | (first | (rw [hr]; rfl) | (unfold cG; rw [hr,hz]; rfl)),⟨by omega,le,Blk.cast B0 (by first | rfl | (first | (rw [hr]; rfl) | (unfold cG; rw [hr,hz]; rfl)))⟩⟩
 refine aM ?_
 refine hw_sr (aB y_move<|aB y_nilCheck<|aB y_fieldAddr<|aB (y_load (Blk.at B0 rfl rfl))<|?_)
 refine aB bI<|aB y_nilCheck<|aB y_fieldAddr<|bO (aK aP B0) (fun v7 h7 q7=>?_)
 obtain ⟨rfl,q7⟩:=q7
 have z7:=q7.1
 replace B0:=q7.2.2
 refine aD ?_
 refine aF (L':=[]) aJ (fun r=>?_)
 refine hw_sr (aB aC<|aD ?_)
 refine hw_rr ?_
 refine aQ rfl (.cons aU .nil) ?_
 have hr:eV seen size c = true:=by rw [hk]; first | exact g49 | (rw [hz]; exact decide_eq_true g49)
 replace le:=le.stO q7 rfl
 exact ⟨by first | rfl | (first | (rw [hr]; rfl) | (unfold cG; rw [hr,hz]; rfl)),⟨by omega,le,Blk.cast B0 (by first | rfl | (first | (rw [hr]; rfl) | (unfold cG; rw [hr,hz]; rfl)))⟩⟩
 have g16':=g16
 simp at g16'
 first | (have hk:eV seen size c = fK c:=(if_neg g12).trans (if_neg (neF g16)); have hz:dE seen size c = size:=if_neg (by unfold gJ; rw [g16]; simp)) | skip
 refine aE (aB y_move<|dY aG oC<|aB aC<|aD ?_)
 refine aF (ah2 0 5) fun r=>?_
 refine aI ?_
 refine hw_sr (aB y_move<|aB dG<|aD ?_)
 refine dS (fun g49=>?_) (fun g49=>?_)
 refine hw_sr (aB (y_load (RdF.cell1 gm.1 (i:=0) rfl rfl))<|aB aC<|aD ?_)
 refine hw_rr ?_
 refine aQ rfl (.cons aU .nil) ?_
 have hr:eV seen size c = false:=by rw [hk]; first | exact g49 | (rw [hz]; exact decide_eq_false g49)
 exact ⟨by first | rfl | (first | (rw [hr]; rfl) | (unfold cG; rw [hr,hz]; rfl)),⟨by omega,le,Blk.cast B0 (by first | rfl | (first | (rw [hr]; rfl) | (unfold cG; rw [hr,hz]; rfl)))⟩⟩
 refine aM ?_
 refine hw_sr (aB y_move<|aB y_nilCheck<|aB y_fieldAddr<|aB (y_load (Blk.at B0 rfl rfl))<|?_)
 refine aB bI<|aB y_nilCheck<|aB y_fieldAddr<|bO (aK aP B0) (fun v8 h8 q8=>?_)
 obtain ⟨rfl,q8⟩:=q8
 have z8:=q8.1
 replace B0:=q8.2.2
 refine aD ?_
 refine aF (L':=[]) aJ (fun r=>?_)
 refine hw_sr (aB aC<|aD ?_)
 refine hw_rr ?_
 refine aQ rfl (.cons aU .nil) ?_
 have hr:eV seen size c = true:=by rw [hk]; first | exact g49 | (rw [hz]; exact decide_eq_true g49)
 replace le:=le.stO q8 rfl
 exact ⟨by first | rfl | (first | (rw [hr]; rfl) | (unfold cG; rw [hr,hz]; rfl)),⟨by omega,le,Blk.cast B0 (by first | rfl | (first | (rw [hr]; rfl) | (unfold cG; rw [hr,hz]; rfl)))⟩⟩
set_option maxHeartbeats 1000000 in
theorem aAZ {w0:World} {h:Heap} {O:Nat → Prop} {eb:Addr} {s:Str} (gm:Rs h O (.slice (some ⟨0,0,none⟩) 1 1) [eI eb]) (OB0:OB h O) (s0:SB s:=by first | assumption | omega | (simp; done) | (simp; omega)) (hl:s.length ≤ 900000:=by first | assumption | omega):HC (XM PP) w0 60 [vs s].toArray h (fun rv h'=>rv = .tuple #[vi ((cP 0 0 s).1),(aAr (cP 0 0 s).2 (eI eb))]∧Le h h'):=by
 replace le:=Le.refl h
 have OBe:=OB0
 refine aV 29 [(0,vs s)] Tryz.func60 (fun r=>?_)
 refine hw_sr (aB aC<|aB aC<|aD ?_)
 refine hw_sr (aB (y_build rfl rfl)<|bE cW (fun v1 h1 q1=>?_))
 obtain ⟨b1,O1,rfl,eb1,sb1,lb1,B1,hO1⟩:=q1.ox O
 refine aB aC<|aD ?_
 refine aI ?_
 refine hw_sr (aB aC<|aD ?_)
 replace le:=le.t lb1
 replace OB0:=OB0.newB sb1 hO1 eb1
 refine cT (fun (gx:Nat × Int × Int × (Nat → Prop))=>match gx with | (k,seen,size,OL2)=>[(0,vs s),(4,.pointer (some ⟨b1,0,none⟩)),(5,vi (k:Int))]) (fun (gx:Nat × Int × Int × (Nat → Prop)) (h' : Heap)=>match gx with | (k,seen,size,OL2)=>Le h h' ∧ Mod O1 h1 h' ∧ (∀ x,OL2 x → O1 x ∨ h1.size ≤ x)∧(∀ x,O1 x → OL2 x)∧OB h' OL2∧Blk h' b1 [vi seen,vi size] 126∧OL2 b1∧cP 0 0 s = (0,true)) (aX (cK (fun (gx:Nat × Int × Int × (Nat → Prop))=>match gx with | (k,seen,size,OL2)=>[(0,vs s),(4,.pointer (some ⟨b1,0,none⟩)),(5,vi (k:Int))]) (fun (gx:Nat × Int × Int × (Nat → Prop)) (h' : Heap)=>match gx with | (k,seen,size,OL2)=>Le h h' ∧ Mod O1 h1 h' ∧ (∀ x,OL2 x → O1 x ∨ h1.size ≤ x)∧(∀ x,O1 x → OL2 x)∧OB h' OL2∧Blk h' b1 [vi seen,vi size] 126∧OL2 b1∧k ≤ s.length∧seen = k∧0 ≤ size∧size ≤ 40∧cP 0 0 s = cP seen size (s.drop k)) (fun (gx:Nat × Int × Int × (Nat → Prop))=>match gx with | (k,seen,size,OL2)=>s.length - k) (0,0,0,O1) ag3 ⟨le,Mod.refl _,fun x hx=>.inl hx,fun x hx=>hx,OB0,B1,(ir hO1),by exact ⟨by omega,rfl,by omega,by omega,rfl⟩⟩ ?_)) ?_
 rintro ⟨k,seen,size,OL2⟩ r hl2 ⟨le,lp2,la2,lb2,lo2,B1,mB1,e1,e2,e3,e4,e5⟩
 have zl2:=lp2.1
 replace lr2:=lp2
 replace lx2:=la2
 refine aI ?_
 refine hw_sr (aB y_move<|aB y_move<|aB y_len_str<|aB dB<|aD ?_)
 refine aF (ah4 0 4 5 12) fun r=>?_
 refine aZ (fun g12=>?_) (fun g12=>?_)
 refine aM ?_
 refine aI ?_
 refine aX ?_
 refine aI ?_
 refine hw_sr (aB y_move<|aB y_move<|aB y_move<|?_)
 obtain ⟨x1,hx1⟩:∃ c,s[k]? = some c:=⟨_,List.getElem?_eq_getElem (by omega)⟩
 refine aB (bV hx1)<|?_
 replace OB0:=lo2
 replace gm:=(gm.nb lb1 hO1 eb1).lp lp2 la2
 refine bL aG (feed_c gm B1 mB1 OB0) (fun v3 h3 q3=>?_)
 obtain ⟨rfl,q3⟩:=q3
 have z3:=q3.1
 replace B1:=q3.2.2
 refine aB aC<|aD ?_
 refine aF (ah4 0 4 5 6) fun r=>?_
 refine hw_sr (aB y_move<|aB (vS (EV.of _ _ _))<|aD ?_)
 refine dS (fun g21=>?_) (fun g21=>?_)
 refine hw_sr (aB y_move<|aB aC<|aB aC<|aD ?_)
 refine hw_rr ?_
 refine aQ rfl (.cons aU (.cons aU .nil)) ?_
 have hr:cP 0 0 s = (0,false):=by rw [e5,lW hx1,if_neg (neF g21)]
 replace le:=le.s q3
 exact ⟨by first | rfl | (rw [hr,g21]; rfl),le⟩
 have hsz:=aAp e3 e4 (by omega) g21
 have hfs:cG seen size x1 = seen + 1:=if_pos g21
 refine aM ?_
 refine hw_sr (aB y_move<|dY aG (done_c B1)<|aD ?_)
 refine bF (fun g24=>?_) (fun g24=>?_)
 refine hw_sr (aB y_move<|aB y_nilCheck<|aB y_fieldAddr<|aB (y_load (Blk.at B1 rfl rfl))<|aB aC<|aB aC<|aD ?_)
 refine aF (ah5 0 2 3 4 5) fun r=>?_
 refine hw_rr ?_
 refine aQ rfl (.cons aU (.cons aU .nil)) ?_
 have hr:cP 0 0 s = (cG seen size x1,true):=by rw [e5,lW hx1,if_pos g21,if_pos g24]
 replace le:=le.s q3
 exact ⟨by first | rfl | (rw [hr] <;> rfl),le⟩
 refine aM ?_
 refine aE (aB y_move<|aB bI<|aB aC<|aD ?_)
 replace le:=le.s q3
 replace lr2:=lr2.stO q3 (ir hO1)
 replace OB0:=OB0.leO (Nat.le_of_eq q3.1.symm)
 exact ⟨(k + 1,cG seen size x1,dE seen size x1,OL2),ag3,⟨le,lr2,lx2,fun x hx=>(lb2 _ hx),OB0,B1,mB1,by exact ⟨by omega,by rw [hfs]; omega,hsz.1,hsz.2,by rw [e5,lW hx1,if_pos g21,if_neg (neF g24)]⟩⟩,by first | omega | (dsimp only; omega)⟩
 refine cI ?_
 replace OB0:=lo2
 exact ⟨(k,seen,size,OL2),ag3,⟨le,lr2,lx2,fun x hx=>(lb2 _ hx),OB0,B1,mB1,by rw [e5,List.drop_eq_nil_of_le (by omega)]; rfl⟩⟩
 rintro ⟨k,seen,size,OL2⟩ r hl2 ⟨le,lp2,la2,lb2,lo2,B1,mB1,e1⟩
 have zl2:=lp2.1
 refine hw_sr (aB aC<|aB aC<|aD ?_)
 refine hw_rr ?_
 refine aQ rfl (.cons aU (.cons aU .nil)) ?_
 have hr:=e1
 exact ⟨by first | rfl | (rw [hr] <;> rfl),le⟩
set_option maxHeartbeats 1000000 in
theorem tZ {w0:World} {h:Heap} {O:Nat → Prop} {eb:Addr} {s:Str} (gm:Rs h O (.slice (some ⟨0,0,none⟩) 1 1) [eI eb]) (OB0:OB h O) (s0:SB s:=by first | assumption | omega | (simp; done) | (simp; omega)) (hl:s.length ≤ 900000:=by first | assumption | omega):HC (XM PP) w0 36 [vs s].toArray h (fun rv h'=>rv = .tuple #[.agg #[vs (((cO s).1).sign),vs (((cO s).1).body)],vi ((cO s).2.1),vi ((cO s).2.2)]∧Le h h'):=by
 replace le:=Le.refl h
 have OBe:=OB0
 have hb:=sC s 0 0 (by omega)
 refine aV 26 [(0,vs s)] Tryz.func36 (fun r=>?_)
 refine hw_sr (bE aY (fun v1 h1 q1=>?_))
 obtain ⟨b1,O1,rfl,eb1,sb1,lb1,B1,hO1⟩:=q1.ox O
 refine aB aC<|aB aC<|aD ?_
 refine hw_sr (aB y_move<|?_)
 replace gm:=gm.nb lb1 hO1 eb1
 replace OB0:=OB0.newB sb1 hO1 eb1
 refine bL aG (aAZ gm OB0) (fun v2 h2 q2=>?_)
 obtain ⟨rfl,lc2⟩:=q2
 have z2:=lc2.1
 refine aB y_move<|aB aL<|aB aL<|aB aC<|aB aC<|aD ?_
 refine aF (ah4 0 2 5 6) fun r=>?_
 refine aI ?_
 refine hw_sr (aB y_move<|?_)
 replace gm:=gm.le lc2
 refine aB (y_load (RdF.cell1 gm.1 (i:=0) rfl rfl))<|?_
 refine dY aG aBd<|aD ?_
 refine aF (ah4 0 2 5 14) fun r=>?_
 refine bF (fun g14=>?_) (fun g14=>?_)
 have g14':=g14
 simp at g14'
 refine hw_sr (aB (y_build rfl rfl)<|?_)
 replace B1:=B1.le lc2
 refine bO (aK aP B1) (fun v3 h3 q3=>?_)
 obtain ⟨rfl,q3⟩:=q3
 have z3:=q3.1
 replace B1:=q3.2.2
 refine aB aC<|aB aC<|aD ?_
 refine hw_rr ?_
 refine aQ rfl (.cons (bT B1) (.cons aU (.cons aU .nil))) ?_
 have h14:(cP 0 0 s).2 = false:=by simpa using g14
 have hr:cO s = (⟨[],[]⟩,0,2):=if_neg (neF h14)
 replace le:=((le.t lb1).t lc2).s q3
 exact ⟨by first | rfl | (rw [hr] <;> rfl),le⟩
 have g14':=g14
 simp at g14'
 refine aM ?_
 refine aI ?_
 refine hw_sr (aB y_move<|aB bM<|aD ?_)
 refine aZ (fun g17=>?_) (fun g17=>?_)
 refine hw_sr (aB (y_build rfl rfl)<|?_)
 replace B1:=B1.le lc2
 refine bO (aK aP B1) (fun v4 h4 q4=>?_)
 obtain ⟨rfl,q4⟩:=q4
 have z4:=q4.1
 replace B1:=q4.2.2
 refine aB aC<|aB aC<|aD ?_
 refine hw_rr ?_
 refine aQ rfl (.cons (bT B1) (.cons aU (.cons aU .nil))) ?_
 have hr:cO s = (⟨[],[]⟩,0,1):=(if_pos (by simpa using g14)).trans (if_pos g17)
 replace le:=((le.t lb1).t lc2).s q4
 exact ⟨by first | rfl | (rw [hr] <;> rfl),le⟩
 refine aM ?_
 refine aI ?_
 obtain ⟨S5,hS5⟩:=mkO (fun b=>h2.size ≤ b)
 replace mR5:Mod S5 h2 h2:=Mod.refl _
 have hd5:∀ b,b < h2.size∧¬ O1 b → ¬ S5 b:=fun b hb hs=>(fun hs=>absurd hb.1 (Nat.not_lt.2 hs)) ((hS5 b).1 hs)
 refine bH 10 S5 bC (ha2_p 0 rfl (fun _=>y_move)<|ha2_y 1 rfl (fun _ _=>iY)<|ha2_p 2 rfl (fun _=>y_move)<|ha2_p 3 rfl (fun _=>y_move)<|ha2_y 4 rfl (fun _ _=>yK)<|?_)
 replace B1:=B1.le lc2
 refine bG 5 rfl (fun _=>(y_build rfl rfl))<|bG 6 rfl (fun _=>y_move)<|cV 7 rfl (aK aP B1) (fun v6 h6 q6=>?_)
 obtain ⟨rfl,q6⟩:=q6
 have z6:=q6.1
 replace B1:=q6.2.2
 refine bG 8 rfl (fun _=>aC)<|bG 9 rfl (fun _=>aC)<|bD ?_
 refine aF (ah3 2 3 4) fun r=>?_
 refine hw_rr ?_
 refine aQ rfl (.cons (bT B1) (.cons aU (.cons aU .nil))) ?_
 have hr:cO s = (⟨s.take 1,(s.take (cP 0 0 s).1.toNat).drop 3⟩,(cP 0 0 s).1,0):=(if_pos (by simpa using g14)).trans (if_neg g17)
 replace le:=((le.t lb1).t lc2).s q6
 exact ⟨by first | rfl | (rw [hr] <;> rfl),le⟩
end
section
open Go.Conc
theorem mY {s:Str} (h:(cO s).2.2 = 0):3 ≤ (cO s).2.1∧(cO s).2.1 ≤ (s.length:Int):=by
  have hb:=sC s 0 0 (by omega)
  unfold cO at h ⊢
  by_cases h1:(cP 0 0 s).2 = true
  · rw [if_pos h1] at h ⊢
    by_cases h2:(cP 0 0 s).1 = 0
    · rw [if_pos h2] at h; cases h
    · rw [if_neg h2]; dsimp only; omega
  · rw [if_neg h1] at h; cases h
theorem aAe (s:Str):(cO s).1.sign.length ≤ 1∧(cO s).1.body.length ≤ s.length:=by
  unfold cO
  split
  · split
    · simp
    · simp only [List.length_take,List.length_drop]; omega
  · simp
def iA (s:Str):List Letter × Str × Int :=
  if _:s = [] then ([],[],0)
  else if _:(cO s).2.2 = 0 then ((cO s).1 :: (iA (s.drop (cO s).2.1.toNat)).1,(iA (s.drop (cO s).2.1.toNat)).2)
  else ([],s,(cO s).2.2)
 termination_by s.length
 decreasing_by all_goals (have:=mY (by assumption:(cO s).2.2 = 0); rw [List.length_drop]; omega)
theorem xS:iA [] = ([],[],0):=by rw [iA,dif_pos rfl]
theorem sT {s:Str} (h1:¬ s = []) (h2:(cO s).2.2 = 0):iA s = ((cO s).1 :: (iA (s.drop (cO s).2.1.toNat)).1,(iA (s.drop (cO s).2.1.toNat)).2):=by
  rw [iA,dif_neg h1,dif_pos h2]
theorem xR {s:Str} (h1:¬ s = []) (h2:¬ (cO s).2.2 = 0):iA s = ([],s,(cO s).2.2):=by
  rw [iA,dif_neg h1,dif_neg h2]
def jT (s:Str):List Letter × Str × Int:=if (s.length:Int) > 400 then ([],[],2) else iA s
set_option maxHeartbeats 1000000 in
theorem wA {w0:World} {h:Heap} {O:Nat → Prop} {eb:Addr} {s:Str} (gm:Rs h O (.slice (some ⟨0,0,none⟩) 1 1) [eI eb]) (OB0:OB h O) (s0:SB s:=by first | assumption | omega | (simp; done) | (simp; omega)) (hl:s.length ≤ 900000:=by first | assumption | omega):HC (XM PP) w0 20 [vs s].toArray h (fun rv h'=>∃ (s1:Value),rv = .tuple #[s1,vs ((iA s).2.1),vi ((iA s).2.2)]∧Le h h' ∧ Ow h' h.size s1 ((iA s).1) 28):=by
 replace le:=Le.refl h
 have OBe:=OB0
 refine aV 30 [(0,vs s)] Tryz.func20 (fun r=>?_)
 refine hw_sr (aB aC<|aB aC<|aB aC<|aD ?_)
 refine aF (ah1 0) fun r=>?_
 refine hw_sr (aB aC<|aD ?_)
 have ow1:Ow h h.size (.slice none 0 0) ([]:List Letter) 28:=⟨Own.nil _ _ _,OkL.nil⟩
 have ow1v:∀ x,vblk (.slice none 0 0) x → False:=fun x hv=>by obtain ⟨_,_,_,e⟩:=hv; cases e
 refine dH (fun (gx:Str × (List Letter) × (Nat → Prop) × Value)=>match gx with | (z,m,OL2,ov)=>[(0,vs z),(5,ov)]) (fun (gx:Str × (List Letter) × (Nat → Prop) × Value) (h' : Heap)=>match gx with | (z,m,OL2,ov)=>Le h h' ∧ Mod O h h' ∧ (∀ x,OL2 x → O x ∨ h.size ≤ x)∧(∀ x,O x → OL2 x)∧OB h' OL2∧Ow h' h.size ov m 28∧(∀ x,vblk ov x → OL2 x)∧(m,([]:Str),(0:Int)) = iA s) (aX (cK (fun (gx:Str × (List Letter) × (Nat → Prop) × Value)=>match gx with | (z,m,OL2,ov)=>[(0,vs z),(5,ov)]) (fun (gx:Str × (List Letter) × (Nat → Prop) × Value) (h' : Heap)=>match gx with | (z,m,OL2,ov)=>Le h h' ∧ Mod O h h' ∧ (∀ x,OL2 x → O x ∨ h.size ≤ x)∧(∀ x,O x → OL2 x)∧OB h' OL2∧Ow h' h.size ov m 28∧(∀ x,vblk ov x → OL2 x)∧iA s = (m ++ (iA z).1,(iA z).2)∧m.length + z.length ≤ s.length) (fun (gx:Str × (List Letter) × (Nat → Prop) × Value)=>match gx with | (z,m,OL2,ov)=>z.length) (s,([]:List Letter),O,(.slice none 0 0)) ag2 ⟨le,Mod.refl _,fun x hx=>.inl hx,fun x hx=>hx,OB0,ow1.wk (by omega),(fun x hv=>(ow1v x hv).elim),by exact ⟨rfl,by simp⟩⟩ ?_)) ?_
 rintro ⟨z,m,OL2,ov⟩ r hl2 ⟨le,lp2,la2,lb2,lo2,ow1,mow1,e1,e2⟩
 obtain ⟨A3,n3,c3,rfl⟩:=ow1.frm
 have zl2:=lp2.1
 replace lr2:=lp2
 replace lx2:=la2
 refine aI ?_
 refine hw_sr (aB y_move<|aB jO<|aD ?_)
 refine fH (fun g10=>?_) (fun g10=>?_)
 refine aM ?_
 refine aX ?_
 refine hw_sr (aB y_move<|?_)
 replace OB0:=lo2
 replace gm:=gm.lp lp2 la2
 refine bL aG (tZ gm OB0) (fun v4 h4 q4=>?_)
 obtain ⟨rfl,lc4⟩:=q4
 have z4:=lc4.1
 refine aB y_move<|aB aL<|aB aL<|aB aL<|bE aY (fun v5 h5 q5=>?_)
 obtain ⟨b5,O5,rfl,eb5,sb5,lb5,B5,hO5⟩:=q5.ox OL2
 replace ow1:=ow1.le lc4
 replace sp_ow1_B5:¬ vblk (.slice A3 n3 c3) b5:=fun hv=>by have:=ow1.vb hv; omega
 replace lx2:=laB lx2 hO5 (by omega)
 refine bO (aK aP B5) (fun v6 h6 q6=>?_)
 obtain ⟨rfl,q6⟩:=q6
 have z6:=q6.1
 replace B5:=q6.2.2
 refine aB aC<|aB aC<|aD ?_
 refine aF (ah5 0 5 6 7 8) fun r=>?_
 refine aI ?_
 refine hw_sr (aB y_move<|aB fS<|aD ?_)
 refine fH (fun g18=>?_) (fun g18=>?_)
 refine hw_sr (aB y_move<|aB y_move<|aB y_move<|aB aC<|aB aC<|aB aC<|aD ?_)
 refine aF (ah5 0 2 3 4 5) fun r=>?_
 refine hw_rr ?_
 refine aQ rfl (.cons aU (.cons aU (.cons aU .nil))) ?_
 have hr:iA s = (m,z,(cO z).2.2):=by rw [e1,xR (by simpa using g10) (by simpa using g18)]; simp
 replace le:=((le.t lc4).t lb5).s q6
 replace ow1:=(ow1.le lb5).st q6 sp_ow1_B5
 exact ⟨_,by first | rfl | (rw [hr]; try rfl),le,(ow1.wk (by omega)).cast (by first | rfl | (rw [hr]; try rfl))⟩
 have hb:=mY (s:=z) (by simpa using g18)
 have hq:=aAe z
 have hdl:(List.drop (cO z).2.1.toNat z).length = z.length - (cO z).2.1.toNat:=List.length_drop
 have hs1:SB (cO z).1.sign:=by show List.length _ ≤ _; omega
 have hs2:SB (cO z).1.body:=by show List.length _ ≤ _; omega
 refine aM ?_
 refine hw_sr (aB y_move<|aB (y_loadB B5 0 _)<|?_)
 refine bE (bA (l:=([((cO z).1)]:List Letter))) (fun v7 h7 q7=>?_)
 obtain ⟨lb7,ow7,sb7⟩:=q7
 have z7:=lb7.1
 replace OB0:=((OB0.leO lc4.1).newB sb5 hO5 eb5).leO (Nat.le_of_eq q6.1.symm)
 replace k7:Rs _ O5 _ _:=Ow.end ⟨ow7,ok1⟩ OB0
 obtain ⟨A8,n8,c8,rfl⟩:=k7.frm
 replace ow1:=((ow1.le lb5).st q6 sp_ow1_B5).le lb7
 refine bE (bW aP ow1.1 k7.1 (by omega) (Nat.add_le_add ow1.2.len k7.2.len)) (fun v9 h9 q9=>?_)
 have L1:=ow1.2.len
 have L2:=k7.2.len
 obtain ⟨O9,hO9,z9,ow9⟩:=q9.ow (OkL.app ow1.2 k7.2 (by first | omega | (simp only [List.length_append,List.length_take,List.length_drop,List.length_cons,List.length_nil,List.length_set]; omega) | (simp; omega))) O5
 replace sp_ow1_B5q:=fun hv=>(q9.2.2 _ hv).elim sp_ow1_B5 (fun e=>by omega)
 replace B5:=(B5.le lb7).app q9 sp_ow1_B5
 replace sp_ow1_B5:=sp_ow1_B5q
 replace lr2:=((((lr2.tl lc4).tl lb5).s q6).tl lb7).apO q9 (fun x hv=>lx2 x ((fun x hv=>(hO5 x).2 (.inl (mow1 x hv))) x hv))
 replace lx2:=laA lx2 hO9 q9 (fun x hv=>(hO5 x).2 (.inl (mow1 x hv))) (by omega)
 replace le:=((((le.t lc4).t lb5).s q6).t lb7).ap ow1 q9 (by omega)
 have ow1:=ow9
 obtain ⟨A10,n10,c10,rfl⟩:=ow1.frm
 refine aB aC<|aD ?_
 refine aF (ah3 0 5 7) fun r=>?_
 refine aE (aB y_move<|aB y_move<|aB hQ<|aB aC<|aD ?_)
 replace OB0:=(OB0.leO lb7.1).app q9 hO9
 exact ⟨((z.drop (((cO z).2.1).toNat)),(m ++ ([((cO z).1)]:List Letter)),O9,(.slice A10 n10 c10)),ag2,⟨le,lr2,lx2,fun x hx=>(il hO9 (il hO5 (lb2 _ hx))),OB0,ow1.wk (by omega),(fun x hv=>(hO9 x).2 (.inr hv)),by exact ⟨by rw [e1,sT (by simpa using g10) (by simpa using g18)]; simp,by simp; omega⟩⟩,by first | omega | (dsimp only; omega)⟩
 refine cI ?_
 replace OB0:=lo2
 exact ⟨(z,m,OL2,(.slice A3 n3 c3)),ag2,⟨le,lr2,lx2,fun x hx=>(lb2 _ hx),OB0,ow1.wk (by omega),mow1,by rw [e1,show z = [] by simpa using g10,xS]; simp⟩⟩
 rintro ⟨z,m,OL2,ov⟩ r hl2 ⟨le,lp2,la2,lb2,lo2,ow1,mow1,e1⟩
 obtain ⟨A11,n11,c11,rfl⟩:=ow1.frm
 have zl2:=lp2.1
 refine hw_sr (aB y_move<|aB aC<|aB aC<|aB aC<|aD ?_)
 refine hw_rr ?_
 refine aQ rfl (.cons aU (.cons aU (.cons aU .nil))) ?_
 have hr:=e1.symm
 exact ⟨_,by first | rfl | (rw [hr]; try rfl),le,(ow1.wk (by omega)).cast (by first | rfl | (rw [hr]; try rfl))⟩
set_option maxHeartbeats 1000000 in
theorem vJ {w0:World} {h:Heap} {O:Nat → Prop} {eb:Addr} {s:Str} (gm:Rs h O (.slice (some ⟨0,0,none⟩) 1 1) [eI eb]) (OB0:OB h O) (s0:SB s:=by first | assumption | omega | (simp; done) | (simp; omega)) (hl:s.length ≤ 900000:=by first | assumption | omega):HC (XM PP) w0 13 [vs s].toArray h (fun rv h'=>∃ (s1:Value),rv = .tuple #[s1,vs ((jT s).2.1),vi ((jT s).2.2)]∧Le h h' ∧ Rs h' O s1 ((jT s).1)):=by
 replace le:=Le.refl h
 have OBe:=OB0
 refine aV 13 [(0,vs s)] Tryz.func13 (fun r=>?_)
 refine hw_sr (aB aC<|aB aC<|aB aC<|aD ?_)
 refine aF (ah1 0) fun r=>?_
 refine aI ?_
 refine hw_sr (aB y_move<|aB y_len_str<|aB cU<|aD ?_)
 refine aZ (fun g7=>?_) (fun g7=>?_)
 refine hw_sr (aB aC<|aB aC<|aB aC<|aD ?_)
 refine hw_rr ?_
 refine aQ rfl (.cons aU (.cons aU (.cons aU .nil))) ?_
 have hr:jT s = _:=if_pos g7
 exact ⟨_,by first | rfl | (rw [hr]; try rfl),le,Rs.nil.cast (by first | rfl | (rw [hr]; try rfl))⟩
 refine aM ?_
 refine hw_sr (aB y_move<|bL aG (wA gm OB0) (fun v1 h1 q1=>?_))
 obtain ⟨s1_1,rfl,lc1,k1_1⟩:=q1
 have z1:=lc1.1
 replace k1_1:=k1_1.end OB0
 obtain ⟨A2,n2,c2,rfl⟩:=k1_1.frm
 refine aB aL<|aB aL<|aB aL<|aB aC<|aB aC<|aB aC<|aD ?_
 refine aF (ah3 2 3 4) fun r=>?_
 refine hw_rr ?_
 refine aQ rfl (.cons aU (.cons aU (.cons aU .nil))) ?_
 have hr:jT s = _:=if_neg g7
 replace le:=le.t lc1
 exact ⟨_,by first | rfl | (rw [hr]; try rfl),le,(k1_1).cast (by first | rfl | (rw [hr]; try rfl))⟩
end
section
open Go.Conc
def lS:Str:=[48,48,48,49,48,50,48,51,48,52,48,53,48,54,48,55,48,56,48,57,49,48,49,49,49,50,49,51,49,52,49,53,49,54,49,55,49,56,49,57,50,48,50,49,50,50,50,51,50,52,50,53,50,54,50,55,50,56,50,57,51,48,51,49,51,50,51,51,51,52,51,53,51,54,51,55,51,56,51,57,52,48,52,49,52,50,52,51,52,52,52,53,52,54,52,55,52,56,52,57,53,48,53,49,53,50,53,51,53,52,53,53,53,54,53,55,53,56,53,57,54,48,54,49,54,50,54,51,54,52,54,53,54,54,54,55,54,56,54,57,55,48,55,49,55,50,55,51,55,52,55,53,55,54,55,55,55,56,55,57,56,48,56,49,56,50,56,51,56,52,56,53,56,54,56,55,56,56,56,57,57,48,57,49,57,50,57,51,57,52,57,53,57,54,57,55,57,56,57,57]
def aBC:Str:=[0,1,2,2,3,3,3,3,4,4,4,4,4,4,4,4,5,5,5,5,5,5,5,5,5,5,5,5,5,5,5,5,6,6,6,6,6,6,6,6,6,6,6,6,6,6,6,6,6,6,6,6,6,6,6,6,6,6,6,6,6,6,6,6,7,7,7,7,7,7,7,7,7,7,7,7,7,7,7,7,7,7,7,7,7,7,7,7,7,7,7,7,7,7,7,7,7,7,7,7,7,7,7,7,7,7,7,7,7,7,7,7,7,7,7,7,7,7,7,7,7,7,7,7,7,7,7,7,8,8,8,8,8,8,8,8,8,8,8,8,8,8,8,8,8,8,8,8,8,8,8,8,8,8,8,8,8,8,8,8,8,8,8,8,8,8,8,8,8,8,8,8,8,8,8,8,8,8,8,8,8,8,8,8,8,8,8,8,8,8,8,8,8,8,8,8,8,8,8,8,8,8,8,8,8,8,8,8,8,8,8,8,8,8,8,8,8,8,8,8,8,8,8,8,8,8,8,8,8,8,8,8,8,8,8,8,8,8,8,8,8,8,8,8,8,8,8,8,8,8,8,8,8,8,8,8]
def bl (x:Int):Int:=if x < 1 then 0 else if x < 2 then 1 else if x < 4 then 2 else if x < 8 then 3 else if x < 16 then 4 else if x < 32 then 5 else if x < 64 then 6 else if x < 128 then 7 else 8
def blc (x:Int):UInt8:=UInt8.ofNat (bl x).toNat
theorem bl_bd (x : Int) : 0 ≤ bl x ∧ bl x ≤ 8 := by unfold bl; repeat' split
                                                    all_goals omega
theorem blc_nat (x:Int):((blc x).toNat:Int) = bl x:=by
  have:=bl_bd x
  have h2:(bl x).toNat < 256:=by omega
  simp only [blc,UInt8.toNat_ofNat']
  omega
theorem aCU:(List.range 256).all (fun k=>aBC[k]? == some (blc (k:Int))) = true:=by kernel_rfl
theorem oG {z:Int} (h0:0 ≤ z) (h1:z < 256):aBC[z.toNat]? = some (blc z):=by
  have:=(List.all_eq_true.1 aCU) z.toNat (List.mem_range.2 (by omega))
  have hz:((z.toNat:Nat):Int) = z:=by omega
  rw [hz] at this
  exact eq_of_beq this
theorem wD:(List.range 100).all (fun b=>lS[2 * b]? == some (cF ((b / 10:Nat):Int)) && lS[2 * b + 1]? == some (cF ((b % 10:Nat):Int))) = true:=by decide
theorem sm0 (b:Int) {i:Int} (h:i = b * 2) (h0:0 ≤ b) (h1:b < 100):lS[i.toNat]? = some (cF (b / 10)):=by
  have:=(List.all_eq_true.1 wD) b.toNat (List.mem_range.2 (by omega))
  simp only [Bool.and_eq_true,beq_iff_eq] at this
  rw [show i.toNat = 2 * b.toNat by omega,this.1]
  congr 2; omega
theorem sm1 (b:Int) {i:Int} (h:i = b * 2 + 1) (h0:0 ≤ b) (h1:b < 100):lS[i.toNat]? = some (cF (b % 10)):=by
  have:=(List.all_eq_true.1 wD) b.toNat (List.mem_range.2 (by omega))
  simp only [Bool.and_eq_true,beq_iff_eq] at this
  rw [show i.toNat = 2 * b.toNat + 1 by omega,this.2]
  congr 2; omega
theorem rU {a:Int} (c:UInt8) (h0:0 ≤ a) (h1:a ≤ 1000):IntKind.i64.wrap (a + (c.toNat:Int)) = a + (c.toNat:Int):=by
  have:=c.toNat_lt
  exact jB (by omega) (by omega)
theorem sh32 (a:Int):a.fdiv (2 ^ min (32:Int).toNat IntKind.u64.bits) = a / 4294967296:=Int.fdiv_eq_ediv_of_nonneg a (by decide)
theorem sh16 (a:Int):a.fdiv (2 ^ min (16:Int).toNat IntKind.u64.bits) = a / 65536:=Int.fdiv_eq_ediv_of_nonneg a (by decide)
theorem sh8 (a:Int):a.fdiv (2 ^ min (8:Int).toNat IntKind.u64.bits) = a / 256:=Int.fdiv_eq_ediv_of_nonneg a (by decide)
theorem sh18 (a:Int):a.fdiv (2 ^ min (18:Int).toNat IntKind.i64.bits) = a / 262144:=Int.fdiv_eq_ediv_of_nonneg a (by decide)
def len64 (x:Int):Int:=if 4294967296 ≤ x then (if 65536 ≤ (x / 4294967296) then (if 256 ≤ ((x / 4294967296) / 65536) then (((32 + 16) + 8) + ((blc (((x / 4294967296) / 65536) / 256)).toNat:Int)) else ((32 + 16) + ((blc ((x / 4294967296) / 65536)).toNat:Int))) else (if 256 ≤ (x / 4294967296) then ((32 + 8) + ((blc ((x / 4294967296) / 256)).toNat:Int)) else (32 + ((blc (x / 4294967296)).toNat:Int)))) else (if 65536 ≤ x then (if 256 ≤ (x / 65536) then (((0 + 16) + 8) + ((blc ((x / 65536) / 256)).toNat:Int)) else ((0 + 16) + ((blc (x / 65536)).toNat:Int))) else (if 256 ≤ x then ((0 + 8) + ((blc (x / 256)).toNat:Int)) else (0 + ((blc x).toNat:Int))))
theorem bl_spec {z:Int} (h0:0 ≤ z) (h1:z < 256):∃ k:Nat,bl z = k∧k ≤ 8∧z < (2:Int) ^ k∧(k = 0 ∨ (2:Int) ^ (k - 1) ≤ z):=by
  unfold bl
  split
  · exact ⟨0,rfl,by omega,by simpa using (by assumption:z < 1),.inl rfl⟩
  split
  · exact ⟨1,rfl,by omega,by simpa using (by assumption:z < 2),.inr (by simp; omega)⟩
  split
  · exact ⟨2,rfl,by omega,by simpa using (by assumption:z < 4),.inr (by simp; omega)⟩
  split
  · exact ⟨3,rfl,by omega,by simpa using (by assumption:z < 8),.inr (by simp; omega)⟩
  split
  · exact ⟨4,rfl,by omega,by simpa using (by assumption:z < 16),.inr (by simp; omega)⟩
  split
  · exact ⟨5,rfl,by omega,by simpa using (by assumption:z < 32),.inr (by simp; omega)⟩
  split
  · exact ⟨6,rfl,by omega,by simpa using (by assumption:z < 64),.inr (by simp; omega)⟩
  split
  · exact ⟨7,rfl,by omega,by simpa using (by assumption:z < 128),.inr (by simp; omega)⟩
  · exact ⟨8,rfl,by omega,by simpa using h1,.inr (by simp; omega)⟩
theorem kC (s:Nat) {x z v:Int} (hz:z = x / (2:Int) ^ s) (hv:v = s + bl z) (h1:0 ≤ z) (hb:z < 256) (hs:s = 0 ∨ 1 ≤ z):∃ k:Nat,v = k∧k ≤ s + 8∧x < (2:Int) ^ k∧(k = 0 ∨ (2:Int) ^ (k - 1) ≤ x):=by
  obtain ⟨k,e1,e2,e3,e4⟩:=bl_spec h1 hb
  have hp:(0:Int) < 2 ^ s:=Int.pow_pos (by decide)
  refine ⟨k + s,by omega,by omega,?_,?_⟩
  · rw [Int.pow_add]
    rw [hz] at e3
    exact (Int.ediv_lt_iff_lt_mul hp).1 e3
  · rcases e4 with rfl | e4
    · rcases hs with rfl | hs
      · exact .inl rfl
      · simp at e3; omega
    · by_cases hk:k = 0
      · subst hk
        rcases hs with rfl | hs
        · exact .inl rfl
        · simp at e3; omega
      · refine .inr ?_
        rw [show k + s - 1 = (k - 1) + s by omega,Int.pow_add]
        rw [hz] at e4
        exact (Int.le_ediv_iff_mul_le hp).1 e4
theorem pW {x:Int} (h0:0 ≤ x) (h1:x ≤ 18446744073709551615):∃ k:Nat,len64 x = k∧k ≤ 64∧x < (2:Int) ^ k∧(k = 0 ∨ (2:Int) ^ (k - 1) ≤ x):=by
  unfold len64
  simp only [blc_nat]
  split
  · split
    · split
      · obtain ⟨k,e⟩:=kC (x:=x) (z:=(x / 4294967296 / 65536 / 256)) (v:=32 + 16 + 8 + bl (x / 4294967296 / 65536 / 256)) 56 (by show _ = x / 72057594037927936; omega) (by omega) (by omega) (by omega) (by omega)
        exact ⟨k,e⟩
      · obtain ⟨k,e⟩:=kC (x:=x) (z:=(x / 4294967296 / 65536)) (v:=32 + 16 + bl (x / 4294967296 / 65536)) 48 (by show _ = x / 281474976710656; omega) (by omega) (by omega) (by omega) (by omega)
        exact ⟨k,e.1,by omega,e.2.2⟩
    · split
      · obtain ⟨k,e⟩:=kC (x:=x) (z:=(x / 4294967296 / 256)) (v:=32 + 8 + bl (x / 4294967296 / 256)) 40 (by show _ = x / 1099511627776; omega) (by omega) (by omega) (by omega) (by omega)
        exact ⟨k,e.1,by omega,e.2.2⟩
      · obtain ⟨k,e⟩:=kC (x:=x) (z:=(x / 4294967296)) (v:=32 + bl (x / 4294967296)) 32 (by show _ = x / 4294967296; omega) (by omega) (by omega) (by omega) (by omega)
        exact ⟨k,e.1,by omega,e.2.2⟩
  · split
    · split
      · obtain ⟨k,e⟩:=kC (x:=x) (z:=(x / 65536 / 256)) (v:=0 + 16 + 8 + bl (x / 65536 / 256)) 24 (by show _ = x / 16777216; omega) (by omega) (by omega) (by omega) (by omega)
        exact ⟨k,e.1,by omega,e.2.2⟩
      · obtain ⟨k,e⟩:=kC (x:=x) (z:=(x / 65536)) (v:=0 + 16 + bl (x / 65536)) 16 (by show _ = x / 65536; omega) (by omega) (by omega) (by omega) (by omega)
        exact ⟨k,e.1,by omega,e.2.2⟩
    · split
      · obtain ⟨k,e⟩:=kC (x:=x) (z:=(x / 256)) (v:=0 + 8 + bl (x / 256)) 8 (by show _ = x / 256; omega) (by omega) (by omega) (by omega) (by omega)
        exact ⟨k,e.1,by omega,e.2.2⟩
      · obtain ⟨k,e⟩:=kC (x:=x) (z:=x) (v:=0 + bl x) 0 (by show _ = x / 1; omega) (by omega) (by omega) (by omega) (by omega)
        exact ⟨k,e.1,by omega,e.2.2⟩
def lg (n:Int):Int:=(n * 78913) / 262144
def pow10s:List N64:=[⟨1⟩,⟨10⟩,⟨100⟩,⟨1000⟩,⟨10000⟩,⟨100000⟩,⟨1000000⟩,⟨10000000⟩,⟨100000000⟩,⟨1000000000⟩,⟨10000000000⟩,⟨100000000000⟩,⟨1000000000000⟩,⟨10000000000000⟩,⟨100000000000000⟩,⟨1000000000000000⟩,⟨10000000000000000⟩,⟨100000000000000000⟩,⟨1000000000000000000⟩,⟨10000000000000000000⟩]
theorem aB6 {k:Nat} {x:N64} (h:pow10s[k]? = some x):x.n = (10:Int) ^ k:=by
  have hk:k < 20:=(List.getElem?_eq_some_iff.1 h).1
  have hd:(List.range 20).all (fun k=>(pow10s[k]?.map N64.n) == some ((10:Int) ^ k)) = true:=by decide
  have:=(List.all_eq_true.1 hd) k (List.mem_range.2 hk)
  rw [h] at this
  simpa using this
def nd (u:Int):Int:=lg (len64 u) + (if decide ((10:Int) ^ (lg (len64 u)).toNat ≤ u) then 1 else 0)
theorem lg_dec:(List.range 65).all (fun k=>k == 0 || ((k * 78913 / 262144 == 0 || decide (10 ^ (k * 78913 / 262144 - 1) ≤ 2 ^ (k - 1))) && decide (2 ^ k ≤ 10 ^ (k * 78913 / 262144 + 1)) && decide (k * 78913 / 262144 < 20))) = true:=by decide
theorem lg_bd {u:Int} (h0:0 ≤ u) (h1:u ≤ 18446744073709551615):0 ≤ lg (len64 u)∧lg (len64 u) < 20:=by
  obtain ⟨k,e1,e2,-⟩:=pW h0 h1
  unfold lg; rw [e1]; omega
theorem iM (a k:Nat):(((a ^ k:Nat)):Int) = (a:Int) ^ k:=by simp
theorem aBB {u:Int} (h0:1 ≤ u) (h1:u ≤ 18446744073709551615):∃ d:Nat,nd u = d∧1 ≤ d∧d ≤ 20∧(10:Int) ^ (d - 1) ≤ u∧u < (10:Int) ^ d:=by
  obtain ⟨k,e1,e2,e3,e4⟩:=pW (by omega:0 ≤ u) h1
  have hk:k ≠ 0:=by rintro rfl; simp at e3; omega
  have hd:=(List.all_eq_true.1 lg_dec) k (List.mem_range.2 (by omega))
  simp only [Bool.or_eq_true,Bool.and_eq_true,beq_iff_eq,decide_eq_true_eq,hk,false_or] at hd
  obtain ⟨⟨q1,q2⟩,q3⟩:=hd
  have e4' : (2:Int) ^ (k - 1) ≤ u:=e4.resolve_left hk
  have hL:lg (len64 u) = ((k * 78913 / 262144:Nat):Int):=by unfold lg; rw [e1]; omega
  generalize hLL:k * 78913 / 262144 = L at *
  have q2' : ((2:Int)) ^ k ≤ (10:Int) ^ (L + 1):=by
    have:=Int.ofNat_le.2 q2
    rw [iM,iM] at this; exact this
  unfold nd
  rw [hL]
  have ht:((L:Int)).toNat = L:=by omega
  rw [ht]
  by_cases hc:(10:Int) ^ L ≤ u
  · refine ⟨L + 1,by rw [if_pos (decide_eq_true hc)]; rfl,by omega,by omega,hc,by omega⟩
  · have hL0:L ≠ 0:=by rintro rfl; simp at hc; omega
    have q1' : (10:Int) ^ (L - 1) ≤ (2:Int) ^ (k - 1):=by
      have:=Int.ofNat_le.2 (q1.resolve_left hL0)
      rw [iM,iM] at this; exact this
    refine ⟨L,by rw [if_neg (by simpa using hc)]; omega,by omega,by omega,by omega,by omega⟩
set_option maxHeartbeats 1000000 in
theorem Len64_c {w0:World} {h:Heap} {x:Int}   (h0:0 ≤ x:=by omega) (h1:x ≤ 18446744073709551615:=by omega):HC (XM PP) w0 159 [.int .u64 x].toArray h (fun rv h'=>rv = vi (len64 x)∧h' = h):=by
 refine aV 25 [(0,.int .u64 x)] Tryz.func159 (fun r=>?_)
 refine hw_sr (aB aC<|aD ?_)
 refine aI ?_
 refine hw_sr (aB y_move<|aB y_geq<|aD ?_)
 refine aZ (fun g4=>?_) (fun g4=>?_)
 refine hw_sr (aB y_move<|aB (rP (sh32 _))<|aB aC<|aD ?_)
 refine aE (aB aC<|aD ?_)
 refine aI ?_
 refine hw_sr (aB y_move<|aB y_geq<|aD ?_)
 refine aZ (fun g8=>?_) (fun g8=>?_)
 refine hw_sr (aB y_move<|aB (rP (sh16 _))<|aB aC<|aD ?_)
 refine aE (aB y_move<|aB bI<|aB aC<|aD ?_)
 refine aI ?_
 refine hw_sr (aB y_move<|aB y_geq<|aD ?_)
 refine aZ (fun g14=>?_) (fun g14=>?_)
 refine hw_sr (aB y_move<|aB (rP (sh8 _))<|aB aC<|aD ?_)
 refine aE (aB y_move<|aB bI<|aB aC<|aD ?_)
 refine hw_sr (aB y_move<|aB y_move<|aB (eW (hw:=eX (by omega) (by omega)))<|aB (cL (oG (z:=(((x / 4294967296) / 65536) / 256)) (by omega) (by omega)) (hx:=by kernel_rfl))<|aB fT<|aB (bI (hw:=rU _ (by omega) (by omega)))<|aB aC<|aD ?_)
 refine aF (ah1 2) fun r=>?_
 refine hw_rr ?_
 refine aQ rfl (.cons aU .nil) ?_
 have hr:len64 x = _:=(if_pos g4).trans ((if_pos g8).trans (if_pos g14))
 exact ⟨by first | rfl | (rw [hr] <;> rfl),rfl⟩
 refine aM ?_
 refine hw_sr (aB y_move<|aB y_move<|aB (eW (hw:=eX (by omega) (by omega)))<|aB (cL (oG (z:=((x / 4294967296) / 65536)) (by omega) (by omega)) (hx:=by kernel_rfl))<|aB fT<|aB (bI (hw:=rU _ (by omega) (by omega)))<|aB aC<|aD ?_)
 refine aF (ah1 2) fun r=>?_
 refine hw_rr ?_
 refine aQ rfl (.cons aU .nil) ?_
 have hr:len64 x = _:=(if_pos g4).trans ((if_pos g8).trans (if_neg g14))
 exact ⟨by first | rfl | (rw [hr] <;> rfl),rfl⟩
 refine aM ?_
 refine aI ?_
 refine hw_sr (aB y_move<|aB y_geq<|aD ?_)
 refine aZ (fun g14=>?_) (fun g14=>?_)
 refine hw_sr (aB y_move<|aB (rP (sh8 _))<|aB aC<|aD ?_)
 refine aE (aB y_move<|aB bI<|aB aC<|aD ?_)
 refine hw_sr (aB y_move<|aB y_move<|aB (eW (hw:=eX (by omega) (by omega)))<|aB (cL (oG (z:=((x / 4294967296) / 256)) (by omega) (by omega)) (hx:=by kernel_rfl))<|aB fT<|aB (bI (hw:=rU _ (by omega) (by omega)))<|aB aC<|aD ?_)
 refine aF (ah1 2) fun r=>?_
 refine hw_rr ?_
 refine aQ rfl (.cons aU .nil) ?_
 have hr:len64 x = _:=(if_pos g4).trans ((if_neg g8).trans (if_pos g14))
 exact ⟨by first | rfl | (rw [hr] <;> rfl),rfl⟩
 refine aM ?_
 refine hw_sr (aB y_move<|aB y_move<|aB (eW (hw:=eX (by omega) (by omega)))<|aB (cL (oG (z:=(x / 4294967296)) (by omega) (by omega)) (hx:=by kernel_rfl))<|aB fT<|aB (bI (hw:=rU _ (by omega) (by omega)))<|aB aC<|aD ?_)
 refine aF (ah1 2) fun r=>?_
 refine hw_rr ?_
 refine aQ rfl (.cons aU .nil) ?_
 have hr:len64 x = _:=(if_pos g4).trans ((if_neg g8).trans (if_neg g14))
 exact ⟨by first | rfl | (rw [hr] <;> rfl),rfl⟩
 refine aM ?_
 refine aI ?_
 refine hw_sr (aB y_move<|aB y_geq<|aD ?_)
 refine aZ (fun g8=>?_) (fun g8=>?_)
 refine hw_sr (aB y_move<|aB (rP (sh16 _))<|aB aC<|aD ?_)
 refine aE (aB y_move<|aB bI<|aB aC<|aD ?_)
 refine aI ?_
 refine hw_sr (aB y_move<|aB y_geq<|aD ?_)
 refine aZ (fun g14=>?_) (fun g14=>?_)
 refine hw_sr (aB y_move<|aB (rP (sh8 _))<|aB aC<|aD ?_)
 refine aE (aB y_move<|aB bI<|aB aC<|aD ?_)
 refine hw_sr (aB y_move<|aB y_move<|aB (eW (hw:=eX (by omega) (by omega)))<|aB (cL (oG (z:=((x / 65536) / 256)) (by omega) (by omega)) (hx:=by kernel_rfl))<|aB fT<|aB (bI (hw:=rU _ (by omega) (by omega)))<|aB aC<|aD ?_)
 refine aF (ah1 2) fun r=>?_
 refine hw_rr ?_
 refine aQ rfl (.cons aU .nil) ?_
 have hr:len64 x = _:=(if_neg g4).trans ((if_pos g8).trans (if_pos g14))
 exact ⟨by first | rfl | (rw [hr] <;> rfl),rfl⟩
 refine aM ?_
 refine hw_sr (aB y_move<|aB y_move<|aB (eW (hw:=eX (by omega) (by omega)))<|aB (cL (oG (z:=(x / 65536)) (by omega) (by omega)) (hx:=by kernel_rfl))<|aB fT<|aB (bI (hw:=rU _ (by omega) (by omega)))<|aB aC<|aD ?_)
 refine aF (ah1 2) fun r=>?_
 refine hw_rr ?_
 refine aQ rfl (.cons aU .nil) ?_
 have hr:len64 x = _:=(if_neg g4).trans ((if_pos g8).trans (if_neg g14))
 exact ⟨by first | rfl | (rw [hr] <;> rfl),rfl⟩
 refine aM ?_
 refine aI ?_
 refine hw_sr (aB y_move<|aB y_geq<|aD ?_)
 refine aZ (fun g14=>?_) (fun g14=>?_)
 refine hw_sr (aB y_move<|aB (rP (sh8 _))<|aB aC<|aD ?_)
 refine aE (aB y_move<|aB bI<|aB aC<|aD ?_)
 refine hw_sr (aB y_move<|aB y_move<|aB (eW (hw:=eX (by omega) (by omega)))<|aB (cL (oG (z:=(x / 256)) (by omega) (by omega)) (hx:=by kernel_rfl))<|aB fT<|aB (bI (hw:=rU _ (by omega) (by omega)))<|aB aC<|aD ?_)
 refine aF (ah1 2) fun r=>?_
 refine hw_rr ?_
 refine aQ rfl (.cons aU .nil) ?_
 have hr:len64 x = _:=(if_neg g4).trans ((if_neg g8).trans (if_pos g14))
 exact ⟨by first | rfl | (rw [hr] <;> rfl),rfl⟩
 refine aM ?_
 refine hw_sr (aB y_move<|aB y_move<|aB (eW (hw:=eX (by omega) (by omega)))<|aB (cL (oG (z:=x) (by omega) (by omega)) (hx:=by kernel_rfl))<|aB fT<|aB (bI (hw:=rU _ (by omega) (by omega)))<|aB aC<|aD ?_)
 refine aF (ah1 2) fun r=>?_
 refine hw_rr ?_
 refine aQ rfl (.cons aU .nil) ?_
 have hr:len64 x = _:=(if_neg g4).trans ((if_neg g8).trans (if_neg g14))
 exact ⟨by first | rfl | (rw [hr] <;> rfl),rfl⟩
set_option maxHeartbeats 1000000 in
theorem zM {w0:World} {h:Heap} {n:Int}   (h0:0 ≤ n∧n ≤ 64:=by omega):HC (XM PP) w0 158 [vi n].toArray h (fun rv h'=>rv = vi (lg n)∧h' = h):=by
 refine aV 6 [(0,vi n)] Tryz.func158 (fun r=>?_)
 refine aI ?_
 refine aE (aB aC<|aD ?_)
 refine aI ?_
 refine aE (aB y_move<|aB hG<|aB (rP (sh18 _))<|aB aC<|aD ?_)
 refine aF (L':=[(2,_)]) (aA aJ) (fun r=>?_)
 refine uA ?_
 repeat (first | refine gA ?_ | refine fJ ?_)
 refine aQ rfl (.cons aU .nil) ?_
 exact ⟨by first | rfl | (rfl),rfl⟩
set_option maxHeartbeats 1000000 in
theorem bool2_c {w0:World} {h:Heap} {b:Bool}   : HC (XM PP) w0 160 [vb b].toArray h (fun rv h'=>rv = vi (if b then 1 else 0)∧h' = h):=by
 refine aV 4 [(0,vb b)] Tryz.func160 (fun r=>?_)
 refine hw_sr (aB aC<|aD ?_)
 refine aI ?_
 refine hw_sr (aB y_move<|aD ?_)
 refine bF (fun g3=>?_) (fun g3=>?_)
 refine hw_sr (aB aC<|aD ?_)
 refine hw_rr ?_
 refine aQ rfl (.cons aU .nil) ?_
 exact ⟨by first | rfl | (rw [g3]; rfl),rfl⟩
 refine aM ?_
 refine hw_sr (aB aC<|aD ?_)
 refine hw_rr ?_
 refine aQ rfl (.cons aU .nil) ?_
 exact ⟨by first | rfl | (rw [g3]; rfl),rfl⟩
end
section
open Go.Conc
def pad:Int → Nat → List UInt8
  | _,0=>[]
  | u,k + 1=>pad (u / 10) k ++ [cF (u % 10)]
theorem cQ (k:Nat):∀ u,(pad u k).length = k:=by
  induction k with
  | zero=>intro u; rfl
  | succ k ih=>intro u; rw [pad,List.length_append,ih]; rfl
def StN (L:List UInt8) (lo n:Nat) (u:Int) (k:Nat) (z:Int) (M:List UInt8):Prop :=
  k ≤ n∧0 ≤ z∧z < (10:Int) ^ k∧(pad u n).take k = pad z k∧M = L.take (lo + k) ++ ((pad u n).drop k ++ L.drop (lo + n))
def St (L:List UInt8) (lo n:Nat) (u i z:Int) (M:List UInt8):Prop:=∃ k:Nat,i = k∧StN L lo n u k z M
section
variable {L M:List UInt8} {lo n:Nat} {u z:Int}
theorem aDw (h0:0 ≤ u) (h1:u < (10:Int) ^ n) (hL:lo + n ≤ L.length):St L lo n u n u L:=by
  refine ⟨n,rfl,Nat.le_refl _,h0,h1,?_,?_⟩
  · rw [List.take_of_length_le (by rw [cQ]; exact Nat.le_refl _)]
  · rw [List.drop_of_length_le (by rw [cQ]; exact Nat.le_refl _),List.nil_append,List.take_append_drop]
theorem stN {k:Nat} (h:StN L lo n u (k + 1) z M) (hL:lo + n ≤ L.length):StN L lo n u k (z / 10) (M.set (lo + k) (cF (z % 10))):=by
  obtain ⟨h1,h2,h3,h4,h5⟩:=h
  rw [Int.pow_succ] at h3
  have hp:(pad u n).length = n:=cQ n u
  refine ⟨by omega,by omega,by omega,?_,?_⟩
  · have e:(pad u n).take k = ((pad u n).take (k + 1)).take k:=by rw [List.take_take,Nat.min_eq_left (by omega)]
    rw [e,h4,pad,List.take_append_of_le_length (by rw [cQ]; exact Nat.le_refl _),List.take_of_length_le (by rw [cQ]; exact Nat.le_refl _)]
  · have hk:k < (pad u n).length:=by omega
    have e:(pad u n).drop k = cF (z % 10) :: (pad u n).drop (k + 1):=by
      rw [List.drop_eq_getElem_cons hk]
      congr 1
      have e1:(pad u n)[k]? = some (cF (z % 10)):=by
        have:((pad u n).take (k + 1))[k]? = some (cF (z % 10)):=by
          rw [h4,pad,List.getElem?_append_right (by rw [cQ]; exact Nat.le_refl _),cQ,Nat.sub_self]; rfl
        rwa [List.getElem?_take,if_pos (by omega)] at this
      rw [List.getElem?_eq_getElem hk] at e1
      exact Option.some.inj e1
    have hlk:(L.take (lo + (k + 1))).length = lo + (k + 1):=by rw [List.length_take]; omega
    rw [h5,e,List.set_append_left _ _ (by rw [hlk]; omega)]
    have e2:L.take (lo + (k + 1)) = L.take (lo + k) ++ [L[lo + k]'(by omega)]:=by
      rw [← Nat.add_assoc,List.take_add_one,List.getElem?_eq_getElem (by omega)]; rfl
    have hl2:(L.take (lo + k)).length = lo + k:=by rw [List.length_take]; omega
    rw [e2,List.set_append_right _ _ (by rw [hl2]; exact Nat.le_refl _),hl2,Nat.sub_self]
    simp
theorem St1 {i j z' d:Int} {o:Nat} (hL:lo + n ≤ L.length) (h:St L lo n u i z M) (h0:0 ≤ j) (hj:i = j + 1) (ho:(o:Int) = lo + j) (hd:d = z % 10) (hz:z' = z / 10):St L lo n u j z' (M.set o (cF d)):=by
  obtain ⟨k,e,h⟩:=h
  obtain ⟨k,rfl⟩:∃ m,k = m + 1:=⟨k - 1,by omega⟩
  subst hd hz
  have:=stN h hL
  rw [show o = lo + k by omega]
  exact ⟨k,by omega,this⟩
theorem St2 {i j z' d e:Int} {o p:Nat} (hL:lo + n ≤ L.length) (h:St L lo n u i z M) (h0:0 ≤ j) (hj:i = j + 2) (ho:(o:Int) = lo + (j + 1)) (hp:(p:Int) = lo + j) (hd:d = z % 10) (he:e = z / 10 % 10) (hz:z' = z / 100):St L lo n u j z' ((M.set o (cF d)).set p (cF e)) :=
  St1 hL (St1 (j:=j + 1) (z':=z / 10) hL h (by omega) (by omega) ho hd rfl) h0 (by omega) hp he (by omega)
theorem St4 {i j z' d1 d2 d3 d4:Int} {o1 o2 o3 o4:Nat} (hL:lo + n ≤ L.length) (h:St L lo n u i z M) (h0:0 ≤ j) (hj:i = j + 4) (p1:(o1:Int) = lo + (j + 3)) (p2:(o2:Int) = lo + (j + 2)) (p3:(o3:Int) = lo + (j + 1)) (p4:(o4:Int) = lo + j)
    (q1:d1 = z % 10) (q2:d2 = z / 10 % 10) (q3:d3 = z / 100 % 10) (q4:d4 = z / 1000 % 10) (hz:z' = z / 10000):St L lo n u j z' ((((M.set o1 (cF d1)).set o2 (cF d2)).set o3 (cF d3)).set o4 (cF d4)) :=
  St2 hL (St2 (j:=j + 2) (z':=z / 100) hL h (by omega) (by omega) (by omega) (by omega) q1 q2 rfl) h0 (by omega) (by omega) (by omega) q3 (by omega) (by omega)
theorem St8 {i j z' d1 d2 d3 d4 d5 d6 d7 d8:Int} {o1 o2 o3 o4 o5 o6 o7 o8:Nat} (hL:lo + n ≤ L.length) (h:St L lo n u i z M) (h0:0 ≤ j) (hj:i = j + 8) (p1:(o1:Int) = lo + (j + 7)) (p2:(o2:Int) = lo + (j + 6)) (p3:(o3:Int) = lo + (j + 5)) (p4:(o4:Int) = lo + (j + 4)) (p5:(o5:Int) = lo + (j + 3)) (p6:(o6:Int) = lo + (j + 2)) (p7:(o7:Int) = lo + (j + 1)) (p8:(o8:Int) = lo + j)
    (q1:d1 = z % 10) (q2:d2 = z / 10 % 10) (q3:d3 = z / 100 % 10) (q4:d4 = z / 1000 % 10) (q5:d5 = z / 10000 % 10) (q6:d6 = z / 100000 % 10) (q7:d7 = z / 1000000 % 10) (q8:d8 = z / 10000000 % 10) (hz:z' = z / 100000000) :
    St L lo n u j z' ((((((((M.set o1 (cF d1)).set o2 (cF d2)).set o3 (cF d3)).set o4 (cF d4)).set o5 (cF d5)).set o6 (cF d6)).set o7 (cF d7)).set o8 (cF d8)) :=
  St4 hL (St4 (j:=j + 4) (z':=z / 10000) hL h (by omega) (by omega) (by omega) (by omega) (by omega) (by omega) q1 q2 q3 q4 rfl) h0 (by omega) (by omega) (by omega) (by omega) (by omega) (by omega) (by omega) (by omega) (by omega) (by omega)
theorem kV (h:St L lo n u 0 z M):M = L.take lo ++ (pad u n ++ L.drop (lo + n)):=by
  obtain ⟨k,e,h⟩:=h
  obtain rfl:k = 0:=by omega
  exact h.2.2.2.2
theorem St_bd {i:Int} (h:St L lo n u i z M):0 ≤ i∧i ≤ n∧0 ≤ z:=by
  obtain ⟨k,e,h⟩:=h
  exact ⟨by omega,by have:=h.1; omega,h.2.1⟩
theorem p10le {k b:Nat} (h:k ≤ b):(10:Int) ^ k ≤ 10 ^ b:=by
  have:=Int.ofNat_le.2 (Nat.pow_le_pow_right (n:=10) (by decide) h)
  rw [iM,iM] at this; exact this
theorem aDx {i:Int} (h:St L lo n u i z M) (hi:i < 8):z < 10000000:=by
  obtain ⟨k,e,h⟩:=h
  have h3:=h.2.2.1
  have:(10:Int) ^ k ≤ 10 ^ 7:=p10le (by omega)
  have e7:(10:Int) ^ 7 = 10000000:=by decide
  omega
theorem aDy {i:Int} {b:Nat} (h:St L lo n u i z M) (hi:i ≤ b):z < (10:Int) ^ b:=by
  obtain ⟨k,e,h⟩:=h
  have h3:=h.2.2.1
  have:(10:Int) ^ k ≤ 10 ^ b:=p10le (by omega)
  omega
end
theorem aAV (d:Nat):∀ u:Int,0 ≤ u → (10:Int) ^ d ≤ u ∨ d = 0 → u < (10:Int) ^ (d + 1) → pad u (d + 1) = eU u.toNat:=by
  induction d with
  | zero =>
    intro u h0 _ h2
    simp at h2
    rw [fG (by omega),pad,pad,List.nil_append]
    congr 2; omega
  | succ d ih =>
    intro u h0 h1 h2
    have h1' : (10:Int) ^ (d + 1) ≤ u:=h1.resolve_right (by omega)
    rw [Int.pow_succ] at h1' h2
    have hp:(0:Int) < 10 ^ d:=Int.pow_pos (by decide)
    have h10:¬ u.toNat < 10:=by omega
    rw [jR h10,pad,ih (u / 10) (by omega) (by by_cases hd:d = 0; exact .inr hd; exact .inl (by omega)) (by omega)]
    congr 2
    · omega
    · congr 1; omega
theorem aDr {n:Int} (h0:0 ≤ n) (h1:n < 10):(([48,49,50,51,52,53,54,55,56,57,97,98,99,100,101,102,103,104,105,106,107,108,109,110,111,112,113,114,115,116,117,118,119,120,121,122]:Str).take (n + 1).toNat).drop n.toNat = eU n.toNat:=by
  rw [fG (by omega)]
  have:n = 0 ∨ n = 1 ∨ n = 2 ∨ n = 3 ∨ n = 4 ∨ n = 5 ∨ n = 6 ∨ n = 7 ∨ n = 8 ∨ n = 9:=by omega
  rcases this with rfl | rfl | rfl | rfl | rfl | rfl | rfl | rfl | rfl | rfl <;> decide
theorem aAP:lS.length = 200:=by kernel_rfl
theorem aB0 {n:Int} (h0:10 ≤ n) (h1:n < 100):((lS.take (n * 2 + 2).toNat).drop (n * 2).toNat) = eU n.toNat:=by
  have a0:=sm0 n (i:=n * 2) rfl (by omega) h1
  have a1:=sm1 n (i:=n * 2 + 1) rfl (by omega) h1
  have hl:lS.length = 200:=by kernel_rfl
  rw [jR (by omega),fG (by omega)]
  have e1:(n * 2 + 2).toNat = (n * 2).toNat + 2:=by omega
  have e2:(n * 2 + 1).toNat = (n * 2).toNat + 1:=by omega
  rw [e2] at a1
  rw [e1,List.drop_take,Nat.add_sub_cancel_left,List.drop_eq_getElem_cons (by omega),List.drop_eq_getElem_cons (by omega)]
  rw [List.getElem?_eq_getElem (by omega)] at a0 a1
  simp only [List.take_succ_cons,List.take_zero,Option.some.inj a0,Option.some.inj a1]
  congr 1
  · congr 1; omega
  · congr 2; omega
set_option maxHeartbeats 1000000 in
theorem rY {w0:World} {h:Heap} {O:Nat → Prop} {u:Int} (gp10:Rs h O (.slice (some ⟨5,0,none⟩) 20 20) pow10s)  (h0:0 ≤ u:=by omega) (h1:u ≤ 18446744073709551615:=by omega):HC (XM PP) w0 146 [.int .u64 u].toArray h (fun rv h'=>rv = vi (nd u)∧h' = h):=by
 have hpl:pow10s.length = 20:=rfl
 have hlg:=lg_bd h0 h1
 obtain ⟨klen,hk1,hk2,-,-⟩:=pW h0 h1
 refine aV 15 [(0,.int .u64 u)] Tryz.func146 (fun r=>?_)
 refine hw_sr (aB aC<|aD ?_)
 refine hw_sr (aB y_move<|dY aG Len64_c<|dY aG zM<|aB aC<|aD ?_)
 refine aF (ah2 0 3) fun r=>?_
 refine hw_sr (aB y_move<|aB y_move<|aB y_move<|?_)
 obtain ⟨x1,hx1⟩:∃ x,pow10s[(lg (len64 u)).toNat]? = some x:=⟨_,List.getElem?_eq_getElem (by omega)⟩
 have hx10:=aB6 hx1
 refine aB (aCF (i:=lg (len64 u)))<|aB (y_load (RdF.cell1 gp10.1 hx1 rfl))<|aB y_geq<|?_
 refine dY aG bool2_c<|aB bI<|aB aC<|aD ?_
 refine aF (ah1 2) fun r=>?_
 refine hw_rr ?_
 refine aQ rfl (.cons aU .nil) ?_
 exact ⟨by first | rfl | (unfold nd; rw [← hx10]; rfl),rfl⟩
set_option maxHeartbeats 1000000 in
theorem small_c {w0:World} {h:Heap} {n:Int}   (h0:0 ≤ n∧n < 100:=by omega):HC (XM PP) w0 145 [vi n].toArray h (fun rv h'=>rv = vs (eU n.toNat)∧h' = h):=by
 refine aV 15 [(0,vi n)] Tryz.func145 (fun r=>?_)
 refine hw_sr (aB aC<|aD ?_)
 refine aI ?_
 refine hw_sr (aB y_move<|aB dB<|aD ?_)
 refine aZ (fun g4=>?_) (fun g4=>?_)
 refine hw_sr (aB y_move<|aB y_move<|aB bI<|aB (yK (h2:=by simp only [List.length_cons,List.length_nil]; omega))<|aB aC<|aD ?_)
 refine aF (ah1 2) fun r=>?_
 refine hw_rr ?_
 refine aQ rfl (.cons aU .nil) ?_
 exact ⟨by first | rfl | (rw [← aDr h0.1 g4]; rfl),rfl⟩
 refine aM ?_
 refine hw_sr (aB y_move<|aB hG<|aB y_move<|aB hG<|aB bI<|aB (yK (l:=lS) (hx:=by kernel_rfl) (h2:=by rw [aAP]; omega))<|aB aC<|aD ?_)
 refine aF (ah1 2) fun r=>?_
 refine hw_rr ?_
 refine aQ rfl (.cons aU .nil) ?_
 exact ⟨by first | rfl | (rw [← aB0 (by omega) h0.2]; rfl),rfl⟩
end
end Go.Proofs.YtlpdccnjhpclbaaGreatDoor
