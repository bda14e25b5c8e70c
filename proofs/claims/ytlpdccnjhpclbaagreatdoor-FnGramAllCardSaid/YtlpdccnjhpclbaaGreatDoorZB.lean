/-
  Part 2 of the walks: the judgement, its rules, the functions one by one.
-/
import Derived.Test.YtlpdccnjhpclbaaGreatDoorZA
import Derived.Laws.IdiomStrings
namespace Go.Proofs.YtlpdccnjhpclbaaGreatDoor
section
open Go.Conc
def yP (x:Ver) (now:Int):Bool:=fD x.key && gC x.num && decide (1 ≤ x.fr) && decide (x.fr ≤ now) && (decide (x.to = 0) || (decide (x.fr < x.to) && decide (x.to ≤ now)))
def nN (a b:Ver):Bool:=if a.key = b.key then decide (0 < a.to) && decide (a.to ≤ b.fr) else Op.bytesLess a.key b.key
def aBu (t:Int) (x:Ver):Bool:=decide (x.fr ≤ t) && (decide (x.to = 0) || decide (t < x.to))
def iJ (l:List Ver) (t:Int):List Row:=(l.filter (aBu t)).map fun x=>⟨x.key,x.num⟩
theorem rV {l:List Ver} {t:Int} {k:Nat} {x:Ver} (hx:l[k]? = some x):iJ (l.take (k + 1)) t = iJ (l.take k) t ++ (if aBu t x then [⟨x.key,x.num⟩] else []):=by
  unfold iJ
  rw [kD hx,List.map_append]
  split <;> rfl
theorem pQ (l:List Ver) (t:Int):(iJ l t).length ≤ l.length:=by
  unfold iJ; rw [List.length_map]; exact List.length_filter_le _ _
theorem rowsAt_len' (l:List Ver) (t:Int) (k:Nat):(iJ (l.take k) t).length ≤ k:=Nat.le_trans (pQ _ _) (by rw [List.length_take]; omega)
def kP (now:Int) (prev:Option Ver):List Ver → Bool
  | []=>true
  | x :: l=>yP x now && (match prev with | some p=>nN p x | none=>true) && kP now (some x) l
theorem kO {now:Int} {l:List Ver} {p:Option Ver} {k:Nat} {x:Ver} (hx:l[k]? = some x):kP now p (l.drop k) = (yP x now && (match p with | some p=>nN p x | none=>true) && kP now (some x) (l.drop (k + 1))):=by
  obtain ⟨h1,rfl⟩:=List.getElem?_eq_some_iff.1 hx
  rw [List.drop_eq_getElem_cons h1]; rfl
theorem yN {now:Int} {l:List Ver} {p:Option Ver} {k:Nat} (h:l.length ≤ k):kP now p (l.drop k) = true:=by rw [List.drop_eq_nil_of_le h,kP]
def oP (l:List Ver) (n:Nat):Bool:=(List.range n).all fun t=>decide (((iJ l t).length:Int) ≤ 10)
theorem aAH {l:List Ver} {n k:Nat} (hk:k < n) (h:10 < ((iJ l (k:Int)).length:Int)):oP l n = false :=
  List.all_eq_false.2 ⟨k,List.mem_range.2 hk,by simp; omega⟩
def iH (v:cD):Bool:=decide (0 ≤ v.now) && decide (v.now ≤ 40) && decide ((v.list.length:Int) ≤ 60) && kP v.now none v.list && oP v.list (v.now + 1).toNat
theorem mS {v:cD} (h:iH v = true):0 ≤ v.now∧v.now ≤ 40∧v.list.length ≤ 60:=by
  simp only [iH,Bool.and_eq_true,decide_eq_true_eq] at h; omega
def qK (key:Str) (n:Int) (x:Ver):Int:=if x.key = key then max n (max x.fr x.to) else n
def qD (l:List Ver) (key:Str):Int:=l.foldl (qK key) 0
def jA (x:Write):Bool:=fD x.key && gC x.num && !(x.gone && !decide (x.num = 0))
def gS (prev:Option Write):List Write → Bool
  | []=>true
  | x :: l=>jA x && (match prev with | some p=>Op.bytesLess p.key x.key | none=>true) && gS (some x) l
def fI (l:List Write):Bool:=gS none l && decide ((l.length:Int) ≤ 6)
theorem eN {l:List Write} {p:Option Write} {k:Nat} {x:Write} (hx:l[k]? = some x):gS p (l.drop k) = (jA x && (match p with | some p=>Op.bytesLess p.key x.key | none=>true) && gS (some x) (l.drop (k + 1))):=by
  obtain ⟨h1,rfl⟩:=List.getElem?_eq_some_iff.1 hx
  rw [List.drop_eq_getElem_cons h1]; rfl
theorem uW {l:List Write} {p:Option Write} {k:Nat} (h:l.length ≤ k):gS p (l.drop k) = true:=by rw [List.drop_eq_nil_of_le h,gS]
theorem qB {l:List Write} (h:fI l = true):l.length ≤ 6:=by
  simp only [fI,Bool.and_eq_true,decide_eq_true_eq] at h; omega
def gB (w:Write) (now:Int) (x:Ver):Ver:=if x.key = w.key∧x.to = 0 then ⟨x.key,x.num,x.fr,now⟩ else x
def wK (a b:Str):Bool:=Op.bytesLess a b || decide (a = b)
def placeStep (key:Str) (p:Nat × Nat) (x:Ver):Nat × Nat:=(if wK x.key key then p.2 + 1 else p.1,p.2 + 1)
def hY (l:List Ver) (key:Str):Nat:=(l.foldl (placeStep key) (0,0)).1
def fU (l:List Ver) (w:Write) (now:Int):List Ver :=
  if w.gone then l.map (gB w now) else (l.map (gB w now)).take (hY l w.key) ++ ⟨w.key,w.num,now,0⟩ :: (l.map (gB w now)).drop (hY l w.key)
theorem pG (key:Str) (l:List Ver):∀ p,(l.foldl (placeStep key) p).2 = p.2 + l.length:=by
  induction l with
  | nil=>intro p; simp
  | cons x l ih=>intro p; rw [List.foldl_cons,ih]; simp [placeStep]; omega
theorem vG (key:Str) (l:List Ver):∀ p:Nat × Nat,p.1 ≤ p.2 → (l.foldl (placeStep key) p).1 ≤ (l.foldl (placeStep key) p).2:=by
  induction l with
  | nil=>intro p h; exact h
  | cons x l ih=>intro p h; rw [List.foldl_cons]; refine ih _ ?_; simp only [placeStep]; split <;> omega
theorem yO (l:List Ver) (key:Str):hY l key ≤ l.length:=by
  have:=vG key l (0,0) (by omega)
  rw [pG] at this
  simpa [hY] using this
theorem jW {l:List Ver} {key:Str} {k:Nat} {x:Ver} (hx:l[k]? = some x):hY (l.take (k + 1)) key = if wK x.key key then k + 1 else hY (l.take k) key:=by
  have hk:=(List.getElem?_eq_some_iff.1 hx).1
  unfold hY
  rw [dK hx,placeStep,pG,List.length_take,Nat.min_eq_left (by omega)]
  simp
def iI (l:List Ver) (w:Write) (now:Int) (k:Nat):List Ver:=(l.take k).map (gB w now) ++ l.drop k
theorem aAI {l:List Ver} {w:Write} {now:Int} {k:Nat} (hk:k ≤ l.length):(iI l w now k).length = l.length:=by simp [iI]; omega
theorem vV {l:List Ver} {w:Write} {now:Int} {k:Nat} {x:Ver} (hx:l[k]? = some x):(iI l w now k)[k]? = some x:=by
  have hk:=(List.getElem?_eq_some_iff.1 hx).1
  unfold iI
  rw [List.getElem?_append_right (by simp; omega)]
  simpa [Nat.min_eq_left (Nat.le_of_lt hk)] using hx
theorem aAJ {l:List Ver} {w:Write} {now:Int} {k:Nat}:(iI l w now k)[k]? = l[k]?:=by
  rcases Nat.lt_or_ge k l.length with h | h
  · rw [vV (List.getElem?_eq_getElem h),List.getElem?_eq_getElem h]
  · rw [List.getElem?_eq_none h,List.getElem?_eq_none (by simp [iI]; omega)]
theorem pO {l:List Ver} {w:Write} {now:Int} {k:Nat} {x:Ver} (hx:l[k]? = some x):(iI l w now k).set k (gB w now x) = iI l w now (k + 1):=by
  obtain ⟨hk,rfl⟩:=List.getElem?_eq_some_iff.1 hx
  unfold iI
  rw [List.set_append_right _ _ (by simp; omega),List.drop_eq_getElem_cons hk,List.take_succ_eq_append_getElem hk,List.length_map,List.length_take,Nat.min_eq_left (Nat.le_of_lt hk),Nat.sub_self,List.set_cons_zero,List.map_append,List.append_assoc]
  rfl
theorem rT {l:List Ver} {w:Write} {now:Int} {k:Nat} {x:Ver} (hx:l[k]? = some x) (h:gB w now x = x):iI l w now k = iI l w now (k + 1):=by
  rw [← pO hx,h]
  have:=vV (w:=w) (now:=now) hx
  apply List.ext_getElem?
  intro i
  rw [List.getElem?_set]
  split
  · rename_i e; subst e; rw [this]; split <;> simp_all
  · rfl
theorem aAK {l:List Ver} {w:Write} {now:Int} {k:Nat} (h:l.length ≤ k):iI l w now k = l.map (gB w now):=by simp [iI,List.take_of_length_le h,List.drop_eq_nil_of_le h]
def eS (v:cD) (l:List Write):cD:=⟨v.now + 1,l.foldl (fun m w=>fU m w (v.now + 1)) v.list⟩
def fM (v:cD) (l:List Write):cD × Bool:=if iH (eS v l) then (eS v l,true) else (v,false)
theorem xL (l:List Ver) (w:Write) (now:Int):(fU l w now).length ≤ l.length + 1:=by
  unfold fU
  split <;> simp <;> omega
theorem vL (now:Int) (l:List Write):∀ m:List Ver,(l.foldl (fun m w=>fU m w now) m).length ≤ m.length + l.length:=by
  induction l with
  | nil=>intro m; simp
  | cons w l ih=>intro m; rw [List.foldl_cons]; have:=ih (fU m w now); have:=xL m w now; simp only [List.length_cons]; omega
def hU (v:cD) (t:Int):cD:=if iH v then ⟨v.now,v.list.filter fun x=>decide (x.to = 0) || decide (t < x.to)⟩ else ⟨0,[]⟩
set_option maxHeartbeats 1000000 in
theorem l2Ver_c {w0:World} {h:Heap} {O:Nat → Prop} {x:Ver} {now:Int}  (OB0:OB h O) (s0:SB x.key:=by first | assumption | omega | (simp; omega)):HC (XM PP) w0 88 [.agg #[vs x.key,vi x.num,vi x.fr,vi x.to],vi now].toArray h (fun rv h'=>rv = vb (yP x now)∧Le h h'):=by
 have le:=Le.refl h
 have OBe:=OB0
 refine aV 42 [(0,.agg #[vs x.key,vi x.num,vi x.fr,vi x.to]),(1,vi now)] Tryz.func88 (fun r=>?_)
 refine hw_sr (bE cW (fun v1 h1 q1=>?_))
 obtain ⟨b1,O1,rfl,eb1,sb1,lb1,B1,hO1⟩:=q1.ox O
 refine aB aC<|aD ?_
 refine hw_sr (aB y_fieldAddr<|aB (y_load (Blk.at B1 rfl rfl))<|?_)
 refine dY aG pA<|aB y_move<|?_
 refine bB 4 [(1,vi now),(2,.pointer (some ⟨b1,0,none⟩)),(12,vb (fD x.key && gC x.num))] (fun r=>?_) (fun jn=>?_)
 refine aB y_move<|?_
 refine bB 4 [(1,vi now),(2,.pointer (some ⟨b1,0,none⟩)),(17,vb ((fD x.key && gC x.num) && (decide ((1:Int) ≤ x.fr))))] (fun r=>?_) (fun jn=>?_)
 refine aB y_move<|?_
 refine bB 5 [(1,vi now),(2,.pointer (some ⟨b1,0,none⟩)),(23,vb (((fD x.key && gC x.num) && (decide ((1:Int) ≤ x.fr))) && (decide (x.fr ≤ now))))] (fun r=>?_) (fun jn=>?_)
 refine aB y_move<|?_
 refine bB 17 [(41,vb ((((fD x.key && gC x.num) && (decide ((1:Int) ≤ x.fr))) && (decide (x.fr ≤ now))) && ((decide (x.to = 0)) || ((decide (x.fr < x.to)) && (decide (x.to ≤ now))))))] (fun r=>?_) (fun jn=>?_)
 refine aB aC<|aD ?_
 refine hw_rr ?_
 refine aQ rfl (.cons aU .nil) ?_
 replace le:=le.t lb1
 exact ⟨by first | rfl | (simp_all [oneOf,yP]),le⟩
 refine eT (b:=(((fD x.key && gC x.num) && (decide ((1:Int) ≤ x.fr))) && (decide (x.fr ≤ now)))) (fun g24=>?_) (fun g24=>?_)
 have g24':=g24
 simp at g24'
 refine aO g24 y_fieldAddr<|aO g24 (y_load (Blk.at B1 rfl rfl))<|aO g24 bM<|aO g24 y_move<|?_
 refine dA (x.to = 0) (fun g28=>?_) (fun g28=>?_)
 refine aN (neT (dT g28))<|aN (neT (dT g28))<|aN (neT (dT g28))<|aN (neT (dT g28))<|aN (neT (dT g28))<|aN (neT (dT g28))<|bZ<|bZ<|bZ<|bZ<|aN (neT (dT g28))<|aO g24 (y_pickT (dT g28))<|aB (y_pickT g24)<|?_
 exact jn _ (aA aJ (by simp [aH,g24,g28]))
 refine aO (dF g28) y_fieldAddr<|aO (dF g28) (y_load (Blk.at B1 rfl rfl))<|aO (dF g28) y_fieldAddr<|aO (dF g28) (y_load (Blk.at B1 rfl rfl))<|aO (dF g28) cU<|aO (dF g28) y_move<|?_
 refine dA (x.fr < x.to) (fun g34=>?_) (fun g34=>?_)
 refine aO (dT g34) y_fieldAddr<|aO (dT g34) (y_load (Blk.at B1 rfl rfl))<|aO (dT g34) y_move<|aO (dT g34) y_leq<|aO (dF g28) (y_pickT (dT g34))<|aO g24 (aR (dF g28))<|aB (y_pickT g24)<|?_
 exact jn _ (aA aJ (by simp [aH,g24,g28,g34]))
 refine aN (neF (dF g34))<|aN (neF (dF g34))<|aN (neF (dF g34))<|aN (neF (dF g34))<|aO (dF g28) (aR (dF g34))<|aO g24 (aR (dF g28))<|aB (y_pickT g24)<|?_
 exact jn _ (aA aJ (by simp [aH,g24,g28,g34]))
 have g24':=g24
 simp at g24'
 refine aN (neF g24)<|aN (neF g24)<|aN (neF g24)<|aN (neF g24)<|bZ<|bZ<|bZ<|bZ<|bZ<|bZ<|bZ<|bZ<|bZ<|bZ<|bZ<|aN (neF g24)<|aB (aR g24)<|?_
 exact jn _ (aA aJ (by simp [aH,g24]))
 refine eT (b:=((fD x.key && gC x.num) && (decide ((1:Int) ≤ x.fr)))) (fun g18=>?_) (fun g18=>?_)
 have g18':=g18
 simp at g18'
 refine aO g18 y_fieldAddr<|aO g18 (y_load (Blk.at B1 rfl rfl))<|aO g18 y_move<|aO g18 y_leq<|aB (y_pickT g18)<|?_
 exact jn _ (aA (aA (aA aJ (by simp [aH,g18]))))
 have g18':=g18
 simp at g18'
 refine aN (neF g18)<|aN (neF g18)<|aN (neF g18)<|aN (neF g18)<|aB (aR g18)<|?_
 exact jn _ (aA (aA (aA aJ (by simp [aH,g18]))))
 refine eT (b:=(fD x.key && gC x.num)) (fun g13=>?_) (fun g13=>?_)
 have g13':=g13
 simp at g13'
 refine aO g13 y_fieldAddr<|aO g13 (y_load (Blk.at B1 rfl rfl))<|aO g13 y_geq<|aB (y_pickT g13)<|?_
 exact jn _ (aA (aA (aA aJ (by simp [aH,g13]))))
 have g13':=g13
 simp at g13'
 refine aN (neF g13)<|aN (neF g13)<|aN (neF g13)<|aB (aR g13)<|?_
 exact jn _ (aA (aA (aA aJ (by simp [aH,g13]))))
 refine eT (b:=fD x.key) (fun g8=>?_) (fun g8=>?_)
 refine aO g8 y_fieldAddr<|aO g8 (y_load (Blk.at B1 rfl rfl))<|?_
 refine gH g8 aG qL<|aB (y_pickT g8)<|?_
 exact jn _ (aA (aA (aA aJ (by simp [aH,g8]))))
 refine aN (neF g8)<|aN (neF g8)<|aN (neF g8)<|aB (aR g8)<|?_
 exact jn _ (aA (aA (aA aJ (by simp [aH,g8]))))
set_option maxHeartbeats 1000000 in
theorem aCa {w0:World} {h:Heap} {O:Nat → Prop} {a:Ver} {b:Ver}  (OB0:OB h O) (s0:SB a.key:=by first | assumption | omega | (simp; omega)) (s1:SB b.key:=by first | assumption | omega | (simp; omega)):HC (XM PP) w0 89 [.agg #[vs a.key,vi a.num,vi a.fr,vi a.to],.agg #[vs b.key,vi b.num,vi b.fr,vi b.to]].toArray h (fun rv h'=>rv = vb (nN a b)∧Le h h'):=by
 have le:=Le.refl h
 have OBe:=OB0
 refine aV 25 [(0,.agg #[vs a.key,vi a.num,vi a.fr,vi a.to]),(1,.agg #[vs b.key,vi b.num,vi b.fr,vi b.to])] Tryz.func89 (fun r=>?_)
 refine hw_sr (bE cW (fun v1 h1 q1=>?_))
 obtain ⟨b1,O1,rfl,eb1,sb1,lb1,B1,hO1⟩:=q1.ox O
 refine bE cW (fun v2 h2 q2=>?_)
 obtain ⟨b2,O2,rfl,eb2,sb2,lb2,B2,hO2⟩:=q2.ox O1
 refine aB aC<|aD ?_
 refine aF (ah2 2 3) fun r=>?_
 refine aI ?_
 refine aI ?_
 replace B1:=B1.le lb2
 refine aE (aB y_fieldAddr<|aB (y_load (Blk.at B1 rfl rfl))<|aB y_fieldAddr<|aB (y_load (Blk.at B2 rfl rfl))<|aB jO<|aD ?_)
 refine aF (ah3 2 3 9) fun r=>?_
 refine fH (fun g9=>?_) (fun g9=>?_)
 refine hw_sr (aB y_fieldAddr<|aB (y_load (Blk.at B1 rfl rfl))<|aB y_fieldAddr<|aB (y_load (Blk.at B2 rfl rfl))<|aB aAF<|aB aC<|aD ?_)
 refine aF (ah1 4) fun r=>?_
 refine hw_rr ?_
 refine aQ rfl (.cons aU .nil) ?_
 replace le:=(le.t lb1).t lb2
 exact ⟨by first | rfl | (simp_all [oneOf,nN]),le⟩
 refine aM ?_
 refine hw_sr (aB y_fieldAddr<|aB (y_load (Blk.at B1 rfl rfl))<|aB cU<|aB y_move<|?_)
 refine bB 6 [(24,vb ((decide ((0:Int) < a.to)) && (decide (a.to ≤ b.fr))))] (fun r=>?_) (fun jn=>?_)
 refine aB aC<|aD ?_
 refine hw_rr ?_
 refine aQ rfl (.cons aU .nil) ?_
 replace le:=(le.t lb1).t lb2
 exact ⟨by first | rfl | (simp_all [oneOf,nN]),le⟩
 refine dA ((0:Int) < a.to) (fun g18=>?_) (fun g18=>?_)
 refine aO (dT g18) y_fieldAddr<|aO (dT g18) (y_load (Blk.at B1 rfl rfl))<|aO (dT g18) y_fieldAddr<|aO (dT g18) (y_load (Blk.at B2 rfl rfl))<|aO (dT g18) y_leq<|aB (y_pickT (dT g18))<|?_
 exact jn _ (aA aJ (by simp [aH,g18]))
 refine aN (neF (dF g18))<|aN (neF (dF g18))<|aN (neF (dF g18))<|aN (neF (dF g18))<|aN (neF (dF g18))<|aB (aR (dF g18))<|?_
 exact jn _ (aA aJ (by simp [aH,g18]))
set_option maxHeartbeats 1000000 in
theorem nZ {w0:World} {h:Heap} {O:Nat → Prop} {v:cD} {k0v:Value} {t:Int} (k0:Rs h O k0v v.list) (OB0:OB h O)  : HC (XM PP) w0 48 [.agg #[vi v.now,k0v],vi t].toArray h (fun rv h'=>Le h h' ∧ Ow h' h.size rv (iJ v.list t) 111):=by
 obtain ⟨Ak0,nk0,ck0,rfl⟩:=k0.frm
 have le:=Le.refl h
 have OBe:=OB0
 have hl:=k0.len
 refine aV 45 [(0,.agg #[vi v.now,(.slice Ak0 nk0 ck0)]),(1,vi t)] Tryz.func48 (fun r=>?_)
 refine hw_sr (bE cW (fun v1 h1 q1=>?_))
 obtain ⟨b1,O1,rfl,eb1,sb1,lb1,B1,hO1⟩:=q1.ox O
 refine aB aC<|aD ?_
 refine hw_sr (?_)
 refine bE (bA (l:=([]:List Row))) (fun v2 h2 q2=>?_)
 obtain ⟨lb2,ow2,sb2⟩:=q2
 have z2:=lb2.1
 obtain ⟨O2,hO2⟩:=mkO (fun x=>O1 x ∨ vblk v2 x)
 have o2:Ow _ _ _ _ _:=⟨ow2,OkL.nil⟩
 obtain ⟨A3,n3,c3,rfl⟩:=o2.frm
 refine aB aC<|aD ?_
 refine aI ?_
 refine hw_sr (aB aC<|aD ?_)
 replace le:=(le.t lb1).t lb2
 replace OB0:=(OB0.newB sb1 hO1 eb1).newS lb2.1 hO2 (fun x hv=>(ow2.vb hv).2)
 replace B1:=B1.le lb2
 refine cT (fun (gx:Nat × (List Row) × (Nat → Prop) × Value)=>match gx with | (k,m,OL4,ov)=>[(1,vi t),(2,.pointer (some ⟨b1,0,none⟩)),(5,ov),(6,vi (k:Int))]) (fun (gx:Nat × (List Row) × (Nat → Prop) × Value) (h' : Heap)=>match gx with | (k,m,OL4,ov)=>Le h h' ∧ Mod O2 h2 h' ∧ (∀ x,OL4 x → O2 x ∨ h2.size ≤ x)∧(∀ x,O2 x → OL4 x)∧OB h' OL4∧Blk h' b1 [vi v.now,(.slice Ak0 nk0 ck0)] 52∧OL4 b1∧Ow h' h.size ov m 111∧(∀ x,vblk ov x → OL4 x)∧m = iJ v.list t) (aX (cK (fun (gx:Nat × (List Row) × (Nat → Prop) × Value)=>match gx with | (k,m,OL4,ov)=>[(1,vi t),(2,.pointer (some ⟨b1,0,none⟩)),(5,ov),(6,vi (k:Int))]) (fun (gx:Nat × (List Row) × (Nat → Prop) × Value) (h' : Heap)=>match gx with | (k,m,OL4,ov)=>Le h h' ∧ Mod O2 h2 h' ∧ (∀ x,OL4 x → O2 x ∨ h2.size ≤ x)∧(∀ x,O2 x → OL4 x)∧OB h' OL4∧Blk h' b1 [vi v.now,(.slice Ak0 nk0 ck0)] 52∧OL4 b1∧Ow h' h.size ov m 111∧(∀ x,vblk ov x → OL4 x)∧m = iJ (v.list.take k) t∧k ≤ v.list.length) (fun (gx:Nat × (List Row) × (Nat → Prop) × Value)=>match gx with | (k,m,OL4,ov)=>v.list.length - k) (0,[],O2,(.slice A3 n3 c3)) ag4 ⟨le,Mod.refl _,fun x hx=>.inl hx,fun x hx=>hx,OB0,B1,(il hO2 (ir hO1)),o2.wk (by omega),(fun x hv=>(hO2 x).2 (.inr hv)),by exact ⟨rfl,by omega⟩⟩ ?_)) ?_
 rintro ⟨k,m,OL4,ov⟩ r hl4 ⟨le,lp4,la4,lb4,lo4,B1,mB1,o2,mo2,e1,e2⟩
 obtain ⟨A5,n5,c5,rfl⟩:=o2.frm
 have zl4:=lp4.1
 have lr4:=lp4
 have lx4:=la4
 refine aI ?_
 refine hw_sr (aB y_move<|aB y_fieldAddr<|aB (y_load (Blk.at B1 rfl rfl))<|aB (y_lenA k0.1)<|aB dB<|aD ?_)
 refine aF (ah5 1 2 5 6 13) fun r=>?_
 refine aZ (fun g13=>?_) (fun g13=>?_)
 refine aM ?_
 refine aI ?_
 refine aX ?_
 refine hw_sr (aB y_fieldAddr<|aB (y_load (Blk.at B1 rfl rfl))<|aB y_move<|?_)
 obtain ⟨x1,hx1⟩:∃ x,v.list[k]? = some x:=⟨_,List.getElem?_eq_getElem (by omega)⟩
 have sx1:SB x1.key:=k0.2.at hx1
 refine aB (y_idxA k0.1)<|?_
 replace k0:=((k0.nb lb1 hO1 eb1).ns lb2 hO2 (fun x hv=>(ow2.vb hv).1)).lp lp4 la4
 refine aB (y_loadEl k0.1 hx1)<|bE aY (fun v6 h6 q6=>?_)
 obtain ⟨b6,O6,rfl,eb6,sb6,lb6,B6,hO6⟩:=q6.ox OL4
 have lx4:=laB lx4 hO6 (by omega)
 refine bO (aK aP B6) (fun v7 h7 q7=>?_)
 obtain ⟨rfl,q7⟩:=q7
 have z7:=q7.1
 replace o2:=o2.le lb6
 replace o2:=o2.st q7 (o2.1.ne B6 (by decide))
 have B6:=q7.2.2
 refine aD ?_
 refine aF (ah5 1 2 5 6 7) fun r=>?_
 refine hw_sr (aB y_fieldAddr<|aB (y_load (Blk.at B6 rfl rfl))<|aB y_move<|aB y_leq<|aB y_move<|?_)
 refine bB 10 [(1,vi t),(2,.pointer (some ⟨b1,0,none⟩)),(5,(.slice A5 n5 c5)),(6,vi (k:Int)),(7,.pointer (some ⟨b6,0,none⟩)),(35,vb ((decide (x1.fr ≤ t)) && ((decide (x1.to = 0)) || (decide (t < x1.to)))))] (fun r=>?_) (fun jn=>?_)
 refine aD ?_
 refine bF (fun g35=>?_) (fun g35=>?_)
 have g35':=g35
 simp at g35'
 refine aE (aB y_move<|aB y_fieldAddr<|aB (y_load (Blk.at B6 rfl rfl))<|aB y_fieldAddr<|aB (y_load (Blk.at B6 rfl rfl))<|aB (y_build rfl rfl)<|?_)
 have OB0:=lo4
 refine bE (bA (l:=([(⟨x1.key,x1.num⟩:Row)]:List Row))) (fun v8 h8 q8=>?_)
 obtain ⟨lb8,ow8,sb8⟩:=q8
 have z8:=lb8.1
 replace OB0:=(OB0.newB sb6 hO6 eb6).leO (Nat.le_of_eq q7.1.symm)
 have k8:Rs _ O6 _ _:=Ow.end ⟨ow8,(OkL.one (by first | trivial | assumption | exact ⟨by assumption,by assumption⟩ | simp_all [Ok.ok] | (show SB _; first | assumption | omega | (simp; omega))))⟩ OB0
 obtain ⟨A9,n9,c9,rfl⟩:=k8.frm
 replace o2:=o2.le lb8
 refine bE (bW aP o2.1 k8.1 (by omega) (Nat.add_le_add o2.2.len k8.2.len)) (fun v10 h10 q10=>?_)
 have L1:=o2.2.len
 have L2:=k8.2.len
 obtain ⟨O10,hO10,z10,ow10⟩:=q10.ow (OkL.app o2.2 k8.2 (by have:=rowsAt_len' v.list t k; rw [e1]; simp only [List.length_cons,List.length_nil]; omega)) O6
 replace B1:=((B1.le lb6).s q7).le lb8
 replace B6:=B6.le lb8
 replace lr4:=(((lr4.tl lb6).s q7).tl lb8).apO q10 (fun x hv=>lx4 x ((fun x hv=>(hO6 x).2 (.inl (mo2 x hv))) x hv))
 have lx4:=laA lx4 hO10 q10 (fun x hv=>(hO6 x).2 (.inl (mo2 x hv))) (by omega)
 replace le:=(((le.t lb6).s q7).t lb8).ap o2 q10 (by omega)
 replace B1:=B1.app q10 (o2.1.ne B1 (by decide))
 replace B6:=B6.app q10 (o2.1.ne B6 (by decide))
 have o2:=ow10
 obtain ⟨A11,n11,c11,rfl⟩:=o2.frm
 refine aB aC<|aD ?_
 refine aF (ah4 1 2 5 6) fun r=>?_
 refine aE (aB y_move<|aB bI<|aB aC<|aD ?_)
 replace OB0:=(OB0.leO lb8.1).app q10 hO10
 exact ⟨(k + 1,(m ++ ([(⟨x1.key,x1.num⟩:Row)]:List Row)),O10,(.slice A11 n11 c11)),ag4,⟨le,lr4,lx4,fun x hx=>(il hO10 (il hO6 (lb4 _ hx))),OB0,B1,(il hO10 (il hO6 mB1)),o2,(fun x hv=>(hO10 x).2 (.inr hv)),by exact ⟨by rw [e1,rV hx1,if_pos (by simp_all [aBu])],by omega⟩⟩,by first | omega | (dsimp only; omega)⟩
 have g35':=g35
 simp at g35'
 refine aM ?_
 refine aE (aB y_move<|aB bI<|aB aC<|aD ?_)
 have OB0:=lo4
 replace B1:=(B1.le lb6).s q7
 replace le:=(le.t lb6).s q7
 replace lr4:=(lr4.tl lb6).s q7
 replace OB0:=(OB0.newB sb6 hO6 eb6).leO (Nat.le_of_eq q7.1.symm)
 exact ⟨(k + 1,m,O6,(.slice A5 n5 c5)),ag4,⟨le,lr4,lx4,fun x hx=>(il hO6 (lb4 _ hx)),OB0,B1,(il hO6 mB1),o2,(fun x hv=>(hO6 x).2 (.inl (mo2 x hv))),by exact ⟨by rw [e1,rV hx1,if_neg (by simp_all [aBu])]; simp,by omega⟩⟩,by first | omega | (dsimp only; omega)⟩
 refine dA (x1.fr ≤ t) (fun g25=>?_) (fun g25=>?_)
 refine aO (dT g25) y_fieldAddr<|aO (dT g25) (y_load (Blk.at B6 rfl rfl))<|aO (dT g25) bM<|aO (dT g25) y_move<|?_
 refine dA (x1.to = 0) (fun g29=>?_) (fun g29=>?_)
 refine aN (neT (dT g29))<|aN (neT (dT g29))<|aN (neT (dT g29))<|aN (neT (dT g29))<|aO (dT g25) (y_pickT (dT g29))<|aB (y_pickT (dT g25))<|?_
 exact jn _ (aA (aA (aA (aA (aA (aA aJ (by simp [aH,g25,g29])))))))
 refine aO (dF g29) y_fieldAddr<|aO (dF g29) (y_load (Blk.at B6 rfl rfl))<|aO (dF g29) y_move<|aO (dF g29) cU<|aO (dT g25) (aR (dF g29))<|aB (y_pickT (dT g25))<|?_
 exact jn _ (aA (aA (aA (aA (aA (aA aJ (by simp [aH,g25,g29])))))))
 refine aN (neF (dF g25))<|aN (neF (dF g25))<|aN (neF (dF g25))<|aN (neF (dF g25))<|bZ<|bZ<|bZ<|bZ<|aN (neF (dF g25))<|aB (aR (dF g25))<|?_
 exact jn _ (aA (aA (aA (aA (aA (aA aJ (by simp [aH,g25])))))))
 refine cI ?_
 have OB0:=lo4
 exact ⟨(k,m,OL4,(.slice A5 n5 c5)),ag4,⟨le,lr4,lx4,fun x hx=>(lb4 _ hx),OB0,B1,mB1,o2,mo2,by rw [List.take_of_length_le (by omega)] at e1; exact e1⟩⟩
 rintro ⟨k,m,OL4,ov⟩ r hl4 ⟨le,lp4,la4,lb4,lo4,B1,mB1,o2,mo2,e1⟩
 obtain ⟨A12,n12,c12,rfl⟩:=o2.frm
 have zl4:=lp4.1
 refine hw_sr (aB y_move<|aB aC<|aD ?_)
 refine hw_rr ?_
 refine aQ rfl (.cons aU .nil) ?_
 exact ⟨le,(o2.wk (by omega)).cast (by first | rfl | (simp_all [oneOf] <;> omega))⟩
set_option maxHeartbeats 1000000 in
theorem lA {w0:World} {h:Heap} {O:Nat → Prop} {v:cD} {k0v:Value} (k0:Rs h O k0v v.list) (OB0:OB h O)  : HC (XM PP) w0 51 [.agg #[vi v.now,k0v]].toArray h (fun rv h'=>∃ (s1:Value),rv = .agg #[vi v.now,s1]∧Le h h' ∧ Ow h' h.size s1 v.list 109):=by
 obtain ⟨Ak0,nk0,ck0,rfl⟩:=k0.frm
 have le:=Le.refl h
 have OBe:=OB0
 refine aV 10 [(0,.agg #[vi v.now,(.slice Ak0 nk0 ck0)])] Tryz.func51 (fun r=>?_)
 refine hw_sr (bE cW (fun v1 h1 q1=>?_))
 obtain ⟨b1,O1,rfl,eb1,sb1,lb1,B1,hO1⟩:=q1.ox O
 refine bE aY (fun v2 h2 q2=>?_)
 obtain ⟨b2,O2,rfl,eb2,sb2,lb2,B2,hO2⟩:=q2.ox O1
 refine aD ?_
 refine aI ?_
 replace k0:=(k0.nb lb1 hO1 eb1).nb lb2 hO2 eb2
 have Rk0:=k0
 obtain ⟨S3,hS3⟩:=mkO (fun b=>h2.size ≤ b)
 have mR3:Mod S3 h2 h2:=Mod.refl _
 have hd3:∀ b,b < h2.size∧¬ O2 b → ¬ S3 b:=fun b hb hs=>(fun hs=>absurd hb.1 (Nat.not_lt.2 hs)) ((hS3 b).1 hs)
 replace B1:=B1.le lb2
 refine bH 8 S3 bC (ha2_p 0 rfl (fun _=>y_fieldAddr)<|ha2_y 1 rfl (fun _ mm=>(y_load (Blk.at (Blk.mod B1 mm (fun hs=>by rcases (hS3 _).1 hs with hs <;> first | omega)) rfl rfl)))<|ha2_p 3 rfl (fun _=>y_fieldAddr)<|ha2_y 4 rfl (fun _ mm=>(y_load (Blk.at (Blk.mod B1 mm (fun hs=>by rcases (hS3 _).1 hs with hs <;> first | omega)) rfl rfl)))<|?_)
 refine aW 2 (cB rfl (bA (l:=([]:List Ver))) (fun v4 h4 q4=>?_))
 obtain ⟨lb4,ow4,sb4⟩:=q4
 have z4:=lb4.1
 obtain ⟨O4,hO4⟩:=mkO (fun x=>O2 x ∨ vblk v4 x)
 refine ⟨Le.mod lb4,?_⟩
 have o4:Ow _ _ _ _ _:=⟨ow4,OkL.nil⟩
 obtain ⟨A5,n5,c5,rfl⟩:=o4.frm
 refine aW 5 (?_)
 replace k0:=k0.ns lb4 hO4 (fun x hv=>(ow4.vb hv).1)
 refine cB rfl (bW aP o4.1 k0.1 (by omega) (Nat.add_le_add o4.2.len k0.2.len)) (fun v6 h6 q6=>?_)
 have L1:=o4.2.len
 have L2:=k0.2.len
 obtain ⟨O6,hO6,z6,ow6⟩:=q6.ow (OkL.app o4.2 k0.2 (by first | omega | (simp only [List.length_append,List.length_take,List.length_drop,List.length_cons,List.length_nil,List.length_set]; omega) | (simp; omega))) O4
 have ms:=Mod.mono (S':=S3) q6.2.1 (fun x _ e=>(hS3 x).2 (by have:=o4.vb e; first | omega | exact .inl (by omega) | simp [e] | simp [dC e]))
 refine ⟨ms,?_⟩
 replace B1:=B1.le lb4
 replace B2:=B2.le lb4
 replace le:=(((le.t lb1).t lb2).t lb4).ap o4 q6 (by omega)
 replace B1:=B1.app q6 (o4.1.ne B1 (by decide))
 replace B2:=B2.app q6 (o4.1.ne B2 (by decide))
 have o4:=ow6
 obtain ⟨A7,n7,c7,rfl⟩:=o4.frm
 refine ha2_p 6 rfl (fun _=>(y_build rfl rfl))<|?_
 refine aW 7 (lN rfl (aK aP B2) (fun v8 h8 q8=>?_))
 obtain ⟨rfl,q8⟩:=q8
 have z8:=q8.1
 replace o4:=o4.st q8 (o4.1.ne B2 (by decide))
 have B2:=q8.2.2
 refine aF (ah1 2) fun r=>?_
 refine hw_rr ?_
 refine aQ rfl (.cons (bT B2) .nil) ?_
 replace le:=le.s q8
 exact ⟨_,by first | rfl | (simp_all [oneOf] <;> omega),le,(o4.wk (by omega)).cast (by first | rfl | (simp_all [oneOf] <;> omega))⟩
set_option maxHeartbeats 1000000 in
theorem iL {w0:World} {h:Heap} {O:Nat → Prop} {l:List Write} {k0v:Value} (k0:Rs h O k0v l)  : HC (XM PP) w0 49 [k0v].toArray h (fun rv h'=>rv = vb (fI l)∧h' = h):=by
 obtain ⟨Ak0,nk0,ck0,rfl⟩:=k0.frm
 have hl:=k0.len
 refine aV 62 [(0,(.slice Ak0 nk0 ck0))] Tryz.func49 (fun r=>?_)
 refine hw_sr (aB aC<|aD ?_)
 refine aI ?_
 refine hw_sr (aB aC<|aD ?_)
 refine cT (fun (k:Nat)=>[(0,(.slice Ak0 nk0 ck0)),(3,vi (k:Int))]) (fun (k:Nat) (h' : Heap)=>h = h' ∧ gS none l = true) (aX (cK (fun (k:Nat)=>[(0,(.slice Ak0 nk0 ck0)),(3,vi (k:Int))]) (fun (k:Nat) (h' : Heap)=>h = h' ∧ gS none l = gS (ahead l k) (l.drop k)∧k ≤ l.length) (fun (k:Nat)=>l.length - k) (0) ag2 ⟨rfl,by simp [ahead]⟩ ?_)) ?_
 rintro k r _ ⟨rfl,e1,e2⟩
 refine aI ?_
 refine hw_sr (aB y_move<|aB y_move<|aB (y_lenA k0.1)<|aB dB<|aD ?_)
 refine aF (ah3 0 3 7) fun r=>?_
 refine aZ (fun g7=>?_) (fun g7=>?_)
 refine aM ?_
 refine aI ?_
 refine aX ?_
 refine aI ?_
 refine qO 49 bC (cZ 0 rfl y_move<|cZ 1 rfl y_move<|?_)
 obtain ⟨x1,hx1⟩:∃ x,l[k]? = some x:=⟨_,List.getElem?_eq_getElem (by omega)⟩
 have sx1:SB x1.key:=k0.2.at hx1
 refine cZ 2 rfl (y_idxA k0.1)<|cZ 3 rfl y_fieldAddr<|cZ 4 rfl (y_load (RdF.cell k0.1 hx1 rfl))<|?_
 refine rI 5 rfl aG pA<|cZ 6 rfl dG<|cZ 7 rfl y_move<|?_
 refine eT (b:=fD x1.key) (fun g17=>?_) (fun g17=>?_)
 refine bP 8 rfl (nT g17) y_move<|bP 9 rfl (nT g17) y_move<|bP 10 rfl (nT g17) (y_idxA k0.1)<|bP 11 rfl (nT g17) y_fieldAddr<|bP 12 rfl (nT g17) (y_load (RdF.cell k0.1 hx1 rfl))<|?_
 refine aBL 13 rfl (nT g17) aG qL<|bP 14 rfl (nT g17) dG<|cZ 15 rfl (aR (nT g17))<|cZ 16 rfl y_move<|?_
 refine eT (b:=gC x1.num) (fun g26=>?_) (fun g26=>?_)
 refine bP 17 rfl (nT g26) y_move<|bP 18 rfl (nT g26) y_move<|bP 19 rfl (nT g26) (y_idxA k0.1)<|bP 20 rfl (nT g26) y_fieldAddr<|bP 21 rfl (nT g26) (y_load (RdF.cell k0.1 hx1 rfl))<|bP 22 rfl (nT g26) y_move<|?_
 refine eT (b:=x1.gone) (fun g32=>?_) (fun g32=>?_)
 refine bP 23 rfl g32 y_move<|bP 24 rfl g32 y_move<|bP 25 rfl g32 (y_idxA k0.1)<|bP 26 rfl g32 y_fieldAddr<|bP 27 rfl g32 (y_load (RdF.cell k0.1 hx1 rfl))<|bP 28 rfl g32 fS<|bP 29 rfl (nT g26) (y_pickT g32)<|cZ 30 rfl (aR (nT g26))<|cZ 31 rfl y_move<|?_
 refine dA (x1.num = 0) (fun g41=>?_) (fun g41=>?_)
 refine bP 32 rfl (nT (dT g41)) y_move<|bP 33 rfl (nT (dT g41)) cU<|bP 34 rfl (nT (dT g41)) y_move<|?_
 refine dA ((0:Int) < (k:Int)) (fun g44=>?_) (fun g44=>?_)
 refine bP 35 rfl (dT g44) y_move<|bP 36 rfl (dT g44) y_move<|bP 37 rfl (dT g44) dQ<|?_
 obtain ⟨x2,hx2⟩:∃ x,l[(((k:Int) - 1)).toNat]? = some x:=⟨_,List.getElem?_eq_getElem (by omega)⟩
 have sx2:SB x2.key:=k0.2.at hx2
 refine bP 38 rfl (dT g44) (gR k0.1)<|bP 39 rfl (dT g44) y_fieldAddr<|bP 40 rfl (dT g44) (y_load (RdF.cell k0.1 hx2 rfl))<|bP 41 rfl (dT g44) y_move<|bP 42 rfl (dT g44) y_move<|bP 43 rfl (dT g44) (y_idxA k0.1)<|bP 44 rfl (dT g44) y_fieldAddr<|bP 45 rfl (dT g44) (y_load (RdF.cell k0.1 hx1 rfl))<|bP 46 rfl (dT g44) rA<|bP 47 rfl (nT (dT g41)) (y_pickT (dT g44))<|cZ 48 rfl (aR (nT (dT g41)))<|fN ?_
 refine aF (ah3 0 3 58) fun r=>?_
 refine dS (fun g58=>?_) (fun g58=>?_)
 refine hw_sr (aB aC<|aD ?_)
 refine hw_rr ?_
 refine aQ rfl (.cons aU .nil) ?_
 exact ⟨by first | rfl | (rw [kG (by omega) hx2] at e1; simp [oneOf,fI,e1,eN hx1]; simp_all [jA]),rfl⟩
 refine aM ?_
 refine aE (aB y_move<|aB bI<|aB aC<|aD ?_)
 exact ⟨k + 1,ag2,⟨rfl,by exact ⟨by rw [e1,eN hx1,gQ hx1,kG (by omega) hx2]; simp_all [jA],by omega⟩⟩,by first | omega | (dsimp only; omega)⟩
 refine bK 35 rfl (neF (dF g44))<|bK 36 rfl (neF (dF g44))<|bK 37 rfl (neF (dF g44))<|bK 38 rfl (neF (dF g44))<|bK 39 rfl (neF (dF g44))<|bK 40 rfl (neF (dF g44))<|bK 41 rfl (neF (dF g44))<|bK 42 rfl (neF (dF g44))<|bK 43 rfl (neF (dF g44))<|bK 44 rfl (neF (dF g44))<|bK 45 rfl (neF (dF g44))<|bK 46 rfl (neF (dF g44))<|bP 47 rfl (nT (dT g41)) (aR (dF g44))<|cZ 48 rfl (aR (nT (dT g41)))<|fN ?_
 refine aF (ah3 0 3 58) fun r=>?_
 refine eZ rfl ?_
 refine aM ?_
 refine aE (aB y_move<|aB bI<|aB aC<|aD ?_)
 exact ⟨k + 1,ag2,⟨rfl,by exact ⟨by rw [e1,eN hx1,gQ hx1,nG g44]; simp_all [jA],by omega⟩⟩,by first | omega | (dsimp only; omega)⟩
 refine bK 32 rfl (neT (nF (dF g41)))<|bK 33 rfl (neT (nF (dF g41)))<|bK 34 rfl (neT (nF (dF g41)))<|bU 35 rfl<|bU 36 rfl<|bU 37 rfl<|bU 38 rfl<|bU 39 rfl<|bU 40 rfl<|bU 41 rfl<|bU 42 rfl<|bU 43 rfl<|bU 44 rfl<|bU 45 rfl<|bU 46 rfl<|bK 47 rfl (neT (nF (dF g41)))<|cZ 48 rfl (y_pickT (nF (dF g41)))<|fN ?_
 refine aF (ah3 0 3 58) fun r=>?_
 refine fP rfl ?_
 refine hw_sr (aB aC<|aD ?_)
 refine hw_rr ?_
 refine aQ rfl (.cons aU .nil) ?_
 exact ⟨by first | rfl | (simp [oneOf,fI,e1,eN hx1]; simp_all [jA]),rfl⟩
 refine bK 23 rfl (neF g32)<|bK 24 rfl (neF g32)<|bK 25 rfl (neF g32)<|bK 26 rfl (neF g32)<|bK 27 rfl (neF g32)<|bK 28 rfl (neF g32)<|bP 29 rfl (nT g26) (aR g32)<|cZ 30 rfl (aR (nT g26))<|cZ 31 rfl y_move<|bP 32 rfl rfl y_move<|bP 33 rfl rfl cU<|bP 34 rfl rfl y_move<|?_
 refine dA ((0:Int) < (k:Int)) (fun g44=>?_) (fun g44=>?_)
 refine bP 35 rfl (dT g44) y_move<|bP 36 rfl (dT g44) y_move<|bP 37 rfl (dT g44) dQ<|?_
 obtain ⟨x2,hx2⟩:∃ x,l[(((k:Int) - 1)).toNat]? = some x:=⟨_,List.getElem?_eq_getElem (by omega)⟩
 have sx2:SB x2.key:=k0.2.at hx2
 refine bP 38 rfl (dT g44) (gR k0.1)<|bP 39 rfl (dT g44) y_fieldAddr<|bP 40 rfl (dT g44) (y_load (RdF.cell k0.1 hx2 rfl))<|bP 41 rfl (dT g44) y_move<|bP 42 rfl (dT g44) y_move<|bP 43 rfl (dT g44) (y_idxA k0.1)<|bP 44 rfl (dT g44) y_fieldAddr<|bP 45 rfl (dT g44) (y_load (RdF.cell k0.1 hx1 rfl))<|bP 46 rfl (dT g44) rA<|bP 47 rfl rfl (y_pickT (dT g44))<|cZ 48 rfl (aR rfl)<|fN ?_
 refine aF (ah3 0 3 58) fun r=>?_
 refine dS (fun g58=>?_) (fun g58=>?_)
 refine hw_sr (aB aC<|aD ?_)
 refine hw_rr ?_
 refine aQ rfl (.cons aU .nil) ?_
 exact ⟨by first | rfl | (rw [kG (by omega) hx2] at e1; simp [oneOf,fI,e1,eN hx1]; simp_all [jA]),rfl⟩
 refine aM ?_
 refine aE (aB y_move<|aB bI<|aB aC<|aD ?_)
 exact ⟨k + 1,ag2,⟨rfl,by exact ⟨by rw [e1,eN hx1,gQ hx1,kG (by omega) hx2]; simp_all [jA],by omega⟩⟩,by first | omega | (dsimp only; omega)⟩
 refine bK 35 rfl (neF (dF g44))<|bK 36 rfl (neF (dF g44))<|bK 37 rfl (neF (dF g44))<|bK 38 rfl (neF (dF g44))<|bK 39 rfl (neF (dF g44))<|bK 40 rfl (neF (dF g44))<|bK 41 rfl (neF (dF g44))<|bK 42 rfl (neF (dF g44))<|bK 43 rfl (neF (dF g44))<|bK 44 rfl (neF (dF g44))<|bK 45 rfl (neF (dF g44))<|bK 46 rfl (neF (dF g44))<|bP 47 rfl rfl (aR (dF g44))<|cZ 48 rfl (aR rfl)<|fN ?_
 refine aF (ah3 0 3 58) fun r=>?_
 refine eZ rfl ?_
 refine aM ?_
 refine aE (aB y_move<|aB bI<|aB aC<|aD ?_)
 exact ⟨k + 1,ag2,⟨rfl,by exact ⟨by rw [e1,eN hx1,gQ hx1,nG g44]; simp_all [jA],by omega⟩⟩,by first | omega | (dsimp only; omega)⟩
 refine bK 17 rfl (neT (nF g26))<|bK 18 rfl (neT (nF g26))<|bK 19 rfl (neT (nF g26))<|bK 20 rfl (neT (nF g26))<|bK 21 rfl (neT (nF g26))<|bK 22 rfl (neT (nF g26))<|bU 23 rfl<|bU 24 rfl<|bU 25 rfl<|bU 26 rfl<|bU 27 rfl<|bU 28 rfl<|bK 29 rfl (neT (nF g26))<|cZ 30 rfl (y_pickT (nF g26))<|cZ 31 rfl y_move<|bK 32 rfl (neT rfl)<|bK 33 rfl (neT rfl)<|bK 34 rfl (neT rfl)<|bU 35 rfl<|bU 36 rfl<|bU 37 rfl<|bU 38 rfl<|bU 39 rfl<|bU 40 rfl<|bU 41 rfl<|bU 42 rfl<|bU 43 rfl<|bU 44 rfl<|bU 45 rfl<|bU 46 rfl<|bK 47 rfl (neT rfl)<|cZ 48 rfl (y_pickT rfl)<|fN ?_
 refine aF (ah3 0 3 58) fun r=>?_
 refine fP rfl ?_
 refine hw_sr (aB aC<|aD ?_)
 refine hw_rr ?_
 refine aQ rfl (.cons aU .nil) ?_
 exact ⟨by first | rfl | (simp [oneOf,fI,e1,eN hx1]; simp_all [jA]),rfl⟩
 refine bK 8 rfl (neT (nF g17))<|bK 9 rfl (neT (nF g17))<|bK 10 rfl (neT (nF g17))<|bK 11 rfl (neT (nF g17))<|bK 12 rfl (neT (nF g17))<|bK 13 rfl (neT (nF g17))<|bK 14 rfl (neT (nF g17))<|cZ 15 rfl (y_pickT (nF g17))<|cZ 16 rfl y_move<|bK 17 rfl (neT rfl)<|bK 18 rfl (neT rfl)<|bK 19 rfl (neT rfl)<|bK 20 rfl (neT rfl)<|bK 21 rfl (neT rfl)<|bK 22 rfl (neT rfl)<|bU 23 rfl<|bU 24 rfl<|bU 25 rfl<|bU 26 rfl<|bU 27 rfl<|bU 28 rfl<|bK 29 rfl (neT rfl)<|cZ 30 rfl (y_pickT rfl)<|cZ 31 rfl y_move<|bK 32 rfl (neT rfl)<|bK 33 rfl (neT rfl)<|bK 34 rfl (neT rfl)<|bU 35 rfl<|bU 36 rfl<|bU 37 rfl<|bU 38 rfl<|bU 39 rfl<|bU 40 rfl<|bU 41 rfl<|bU 42 rfl<|bU 43 rfl<|bU 44 rfl<|bU 45 rfl<|bU 46 rfl<|bK 47 rfl (neT rfl)<|cZ 48 rfl (y_pickT rfl)<|fN ?_
 refine aF (ah3 0 3 58) fun r=>?_
 refine fP rfl ?_
 refine hw_sr (aB aC<|aD ?_)
 refine hw_rr ?_
 refine aQ rfl (.cons aU .nil) ?_
 exact ⟨by first | rfl | (simp [oneOf,fI,e1,eN hx1]; simp_all [jA]),rfl⟩
 refine cI ?_
 exact ⟨k,ag2,⟨rfl,by exact e1.trans (uW (by omega))⟩⟩
 rintro k r _ ⟨rfl,e1⟩
 refine hw_sr (aB y_move<|aB (y_lenA k0.1)<|aB y_leq<|aB aC<|aD ?_)
 refine aF (ah1 2) fun r=>?_
 refine hw_rr ?_
 refine aQ rfl (.cons aU .nil) ?_
 exact ⟨by first | rfl | (simp [oneOf,fI,e1]),rfl⟩
set_option maxHeartbeats 1000000 in
theorem zX {w0:World} {h:Heap} {O:Nat → Prop} {v:cD} {k0v:Value} {key:Str} (k0:Rs h O k0v v.list) (OB0:OB h O) (s0:SB key:=by first | assumption | omega | (simp; omega)):HC (XM PP) w0 129 [.agg #[vi v.now,k0v],vs key].toArray h (fun rv h'=>rv = vi (qD v.list key)∧Le h h'):=by
 obtain ⟨Ak0,nk0,ck0,rfl⟩:=k0.frm
 have le:=Le.refl h
 have OBe:=OB0
 have hl:=k0.len
 refine aV 38 [(0,.agg #[vi v.now,(.slice Ak0 nk0 ck0)]),(1,vs key)] Tryz.func129 (fun r=>?_)
 refine hw_sr (bE cW (fun v1 h1 q1=>?_))
 obtain ⟨b1,O1,rfl,eb1,sb1,lb1,B1,hO1⟩:=q1.ox O
 refine aB aC<|aD ?_
 refine hw_sr (aB aC<|aD ?_)
 refine aI ?_
 refine hw_sr (aB aC<|aD ?_)
 refine cT (fun (gx:Nat × Int)=>match gx with | (k,n)=>[(1,vs key),(2,.pointer (some ⟨b1,0,none⟩)),(5,vi n),(6,vi (k:Int))]) (fun (gx:Nat × Int) (h' : Heap)=>match gx with | (k,n)=>Le h1 h' ∧ n = qD v.list key) (aX (cK (fun (gx:Nat × Int)=>match gx with | (k,n)=>[(1,vs key),(2,.pointer (some ⟨b1,0,none⟩)),(5,vi n),(6,vi (k:Int))]) (fun (gx:Nat × Int) (h' : Heap)=>match gx with | (k,n)=>Le h1 h' ∧ k ≤ v.list.length∧n = (v.list.take k).foldl (qK key) 0) (fun (gx:Nat × Int)=>match gx with | (k,n)=>v.list.length - k) (0,0) ag4 ⟨Le.refl _,by simp⟩ ?_)) ?_
 rintro ⟨k,n⟩ r hl2 ⟨lp2,e1,e2⟩
 have zl2:=lp2.1
 have lr2:=lp2
 refine aI ?_
 refine aI ?_
 replace B1:=B1.le lp2
 refine aE (aB y_move<|aB y_fieldAddr<|aB (y_load (Blk.at B1 rfl rfl))<|aB (y_lenA k0.1)<|aB dB<|aD ?_)
 refine aF (ah5 1 2 5 6 11) fun r=>?_
 refine aZ (fun g11=>?_) (fun g11=>?_)
 refine aM ?_
 refine aI ?_
 refine aX ?_
 refine hw_sr (aB y_fieldAddr<|aB (y_load (Blk.at B1 rfl rfl))<|aB y_move<|?_)
 obtain ⟨x1,hx1⟩:∃ x,v.list[k]? = some x:=⟨_,List.getElem?_eq_getElem (by omega)⟩
 have sx1:SB x1.key:=k0.2.at hx1
 refine aB (y_idxA k0.1)<|aB y_fieldAddr<|?_
 replace k0:=(k0.nb lb1 hO1 eb1).le lp2
 refine aB (y_load (RdF.cell k0.1 hx1 rfl))<|aB y_move<|aB y_seql<|aD ?_
 refine aF (ah5 1 2 5 6 21) fun r=>?_
 refine aZ (fun g21=>?_) (fun g21=>?_)
 refine qO 16 bC (cZ 0 rfl y_move<|cZ 1 rfl y_fieldAddr<|cZ 2 rfl (y_load (Blk.at B1 rfl rfl))<|cZ 3 rfl y_move<|cZ 4 rfl (y_idxA k0.1)<|cZ 5 rfl y_fieldAddr<|cZ 6 rfl (y_load (RdF.cell k0.1 hx1 rfl))<|cZ 7 rfl y_fieldAddr<|cZ 8 rfl (y_load (Blk.at B1 rfl rfl))<|cZ 9 rfl y_move<|cZ 10 rfl (y_idxA k0.1)<|cZ 11 rfl y_fieldAddr<|cZ 12 rfl (y_load (RdF.cell k0.1 hx1 rfl))<|?_)
 refine rI 13 rfl aG aBE<|rI 14 rfl aG aBE<|cZ 15 rfl aC<|fN ?_
 refine aF (ah4 1 2 5 6) fun r=>?_
 refine aE (aB y_move<|aB bI<|aB aC<|aD ?_)
 exact ⟨(k + 1,max n (max x1.fr x1.to)),ag4,⟨lr2,by exact ⟨by omega,by rw [dK hx1,← e2]; simp_all [qK]⟩⟩,by first | omega | (dsimp only; omega)⟩
 refine aM ?_
 refine aE (aB y_move<|aB bI<|aB aC<|aD ?_)
 exact ⟨(k + 1,n),ag4,⟨lr2,by exact ⟨by omega,by rw [dK hx1,← e2]; simp_all [qK]⟩⟩,by first | omega | (dsimp only; omega)⟩
 refine cI ?_
 exact ⟨(k,n),ag4,⟨lr2,by rw [e2,qD,List.take_of_length_le (by omega)]⟩⟩
 rintro ⟨k,n⟩ r hl2 ⟨lp2,e1⟩
 have zl2:=lp2.1
 refine hw_sr (aB y_move<|aB aC<|aD ?_)
 refine hw_rr ?_
 refine aQ rfl (.cons aU .nil) ?_
 replace le:=(le.t lb1).t lp2
 exact ⟨by first | rfl | (simp_all [oneOf] <;> omega),le⟩
set_option maxHeartbeats 1000000 in
theorem qW {w0:World} {h:Heap} {O:Nat → Prop} {v:cD} {k0v:Value} (k0:Rs h O k0v v.list) (OB0:OB h O)  : HC (XM PP) w0 73 [.agg #[vi v.now,k0v]].toArray h (fun rv h'=>rv = vb (iH v)∧Le h h'):=by
 obtain ⟨Ak0,nk0,ck0,rfl⟩:=k0.frm
 have le:=Le.refl h
 have OBe:=OB0
 have hl:=k0.len
 refine aV 65 [(0,.agg #[vi v.now,(.slice Ak0 nk0 ck0)])] Tryz.func73 (fun r=>?_)
 refine hw_sr (bE cW (fun v1 h1 q1=>?_))
 obtain ⟨b1,O1,rfl,eb1,sb1,lb1,B1,hO1⟩:=q1.ox O
 refine aB aC<|aD ?_
 refine aI ?_
 refine hw_sr (aB y_fieldAddr<|aB (y_load (Blk.at B1 rfl rfl))<|aB dB<|aB y_move<|?_)
 refine bB 4 [(1,.pointer (some ⟨b1,0,none⟩)),(12,vb ((decide (v.now < 0)) || (decide ((40:Int) < v.now))))] (fun r=>?_) (fun jn=>?_)
 refine aB y_move<|?_
 refine bB 5 [(1,.pointer (some ⟨b1,0,none⟩)),(18,vb (((decide (v.now < 0)) || (decide ((40:Int) < v.now))) || (decide ((60:Int) < (v.list.length:Int)))))] (fun r=>?_) (fun jn=>?_)
 refine aD ?_
 refine bF (fun g18=>?_) (fun g18=>?_)
 have g18':=g18
 simp at g18'
 refine hw_sr (aB aC<|aD ?_)
 refine hw_rr ?_
 refine aQ rfl (.cons aU .nil) ?_
 replace le:=le.t lb1
 exact ⟨by first | rfl | (first | (simp_all [oneOf,iH]; done) | (simp_all [oneOf,iH]; intros; omega)),le⟩
 have g18':=g18
 simp at g18'
 refine aM ?_
 refine aI ?_
 refine hw_sr (aB aC<|aD ?_)
 refine cT (fun (k:Nat)=>[(1,.pointer (some ⟨b1,0,none⟩)),(3,vi (k:Int))]) (fun (k:Nat) (h' : Heap)=>Le h1 h' ∧ kP v.now none v.list = true) (aX (cK (fun (k:Nat)=>[(1,.pointer (some ⟨b1,0,none⟩)),(3,vi (k:Int))]) (fun (k:Nat) (h' : Heap)=>Le h1 h' ∧ kP v.now none v.list = kP v.now (ahead v.list k) (v.list.drop k)∧k ≤ v.list.length) (fun (k:Nat)=>v.list.length - k) (0) ag2 ⟨Le.refl _,by simp [ahead]⟩ ?_)) ?_
 rintro k r hl2 ⟨lp2,e1,e2⟩
 have zl2:=lp2.1
 have lr2:=lp2
 refine aI ?_
 refine aI ?_
 replace B1:=B1.le lp2
 refine aE (aB y_move<|aB y_fieldAddr<|aB (y_load (Blk.at B1 rfl rfl))<|aB (y_lenA k0.1)<|aB dB<|aD ?_)
 refine aF (ah3 1 3 23) fun r=>?_
 refine aZ (fun g23=>?_) (fun g23=>?_)
 refine aM ?_
 refine aI ?_
 refine aX ?_
 refine aI ?_
 replace k0:=(k0.nb lb1 hO1 eb1).le lp2
 have Rk0:=k0
 obtain ⟨S3,hS3⟩:=mkO (fun b=>hl2.size ≤ b)
 have mR3:Mod S3 hl2 hl2:=Mod.refl _
 have hd3:∀ b,b < hl2.size∧¬ O1 b → ¬ S3 b:=fun b hb hs=>(fun hs=>absurd hb.1 (Nat.not_lt.2 hs)) ((hS3 b).1 hs)
 refine bH 28 S3 bC (ha2_p 0 rfl (fun _=>y_fieldAddr)<|ha2_y 1 rfl (fun _ mm=>(y_load (Blk.at (Blk.mod B1 mm (fun hs=>by rcases (hS3 _).1 hs with hs <;> first | omega)) rfl rfl)))<|ha2_p 2 rfl (fun _=>y_move)<|?_)
 obtain ⟨x1,hx1⟩:∃ x,v.list[k]? = some x:=⟨_,List.getElem?_eq_getElem (by omega)⟩
 have sx1:SB x1.key:=k0.2.at hx1
 refine ha2_y 3 rfl (fun _ _=>(y_idxA k0.1))<|ha2_y 4 rfl (fun _ mm=>(y_loadEl (RdF.mod Rk0.1 (mR3.trans mm) hd3) hx1))<|ha2_p 5 rfl (fun _=>y_fieldAddr)<|ha2_y 6 rfl (fun _ mm=>(y_load (Blk.at (Blk.mod B1 mm (fun hs=>by rcases (hS3 _).1 hs with hs <;> first | omega)) rfl rfl)))<|?_
 replace OB0:=(OB0.newB sb1 hO1 eb1).leO lp2.1
 refine aW 7 (cC rfl aG (l2Ver_c (x:=x1) OB0) (fun v4 h4 q4=>?_))
 obtain ⟨rfl,lc4⟩:=q4
 have z4:=lc4.1
 refine ⟨Le.mod lc4,?_⟩
 refine ha2_p 8 rfl (fun _=>dG)<|ha2_p 9 rfl (fun _=>y_move)<|?_
 refine eT (b:=yP x1 v.now) (fun g35=>?_) (fun g35=>?_)
 refine ha2_gp 10 rfl (nT g35) (fun _=>y_move)<|ha2_gp 11 rfl (nT g35) (fun _=>cU)<|ha2_gp 12 rfl (nT g35) (fun _=>y_move)<|?_
 refine dA ((0:Int) < (k:Int)) (fun g38=>?_) (fun g38=>?_)
 replace B1:=B1.le lc4
 refine ha2_gp 13 rfl (dT g38) (fun _=>y_fieldAddr)<|ha2_gy 14 rfl (dT g38) (fun _ mm=>(y_load (Blk.at (Blk.mod B1 mm (fun hs=>by rcases (hS3 _).1 hs with hs <;> first | omega)) rfl rfl)))<|ha2_gp 15 rfl (dT g38) (fun _=>y_move)<|?_
 refine ha2_gp 16 rfl (dT g38) (fun _=>dQ)<|?_
 obtain ⟨x2,hx2⟩:∃ x,v.list[(((k:Int) - 1)).toNat]? = some x:=⟨_,List.getElem?_eq_getElem (by omega)⟩
 have sx2:SB x2.key:=k0.2.at hx2
 replace mR3:=mR3.tl lc4
 refine ha2_gy 17 rfl (dT g38) (fun _ _=>(gR k0.1))<|ha2_gy 18 rfl (dT g38) (fun _ mm=>(y_loadEl (RdF.mod Rk0.1 (mR3.trans mm) hd3) hx2))<|ha2_gp 19 rfl (dT g38) (fun _=>y_fieldAddr)<|ha2_gy 20 rfl (dT g38) (fun _ mm=>(y_load (Blk.at (Blk.mod B1 mm (fun hs=>by rcases (hS3 _).1 hs with hs <;> first | omega)) rfl rfl)))<|ha2_gp 21 rfl (dT g38) (fun _=>y_move)<|ha2_gy 22 rfl (dT g38) (fun _ _=>(y_idxA k0.1))<|ha2_gy 23 rfl (dT g38) (fun _ mm=>(y_loadEl (RdF.mod Rk0.1 (mR3.trans mm) hd3) hx1))<|?_
 refine aW 24 (?_)
 replace OB0:=OB0.leO lc4.1
 refine aBH rfl (dT g38) aG (aCa (a:=x2) (b:=x1) OB0) (fun v5 h5 q5=>?_)
 obtain ⟨rfl,lc5⟩:=q5
 have z5:=lc5.1
 refine ⟨Le.mod lc5,?_⟩
 refine ha2_gp 25 rfl (dT g38) (fun _=>dG)<|ha2_gp 26 rfl (nT g35) (fun _=>(y_pickT (dT g38)))<|ha2_p 27 rfl (fun _=>(aR (nT g35)))<|cN ?_
 refine aF (ah3 1 3 53) fun r=>?_
 refine dS (fun g53=>?_) (fun g53=>?_)
 refine hw_sr (aB aC<|aD ?_)
 refine hw_rr ?_
 refine aQ rfl (.cons aU .nil) ?_
 replace le:=(((le.t lb1).t lp2).t lc4).t lc5
 exact ⟨by first | rfl | (rw [kG (by omega) hx2] at e1; simp [oneOf,iH,e1,kO hx1]; simp_all),le⟩
 refine aM ?_
 refine aE (aB y_move<|aB bI<|aB aC<|aD ?_)
 replace lr2:=(lr2.t lc4).t lc5
 exact ⟨k + 1,ag2,⟨lr2,by exact ⟨by rw [e1,kO hx1,gQ hx1,kG (by omega) hx2]; simp_all,by omega⟩⟩,by first | omega | (dsimp only; omega)⟩
 refine bR 13 rfl (neF (dF g38))<|bR 14 rfl (neF (dF g38))<|bR 15 rfl (neF (dF g38))<|bR 16 rfl (neF (dF g38))<|bR 17 rfl (neF (dF g38))<|bR 18 rfl (neF (dF g38))<|bR 19 rfl (neF (dF g38))<|bR 20 rfl (neF (dF g38))<|bR 21 rfl (neF (dF g38))<|bR 22 rfl (neF (dF g38))<|bR 23 rfl (neF (dF g38))<|bR 24 rfl (neF (dF g38))<|bR 25 rfl (neF (dF g38))<|ha2_gp 26 rfl (nT g35) (fun _=>(aR (dF g38)))<|ha2_p 27 rfl (fun _=>(aR (nT g35)))<|cN ?_
 refine aF (ah3 1 3 53) fun r=>?_
 refine eZ rfl ?_
 refine aM ?_
 refine aE (aB y_move<|aB bI<|aB aC<|aD ?_)
 replace lr2:=lr2.t lc4
 exact ⟨k + 1,ag2,⟨lr2,by exact ⟨by rw [e1,kO hx1,gQ hx1,nG g38]; simp_all,by omega⟩⟩,by first | omega | (dsimp only; omega)⟩
 refine bR 10 rfl (neT (nF g35))<|bR 11 rfl (neT (nF g35))<|bR 12 rfl (neT (nF g35))<|jU 13 rfl<|jU 14 rfl<|jU 15 rfl<|jU 16 rfl<|jU 17 rfl<|jU 18 rfl<|jU 19 rfl<|jU 20 rfl<|jU 21 rfl<|jU 22 rfl<|jU 23 rfl<|jU 24 rfl<|jU 25 rfl<|bR 26 rfl (neT (nF g35))<|ha2_p 27 rfl (fun _=>(y_pickT (nF g35)))<|cN ?_
 refine aF (ah3 1 3 53) fun r=>?_
 refine fP rfl ?_
 refine hw_sr (aB aC<|aD ?_)
 refine hw_rr ?_
 refine aQ rfl (.cons aU .nil) ?_
 replace le:=((le.t lb1).t lp2).t lc4
 exact ⟨by first | rfl | (simp [oneOf,iH,e1,kO hx1]; simp_all),le⟩
 refine cI ?_
 exact ⟨k,ag2,⟨lr2,by exact e1.trans (yN (by omega))⟩⟩
 rintro k r hl2 ⟨lp2,e1⟩
 have zl2:=lp2.1
 refine aI ?_
 refine hw_sr (aB aC<|aD ?_)
 refine cT (fun (k:Nat)=>[(1,.pointer (some ⟨b1,0,none⟩)),(4,vi (k:Int))]) (fun (k:Nat) (h' : Heap)=>Le hl2 h' ∧ oP v.list (v.now + 1).toNat = true) (aX (cK (fun (k:Nat)=>[(1,.pointer (some ⟨b1,0,none⟩)),(4,vi (k:Int))]) (fun (k:Nat) (h' : Heap)=>Le hl2 h' ∧ oP v.list k = true∧(k:Int) ≤ v.now + 1) (fun (k:Nat)=>(v.now + 1).toNat - k) (0) ag2 ⟨Le.refl _,by exact ⟨by simp [oP],by omega⟩⟩ ?_)) ?_
 rintro k r hl6 ⟨lp6,e3,e4⟩
 have zl6:=lp6.1
 have lr6:=lp6
 refine aI ?_
 refine aI ?_
 replace B1:=(B1.le lp2).le lp6
 refine aE (aB y_move<|aB y_fieldAddr<|aB (y_load (Blk.at B1 rfl rfl))<|aB y_leq<|aD ?_)
 refine aF (ah3 1 4 57) fun r=>?_
 refine aZ (fun g57=>?_) (fun g57=>?_)
 refine aM ?_
 refine aI ?_
 refine aX ?_
 refine hw_sr (aB (y_loadB B1 0 _)<|aB y_move<|?_)
 replace k0:=((k0.nb lb1 hO1 eb1).le lp2).le lp6
 replace OB0:=((OB0.newB sb1 hO1 eb1).leO lp2.1).leO lp6.1
 refine bL aG (nZ (v:=(⟨v.now,v.list⟩:cD)) k0 OB0) (fun v7 h7 q7=>?_)
 obtain ⟨lc7,k7_1⟩:=q7
 have z7:=lc7.1
 replace k7_1:=k7_1.end OB0
 obtain ⟨A8,n8,c8,rfl⟩:=k7_1.frm
 refine aB (y_lenA k7_1.1)<|aB cU<|aD ?_
 refine aF (ah3 1 4 64) fun r=>?_
 refine aZ (fun g64=>?_) (fun g64=>?_)
 refine hw_sr (aB aC<|aD ?_)
 refine hw_rr ?_
 refine aQ rfl (.cons aU .nil) ?_
 replace le:=(((le.t lb1).t lp2).t lp6).t lc7
 exact ⟨by first | rfl | (simp [oneOf,iH,aAH (k:=k) (n:=(v.now + 1).toNat) (by omega) (by assumption)]),le⟩
 refine aM ?_
 refine aE (aB y_move<|aB bI<|aB aC<|aD ?_)
 replace lr6:=lr6.t lc7
 exact ⟨k + 1,ag2,⟨lr6,by exact ⟨by simp_all [oP,List.range_succ],by omega⟩⟩,by first | omega | (dsimp only; omega)⟩
 refine cI ?_
 exact ⟨k,ag2,⟨lr6,by rw [show (v.now + 1).toNat = k by omega]; exact e3⟩⟩
 rintro k r hl6 ⟨lp6,e3⟩
 have zl6:=lp6.1
 refine hw_sr (aB aC<|aD ?_)
 refine hw_rr ?_
 refine aQ rfl (.cons aU .nil) ?_
 replace le:=((le.t lb1).t lp2).t lp6
 exact ⟨by first | rfl | (first | (simp_all [oneOf,iH]; done) | (simp_all [oneOf,iH]; intros; omega)),le⟩
 refine eT (b:=((decide (v.now < 0)) || (decide ((40:Int) < v.now)))) (fun g13=>?_) (fun g13=>?_)
 have g13':=g13
 simp at g13'
 refine aN (neT g13)<|aN (neT g13)<|aN (neT g13)<|aN (neT g13)<|aB (y_pickT g13)<|?_
 exact jn _ (aA (aA aJ (by simp [aH,g13])))
 have g13':=g13
 simp at g13'
 refine aO g13 y_fieldAddr<|aO g13 (y_load (Blk.at B1 rfl rfl))<|aO g13 (y_lenA k0.1)<|aO g13 cU<|aB (aR g13)<|?_
 exact jn _ (aA (aA aJ (by simp [aH,g13])))
 refine dA (v.now < 0) (fun g8=>?_) (fun g8=>?_)
 refine aN (neT (dT g8))<|aN (neT (dT g8))<|aN (neT (dT g8))<|aB (y_pickT (dT g8))<|?_
 exact jn _ (aA (aA aJ (by simp [aH,g8])))
 refine aO (dF g8) y_fieldAddr<|aO (dF g8) (y_load (Blk.at B1 rfl rfl))<|aO (dF g8) cU<|aB (aR (dF g8))<|?_
 exact jn _ (aA (aA aJ (by simp [aH,g8])))
end
section
open Go.Conc
set_option maxHeartbeats 1000000 in
theorem aB9 {w0:World} {h:Heap} {O:Nat → Prop} {l:List Ver} {k0v:Value} {B:Nat} {w:Write} {now:Int} (k0:Ow h B k0v l 109) (mo:∀ x,vblk k0v x → O x) (hB:B ≤ h.size) (OB0:OB h O) (s0:SB w.key:=by first | assumption | omega | (simp; omega)) (hl1:l.length ≤ 1000000:=by first | omega | (simp; omega)):HC (XM PP) w0 72 [k0v,.agg #[vs w.key,vi w.num,vb w.gone],vi now].toArray h (fun rv h'=>App h B k0v (fU l w now) 109 rv h' ∧ OkL (fU l w now)):=by
 obtain ⟨Ak0,nk0,ck0,rfl⟩:=k0.frm
 have le:=Mod.refl (S:=vblk (.slice Ak0 nk0 ck0)) h
 have fr:∀ x,vblk (.slice Ak0 nk0 ck0) x → vblk (.slice Ak0 nk0 ck0) x ∨ h.size ≤ x:=fun x hv=>.inl hv
 have OBe:=OB0
 have hl:=k0.len
 have hp:=yO l w.key
 refine aV 68 [(0,(.slice Ak0 nk0 ck0)),(1,.agg #[vs w.key,vi w.num,vb w.gone]),(2,vi now)] Tryz.func72 (fun r=>?_)
 refine hw_sr (bE cW (fun v1 h1 q1=>?_))
 obtain ⟨b1,O1,rfl,eb1,sb1,lb1,B1,hO1⟩:=q1.ox O
 refine aB aC<|aD ?_
 refine hw_sr (aB aC<|aD ?_)
 refine aI ?_
 refine hw_sr (aB aC<|aD ?_)
 replace k0:=k0.le lb1
 replace le:=le.tl lb1
 replace OB0:=OB0.newB sb1 hO1 eb1
 refine cT (fun (gx:Nat × (List Ver) × Nat × (Nat → Prop) × Value)=>match gx with | (k,m,a,OL2,ov)=>[(0,ov),(2,vi now),(4,.pointer (some ⟨b1,0,none⟩)),(7,vi (a:Int)),(8,vi (k:Int))]) (fun (gx:Nat × (List Ver) × Nat × (Nat → Prop) × Value) (h' : Heap)=>match gx with | (k,m,a,OL2,ov)=>Mod (vblk (.slice Ak0 nk0 ck0)) h h' ∧ Mod O1 h1 h' ∧ (∀ x,OL2 x → O1 x ∨ h1.size ≤ x)∧(∀ x,O1 x → OL2 x)∧OB h' OL2∧Blk h' b1 [vs w.key,vi w.num,vb w.gone] 107∧OL2 b1∧Ow h' B ov m 109∧(∀ x,vblk ov x → OL2 x)∧(∀ x,vblk ov x → vblk (.slice Ak0 nk0 ck0) x ∨ h.size ≤ x)∧m = l.map (gB w now)∧a = hY l w.key∧a ≤ l.length) (aX (cK (fun (gx:Nat × (List Ver) × Nat × (Nat → Prop) × Value)=>match gx with | (k,m,a,OL2,ov)=>[(0,ov),(2,vi now),(4,.pointer (some ⟨b1,0,none⟩)),(7,vi (a:Int)),(8,vi (k:Int))]) (fun (gx:Nat × (List Ver) × Nat × (Nat → Prop) × Value) (h' : Heap)=>match gx with | (k,m,a,OL2,ov)=>Mod (vblk (.slice Ak0 nk0 ck0)) h h' ∧ Mod O1 h1 h' ∧ (∀ x,OL2 x → O1 x ∨ h1.size ≤ x)∧(∀ x,O1 x → OL2 x)∧OB h' OL2∧Blk h' b1 [vs w.key,vi w.num,vb w.gone] 107∧OL2 b1∧Ow h' B ov m 109∧(∀ x,vblk ov x → OL2 x)∧(∀ x,vblk ov x → vblk (.slice Ak0 nk0 ck0) x ∨ h.size ≤ x)∧m = iI l w now k∧k ≤ l.length∧a = hY (l.take k) w.key∧a ≤ k) (fun (gx:Nat × (List Ver) × Nat × (Nat → Prop) × Value)=>match gx with | (k,m,a,OL2,ov)=>l.length - k) (0,l,0,O1,(.slice Ak0 nk0 ck0)) ag5 ⟨le,Mod.refl _,fun x hx=>.inl hx,fun x hx=>hx,OB0,B1,(ir hO1),k0,(fun x hv=>(hO1 x).2 (.inl (mo x hv))),fr,by simp [iI,hY]⟩ ?_)) ?_
 rintro ⟨k,m,a,OL2,ov⟩ r hl2 ⟨le,lp2,la2,lb2,lo2,B1,mB1,k0,mk0,fr,e1,e2,e3,e4⟩
 obtain ⟨A3,n3,c3,rfl⟩:=k0.frm
 have zl2:=lp2.1
 have hm:m.length = l.length:=by rw [e1]; exact aAI e2
 have lr2:=lp2
 have lx2:=la2
 refine aI ?_
 refine hw_sr (aB y_move<|aB y_move<|aB (y_lenA k0.1.rd)<|aB dB<|aD ?_)
 refine aF (ah6 0 2 4 7 8 13) fun r=>?_
 refine aZ (fun g13=>?_) (fun g13=>?_)
 refine aM ?_
 refine aI ?_
 refine aX ?_
 refine aI ?_
 refine aI ?_
 refine fR (bN y_move<|bN y_move<|?_)
 obtain ⟨x1,hx1⟩:∃ x,m[k]? = some x:=⟨_,List.getElem?_eq_getElem (by omega)⟩
 have sx1:SB x1.key:=k0.2.at hx1
 have hy1:l[k]? = some x1:=by rw [← aAJ (w:=w) (now:=now),← e1]; exact hx1
 refine bN (y_idxA k0.1.rd)<|bN y_fieldAddr<|bN (y_load (RdF.cell k0.1.rd hx1 rfl))<|bN y_fieldAddr<|bN (y_load (Blk.at B1 rfl rfl))<|bN y_seql<|bN y_move<|?_
 refine mJ 7 [(0,(.slice A3 n3 c3)),(2,vi now),(4,.pointer (some ⟨b1,0,none⟩)),(7,vi (a:Int)),(8,vi (k:Int)),(31,vb ((decide (x1.key = w.key)) && (decide (x1.to = 0))))] (fun r=>?_) (fun jn=>?_)
 refine gO ?_
 refine bF (fun g31=>?_) (fun g31=>?_)
 have g31':=g31
 simp at g31'
 refine aE (aB y_move<|aB y_move<|aB y_move<|aB (y_idxA k0.1.rd)<|aB y_fieldAddr<|bO (aBP aP k0.1 hx1 (⟨x1.key,x1.num,x1.fr,now⟩:Ver) 3 [vi now]) (fun v4 h4 q4=>?_))
 obtain ⟨rfl,q4⟩:=q4
 have z4:=q4.2.1.1
 replace B1:=B1.sel q4 (k0.1.ne B1 (by decide))
 have k0:Ow h4 _ (.slice A3 n3 c3) (m.set k (⟨x1.key,x1.num,x1.fr,now⟩:Ver)) 109:=⟨q4.1,k0.2.set (by first | exact k0.2.at hx1 | (show SB _; first | assumption | omega | (simp; omega)))⟩
 have ls4:(m.set k (⟨x1.key,x1.num,x1.fr,now⟩:Ver)).length = m.length:=by simp
 refine aD ?_
 refine aF (ah5 0 2 4 7 8) fun r=>?_
 refine aI ?_
 refine fR (bN y_move<|bN y_move<|?_)
 replace lr2:=lr2.slO q4 (fun x hv=>lx2 x (mk0 x hv))
 obtain ⟨x2,hx2⟩:∃ x,((m.set k (⟨x1.key,x1.num,x1.fr,now⟩:Ver)))[k]? = some x:=⟨_,List.getElem?_eq_getElem (by omega)⟩
 have sx2:SB x2.key:=k0.2.at hx2
 have hk2:x2 = (⟨x1.key,x1.num,x1.fr,now⟩:Ver):=by rw [List.getElem?_set_self (by omega)] at hx2; exact (Option.some.inj hx2).symm
 refine bN (y_idxA k0.1.rd)<|bN y_fieldAddr<|bN (y_load (RdF.cell k0.1.rd hx2 rfl))<|bN y_fieldAddr<|bN (y_load (Blk.at B1 rfl rfl))<|bN aAG<|gO ?_
 refine aF (ah6 0 2 4 7 8 44) fun r=>?_
 refine bF (fun g44=>?_) (fun g44=>?_)
 have g44':=g44
 simp at g44'
 refine aE (aB y_move<|aB bI<|aB aC<|aD ?_)
 refine aE (aB y_move<|aB bI<|aB aC<|aD ?_)
 have OB0:=lo2
 replace le:=le.slO q4 fr
 replace OB0:=OB0.leO (Nat.le_of_eq q4.2.2.symm)
 exact ⟨(k + 1,(m.set k (⟨x1.key,x1.num,x1.fr,now⟩:Ver)),k + 1,OL2,(.slice A3 n3 c3)),ag5,⟨le,lr2,lx2,fun x hx=>(lb2 _ hx),OB0,B1,mB1,k0,mk0,fr,by exact ⟨by rw [← pO hy1,← e1]; simp_all [gB],by omega,by rw [jW hy1]; simp_all [wK],by omega⟩⟩,by first | omega | (dsimp only; omega)⟩
 have g44':=g44
 simp at g44'
 refine aM ?_
 refine aE (aB y_move<|aB bI<|aB aC<|aD ?_)
 have OB0:=lo2
 replace le:=le.slO q4 fr
 replace OB0:=OB0.leO (Nat.le_of_eq q4.2.2.symm)
 exact ⟨(k + 1,(m.set k (⟨x1.key,x1.num,x1.fr,now⟩:Ver)),a,OL2,(.slice A3 n3 c3)),ag5,⟨le,lr2,lx2,fun x hx=>(lb2 _ hx),OB0,B1,mB1,k0,mk0,fr,by exact ⟨by rw [← pO hy1,← e1]; simp_all [gB],by omega,by rw [jW hy1]; simp_all [wK],by omega⟩⟩,by first | omega | (dsimp only; omega)⟩
 have g31':=g31
 simp at g31'
 refine aM ?_
 refine aI ?_
 refine fR (bN y_move<|bN y_move<|bN (y_idxA k0.1.rd)<|bN y_fieldAddr<|bN (y_load (RdF.cell k0.1.rd hx1 rfl))<|bN y_fieldAddr<|bN (y_load (Blk.at B1 rfl rfl))<|bN aAG<|gO ?_)
 refine aF (ah6 0 2 4 7 8 44) fun r=>?_
 refine bF (fun g44=>?_) (fun g44=>?_)
 have g44':=g44
 simp at g44'
 refine aE (aB y_move<|aB bI<|aB aC<|aD ?_)
 refine aE (aB y_move<|aB bI<|aB aC<|aD ?_)
 have OB0:=lo2
 exact ⟨(k + 1,m,k + 1,OL2,(.slice A3 n3 c3)),ag5,⟨le,lr2,lx2,fun x hx=>(lb2 _ hx),OB0,B1,mB1,k0,mk0,fr,by exact ⟨by rw [← rT hy1 (by simp [gB]; simp_all),← e1],by omega,by rw [jW hy1]; simp_all [wK],by omega⟩⟩,by first | omega | (dsimp only; omega)⟩
 have g44':=g44
 simp at g44'
 refine aM ?_
 refine aE (aB y_move<|aB bI<|aB aC<|aD ?_)
 have OB0:=lo2
 exact ⟨(k + 1,m,a,OL2,(.slice A3 n3 c3)),ag5,⟨le,lr2,lx2,fun x hx=>(lb2 _ hx),OB0,B1,mB1,k0,mk0,fr,by exact ⟨by rw [← rT hy1 (by simp [gB]; simp_all),← e1],by omega,by rw [jW hy1]; simp_all [wK],by omega⟩⟩,by first | omega | (dsimp only; omega)⟩
 refine dA (x1.key = w.key) (fun g24=>?_) (fun g24=>?_)
 refine dJ (dT g24) y_move<|dJ (dT g24) y_move<|dJ (dT g24) (y_idxA k0.1.rd)<|dJ (dT g24) y_fieldAddr<|dJ (dT g24) (y_load (RdF.cell k0.1.rd hx1 rfl))<|dJ (dT g24) bM<|bN (y_pickT (dT g24))<|?_
 exact jn _ (aA (aA (aA (aA (aA (aA aJ (by simp [aH,g24])))))))
 refine dI (neF (dF g24))<|dI (neF (dF g24))<|dI (neF (dF g24))<|dI (neF (dF g24))<|dI (neF (dF g24))<|dI (neF (dF g24))<|bN (aR (dF g24))<|?_
 exact jn _ (aA (aA (aA (aA (aA (aA aJ (by simp [aH,g24])))))))
 refine cI ?_
 have OB0:=lo2
 exact ⟨(k,m,a,OL2,(.slice A3 n3 c3)),ag5,⟨le,lr2,lx2,fun x hx=>(lb2 _ hx),OB0,B1,mB1,k0,mk0,fr,by exact ⟨by rw [e1,aAK (by omega)],by rw [e3,List.take_of_length_le (by omega)],by omega⟩⟩⟩
 rintro ⟨k,m,a,OL2,ov⟩ r hl2 ⟨le,lp2,la2,lb2,lo2,B1,mB1,k0,mk0,fr,e1,e2,e3⟩
 obtain ⟨A5,n5,c5,rfl⟩:=k0.frm
 have zl2:=lp2.1
 have hm:m.length = l.length:=by rw [e1]; simp
 refine aI ?_
 refine hw_sr (aB y_fieldAddr<|aB (y_load (Blk.at B1 rfl rfl))<|aD ?_)
 refine bF (fun g48=>?_) (fun g48=>?_)
 refine hw_sr (aB y_move<|aB aC<|aD ?_)
 refine hw_rr ?_
 refine aQ rfl (.cons aU .nil) ?_
 have hM:fU l w now = m:=by first | rfl | (simp_all [fU])
 rw [hM]
 exact ⟨⟨k0.1,le,fr⟩,k0.2⟩
 refine aM ?_
 refine hw_sr (?_)
 have OB0:=lo2
 refine bE (bA (l:=([]:List Ver))) (fun v6 h6 q6=>?_)
 obtain ⟨lb6,ow6,sb6⟩:=q6
 have z6:=lb6.1
 obtain ⟨O6,hO6⟩:=mkO (fun x=>OL2 x ∨ vblk v6 x)
 have sp_k0_o6:∀ x,vblk (.slice A5 n5 c5) x → ¬ vblk v6 x:=fun x hv hw=>by have:=k0.vb hv; have:=ow6.vb hw; omega
 have o6:Ow _ _ _ _ _:=⟨ow6,OkL.nil⟩
 obtain ⟨A7,n7,c7,rfl⟩:=o6.frm
 replace k0:=k0.le lb6
 refine aB y_move<|aB y_move<|aB (mP k0.1.rd)<|bE (bW aP o6.1 (RdF.cutLo k0.1.rd (n:=a) (by first | omega | (simp; omega))) (by omega) (Nat.add_le_add o6.2.len (k0.2.drop a).len)) (fun v8 h8 q8=>?_)
 have L1:=o6.2.len
 have L2:=(k0.2.drop a).len
 obtain ⟨O8,hO8,z8,ow8⟩:=q8.ow (OkL.app o6.2 (k0.2.drop a) (by first | omega | (simp only [List.length_append,List.length_take,List.length_drop,List.length_cons,List.length_nil,List.length_set]; omega) | (simp; omega))) O6
 have sp_k0_o6q:=mF sp_k0_o6 q8 (fun x hv=>(k0.vb hv).2)
 replace B1:=B1.le lb6
 replace k0:=k0.ap q8 sp_k0_o6
 have sp_k0_o6:=sp_k0_o6q
 replace le:=(le.tl lb6).ap o6 q8 (by omega)
 replace B1:=B1.app q8 (o6.1.ne B1 (by decide))
 have o6:=ow8
 obtain ⟨A9,n9,c9,rfl⟩:=o6.frm
 refine aB aC<|aD ?_
 refine aF (ah5 0 2 4 7 9) fun r=>?_
 refine aI ?_
 obtain ⟨S10,hS10⟩:=mkO (fun b=>h8.size ≤ b ∨ vblk (.slice A5 n5 c5) b)
 have mR10:Mod S10 h8 h8:=Mod.refl _
 replace OB0:=(OB0.newS lb6.1 hO6 (fun x hv=>(ow6.vb hv).2)).app q8 hO8
 have hd10:∀ b,b < h8.size∧¬ O8 b → ¬ S10 b:=fun b hb hs=>(fun hs=>hs.elim (fun hs=>absurd hb.1 (Nat.not_lt.2 hs)) (fun hs=>hb.2 ((fun x hv=>(hO8 x).2 (.inl ((fun x hv=>(hO6 x).2 (.inl (mk0 x hv))) x hv))) b hs))) ((hS10 b).1 hs)
 have so_k0:∀ x,vblk (.slice A5 n5 c5) x → S10 x:=fun x hv=>(hS10 x).2 (by simp [hv])
 refine bH 14 S10 bC (ha2_p 0 rfl (fun _=>y_move)<|ha2_p 1 rfl (fun _=>y_move)<|ha2_y 2 rfl (fun _ _=>(iG k0.1.rd))<|ha2_p 3 rfl (fun _=>y_fieldAddr)<|ha2_y 4 rfl (fun _ mm=>(y_load (Blk.at (Blk.mod B1 mm (fun hs=>by rcases (hS10 _).1 hs with hs | hs <;> first | omega | exact absurd hs (k0.1.ne B1 (by decide)))) rfl rfl)))<|ha2_p 5 rfl (fun _=>y_fieldAddr)<|ha2_y 6 rfl (fun _ mm=>(y_load (Blk.at (Blk.mod B1 mm (fun hs=>by rcases (hS10 _).1 hs with hs | hs <;> first | omega | exact absurd hs (k0.1.ne B1 (by decide)))) rfl rfl)))<|ha2_p 7 rfl (fun _=>y_move)<|ha2_p 8 rfl (fun _=>(y_build rfl rfl))<|ha2_p 11 rfl (fun _=>y_move)<|?_)
 refine aW 9 (cB rfl (bA (l:=([(⟨w.key,w.num,now,0⟩:Ver)]:List Ver))) (fun v11 h11 q11=>?_))
 obtain ⟨lb11,ow11,sb11⟩:=q11
 have z11:=lb11.1
 refine ⟨Le.mod lb11,?_⟩
 have k11:Rs _ O8 _ _:=Ow.end ⟨ow11,(OkL.one (by first | trivial | assumption | exact ⟨by assumption,by assumption⟩ | simp_all [Ok.ok] | (show SB _; first | assumption | omega | (simp; omega))))⟩ OB0
 obtain ⟨A12,n12,c12,rfl⟩:=k11.frm
 refine aW 10 (?_)
 have fr:∀ x,vblk (cutHi a (.slice A5 n5 c5)) x → _:=fun x hv=>fr x (dC hv)
 have so_k0:∀ x,vblk (cutHi a (.slice A5 n5 c5)) x → _:=fun x hv=>so_k0 x (dC hv)
 have sp_k0_o6:∀ x,vblk (cutHi a (.slice A5 n5 c5)) x → ¬ vblk (.slice A9 n9 c9) x:=fun x hv=>sp_k0_o6 x (dC hv)
 replace k0:=(k0.le lb11).cutHi (n:=a) (by first | omega | (simp; omega))
 refine cB rfl (bW aP k0.1 k11.1 (by omega) (Nat.add_le_add k0.2.len k11.2.len)) (fun v13 h13 q13=>?_)
 have L1:=k0.2.len
 have L2:=k11.2.len
 obtain ⟨O13,hO13,z13,ow13⟩:=q13.ow (OkL.app k0.2 k11.2 (by first | omega | (simp only [List.length_append,List.length_take,List.length_drop,List.length_cons,List.length_nil,List.length_set]; omega) | (simp; omega))) O8
 replace o6:=o6.le lb11
 have sp_k0_o6q:=sepB sp_k0_o6 q13 (fun x hv=>(o6.vb hv).2)
 have so_k0q:=fun x hv=>(q13.2.2 x hv).elim (so_k0 x) (fun e=>(hS10 x).2 (by first | omega | exact .inl (by omega)))
 have ms:=Mod.mono (S':=S10) q13.2.1 (fun x _ e=>so_k0 x e)
 refine ⟨ms,?_⟩
 replace B1:=B1.le lb11
 replace le:=(le.tl lb11).apO q13 fr
 replace o6:=o6.ap q13 (fun x hv hw=>sp_k0_o6 x hw hv)
 have fr:∀ x,vblk _ x → _:=fun x hv=>(q13.2.2 x hv).elim (fr x) (fun e=>.inr (by omega))
 have sp_k0_o6:=sp_k0_o6q
 have so_k0:=so_k0q
 replace B1:=B1.app q13 (k0.1.ne B1 (by decide))
 have k0:=ow13
 obtain ⟨A14,n14,c14,rfl⟩:=k0.frm
 refine aW 12 (cB rfl (bW aP k0.1 o6.1.rd (by omega) (Nat.add_le_add k0.2.len o6.2.len)) (fun v15 h15 q15=>?_))
 have L1:=k0.2.len
 have L2:=o6.2.len
 obtain ⟨O15,hO15,z15,ow15⟩:=q15.ow (OkL.app k0.2 o6.2 (by first | omega | (simp only [List.length_append,List.length_take,List.length_drop,List.length_cons,List.length_nil,List.length_set]; omega) | (simp; omega))) O13
 have sp_k0_o6q:=sepB sp_k0_o6 q15 (fun x hv=>(o6.vb hv).2)
 have so_k0q:=fun x hv=>(q15.2.2 x hv).elim (so_k0 x) (fun e=>(hS10 x).2 (by first | omega | exact .inl (by omega)))
 replace mR10:=(mR10.tl lb11).t ms
 have ms:=Mod.mono (S':=S10) q15.2.1 (fun x _ e=>so_k0 x e)
 refine ⟨ms,?_⟩
 replace o6:=o6.ap q15 (fun x hv hw=>sp_k0_o6 x hw hv)
 replace le:=le.apO q15 fr
 have fr:∀ x,vblk _ x → _:=fun x hv=>(q15.2.2 x hv).elim (fr x) (fun e=>.inr (by omega))
 have sp_k0_o6:=sp_k0_o6q
 have so_k0:=so_k0q
 replace B1:=B1.app q15 (k0.1.ne B1 (by decide))
 have k0:=ow15
 obtain ⟨A16,n16,c16,rfl⟩:=k0.frm
 refine ha2_p 13 rfl (fun _=>aC)<|cN ?_
 refine aF (ah1 6) fun r=>?_
 refine hw_rr ?_
 refine aQ rfl (.cons aU .nil) ?_
 have hM:fU l w now = (((m.take a) ++ ([(⟨w.key,w.num,now,0⟩:Ver)]:List Ver)) ++ ([] ++ (m.drop a))):=by first | rfl | (simp_all [fU])
 rw [hM]
 exact ⟨⟨k0.1,le,fr⟩,k0.2⟩
set_option maxHeartbeats 1000000 in
theorem aA2 {w0:World} {h:Heap} {O:Nat → Prop} {v:cD} {k0v:Value} {l:List Write} {k1v:Value} (k0:Rs h O k0v v.list) (k1:Rs h O k1v l) (OB0:OB h O)  (hv1:v.list.length ≤ 900000:=by first | omega | (simp; omega)) (hv2:l.length ≤ 100000:=by first | omega | (simp; omega)) (hv3 : -1000000 ≤ v.now∧v.now ≤ 1000000:=by first | assumption | omega):HC (XM PP) w0 50 [.agg #[vi v.now,k0v],k1v].toArray h (fun rv h'=>∃ (s1:Value),rv = .tuple #[.agg #[vi (((fM v l).1).now),s1],vb ((fM v l).2)]∧Le h h' ∧ Rs h' O s1 (((fM v l).1).list)):=by
 obtain ⟨Ak0,nk0,ck0,rfl⟩:=k0.frm
 obtain ⟨Ak1,nk1,ck1,rfl⟩:=k1.frm
 have le:=Le.refl h
 have OBe:=OB0
 have hl:=k1.len
 refine aV 36 [(0,.agg #[vi v.now,(.slice Ak0 nk0 ck0)]),(1,(.slice Ak1 nk1 ck1))] Tryz.func50 (fun r=>?_)
 refine hw_sr (bE cW (fun v1 h1 q1=>?_))
 obtain ⟨b1,O1,rfl,eb1,sb1,lb1,B1,hO1⟩:=q1.ox O
 refine bE aY (fun v2 h2 q2=>?_)
 obtain ⟨b2,O2,rfl,eb2,sb2,lb2,B2,hO2⟩:=q2.ox O1
 refine aB aC<|aD ?_
 refine aI ?_
 replace B1:=B1.le lb2
 refine aE (aB (y_loadB B1 0 _)<|?_)
 replace k0:=(k0.nb lb1 hO1 eb1).nb lb2 hO2 eb2
 replace OB0:=(OB0.newB sb1 hO1 eb1).newB sb2 hO2 eb2
 refine bL aG (lA (v:=(⟨v.now,v.list⟩:cD)) k0 OB0) (fun v3 h3 q3=>?_)
 obtain ⟨s3_1,rfl,lc3,k3_1⟩:=q3
 have z3:=lc3.1
 have k3_1w:=k3_1
 obtain ⟨O3,hO3⟩:=mkO (fun x=>O2 x ∨ vblk s3_1 x)
 obtain ⟨A4,n4,c4,rfl⟩:=k3_1.frm
 refine bE aY (fun v5 h5 q5=>?_)
 obtain ⟨b5,O5,rfl,eb5,sb5,lb5,B5,hO5⟩:=q5.ox O3
 refine bO (aK aP B5) (fun v6 h6 q6=>?_)
 obtain ⟨rfl,q6⟩:=q6
 have z6:=q6.1
 replace k3_1:=k3_1.le lb5
 replace k3_1:=k3_1.st q6 (k3_1.1.ne B5 (by decide))
 have B5:=q6.2.2
 refine aD ?_
 refine aI ?_
 replace B1:=((B1.le lc3).le lb5).s q6
 refine aE (aB y_fieldAddr<|aB (y_load (Blk.at B1 rfl rfl))<|?_)
 refine aB bI<|aB y_fieldAddr<|bO (aK aP B5) (fun v7 h7 q7=>?_)
 obtain ⟨rfl,q7⟩:=q7
 have z7:=q7.1
 replace k3_1:=k3_1.st q7 (k3_1.1.ne B5 (by decide))
 have B5:=q7.2.2
 refine aD ?_
 refine aF (ah4 1 2 4 6) fun r=>?_
 refine aI ?_
 refine hw_sr (aB aC<|aD ?_)
 replace le:=(((((le.t lb1).t lb2).t lc3).t lb5).s q6).s q7
 replace B2:=(((B2.le lc3).le lb5).s q6).s q7
 replace B1:=B1.s q7
 replace OB0:=(((OB0.newS lc3.1 hO3 (fun x hv=>(k3_1w.vb hv).2)).newB sb5 hO5 eb5).leO (Nat.le_of_eq q6.1.symm)).leO (Nat.le_of_eq q7.1.symm)
 refine cT (fun (gx:Nat × (List Ver) × (Nat → Prop) × Value)=>match gx with | (k,m,OL8,ov)=>[(1,(.slice Ak1 nk1 ck1)),(2,.pointer (some ⟨b1,0,none⟩)),(4,.pointer (some ⟨b2,0,none⟩)),(6,.pointer (some ⟨b5,0,none⟩)),(7,vi (k:Int))]) (fun (gx:Nat × (List Ver) × (Nat → Prop) × Value) (h' : Heap)=>match gx with | (k,m,OL8,ov)=>Le h h' ∧ Mod O5 h7 h' ∧ (∀ x,OL8 x → O5 x ∨ h7.size ≤ x)∧(∀ x,O5 x → OL8 x)∧OB h' OL8∧Blk h' b1 [vi v.now,(.slice Ak0 nk0 ck0)] 52∧OL8 b1∧Blk h' b2 [vi 0,.slice none 0 0] 52∧OL8 b2∧Blk h' b5 [vi (v.now + 1),ov] 52∧OL8 b5∧Ow h' h.size ov m 109∧(∀ x,vblk ov x → OL8 x)∧m = (eS v l).list) (aX (cK (fun (gx:Nat × (List Ver) × (Nat → Prop) × Value)=>match gx with | (k,m,OL8,ov)=>[(1,(.slice Ak1 nk1 ck1)),(2,.pointer (some ⟨b1,0,none⟩)),(4,.pointer (some ⟨b2,0,none⟩)),(6,.pointer (some ⟨b5,0,none⟩)),(7,vi (k:Int))]) (fun (gx:Nat × (List Ver) × (Nat → Prop) × Value) (h' : Heap)=>match gx with | (k,m,OL8,ov)=>Le h h' ∧ Mod O5 h7 h' ∧ (∀ x,OL8 x → O5 x ∨ h7.size ≤ x)∧(∀ x,O5 x → OL8 x)∧OB h' OL8∧Blk h' b1 [vi v.now,(.slice Ak0 nk0 ck0)] 52∧OL8 b1∧Blk h' b2 [vi 0,.slice none 0 0] 52∧OL8 b2∧Blk h' b5 [vi (v.now + 1),ov] 52∧OL8 b5∧Ow h' h.size ov m 109∧(∀ x,vblk ov x → OL8 x)∧m = (l.take k).foldl (fun m w=>fU m w (v.now + 1)) v.list∧k ≤ l.length) (fun (gx:Nat × (List Ver) × (Nat → Prop) × Value)=>match gx with | (k,m,OL8,ov)=>l.length - k) (0,v.list,O5,(.slice A4 n4 c4)) ag5 ⟨le,Mod.refl _,fun x hx=>.inl hx,fun x hx=>hx,OB0,B1,(il hO5 (il hO3 (il hO2 (ir hO1)))),B2,(il hO5 (il hO3 (ir hO2))),B5,(ir hO5),k3_1.wk (by omega),(fun x hv=>(hO5 x).2 (.inl ((fun x hv=>(hO3 x).2 (.inr hv)) x hv))),by exact ⟨rfl,by omega⟩⟩ ?_)) ?_
 rintro ⟨k,m,OL8,ov⟩ r hl8 ⟨le,lp8,la8,lb8,lo8,B1,mB1,B2,mB2,B5,mB5,k3_1,mk3_1,e1,e2⟩
 obtain ⟨A9,n9,c9,rfl⟩:=k3_1.frm
 have zl8:=lp8.1
 have hm:m.length ≤ v.list.length + k:=by rw [e1]; have:=vL (v.now + 1) (l.take k) v.list; rw [List.length_take] at this; omega
 have lr8:=lp8
 have lx8:=la8
 refine aI ?_
 refine hw_sr (aB y_move<|aB y_move<|aB (y_lenA k1.1)<|aB dB<|aD ?_)
 refine aF (ah6 1 2 4 6 7 17) fun r=>?_
 refine aZ (fun g17=>?_) (fun g17=>?_)
 refine aM ?_
 refine aI ?_
 refine aX ?_
 have OB0:=lo8
 replace k1:=((((((k1.nb lb1 hO1 eb1).nb lb2 hO2 eb2).ns lc3 hO3 (fun x hv=>(k3_1w.vb hv).1)).nb lb5 hO5 eb5).st q6 (ir hO5)).st q7 (ir hO5)).lp lp8 la8
 have Rk1:=k1
 obtain ⟨S10,hS10⟩:=mkO (fun b=>hl8.size ≤ b ∨ vblk (.slice A9 n9 c9) b)
 have mR10:Mod S10 hl8 hl8:=Mod.refl _
 have hd10:∀ b,b < hl8.size∧¬ OL8 b → ¬ S10 b:=fun b hb hs=>(fun hs=>hs.elim (fun hs=>absurd hb.1 (Nat.not_lt.2 hs)) (fun hs=>hb.2 (mk3_1 b hs))) ((hS10 b).1 hs)
 have so_k3_1:∀ x,vblk (.slice A9 n9 c9) x → S10 x:=fun x hv=>(hS10 x).2 (by simp [hv])
 refine bH 11 S10 bC (ha2_p 0 rfl (fun _=>y_fieldAddr)<|ha2_y 1 rfl (fun _ mm=>(y_load (Blk.at (Blk.mod B5 mm (fun hs=>by rcases (hS10 _).1 hs with hs | hs <;> first | omega | exact absurd hs (k3_1.1.ne B5 (by decide)))) rfl rfl)))<|ha2_p 2 rfl (fun _=>y_move)<|ha2_p 3 rfl (fun _=>y_move)<|?_)
 obtain ⟨x1,hx1⟩:∃ x,l[k]? = some x:=⟨_,List.getElem?_eq_getElem (by omega)⟩
 have sx1:SB x1.key:=k1.2.at hx1
 refine ha2_y 4 rfl (fun _ _=>(y_idxA k1.1))<|ha2_y 5 rfl (fun _ mm=>(y_loadEl (RdF.mod Rk1.1 (mR10.trans mm) hd10) hx1))<|ha2_p 6 rfl (fun _=>y_fieldAddr)<|ha2_y 7 rfl (fun _ mm=>(y_load (Blk.at (Blk.mod B5 mm (fun hs=>by rcases (hS10 _).1 hs with hs | hs <;> first | omega | exact absurd hs (k3_1.1.ne B5 (by decide)))) rfl rfl)))<|?_
 refine aW 8 (cC rfl aG (aB9 (w:=x1) k3_1 mk3_1 (by omega) OB0) (fun v11 h11 q11=>?_))
 obtain ⟨q11,ok11⟩:=q11
 obtain ⟨O11,hO11,z11,ow11⟩:=q11.ow ok11 OL8
 have so_k3_1q:=fun x hv=>(q11.2.2 x hv).elim (so_k3_1 x) (fun e=>(hS10 x).2 (by first | omega | exact .inl (by omega)))
 have ms:=Mod.mono (S':=S10) q11.2.1 (fun x _ e=>so_k3_1 x e)
 refine ⟨ms,?_⟩
 have so_k3_1:=so_k3_1q
 replace lr8:=lr8.apO q11 (fun x hv=>lx8 x (mk3_1 x hv))
 have lx8:=laA lx8 hO11 q11 mk3_1 (by omega)
 replace B1:=B1.app q11 (k3_1.1.ne B1 (by decide))
 replace B2:=B2.app q11 (k3_1.1.ne B2 (by decide))
 replace B5:=B5.app q11 (k3_1.1.ne B5 (by decide))
 replace le:=le.ap k3_1 q11 (by omega)
 have k3_1:=ow11
 obtain ⟨A12,n12,c12,rfl⟩:=k3_1.frm
 refine ha2_p 9 rfl (fun _=>y_fieldAddr)<|?_
 refine aW 10 (lN rfl (aK aP B5) (fun v13 h13 q13=>?_))
 obtain ⟨rfl,q13⟩:=q13
 have z13:=q13.1
 replace k3_1:=k3_1.st q13 (k3_1.1.ne B5 (by decide))
 have B5:=q13.2.2
 refine aF (ah5 1 2 4 6 7) fun r=>?_
 refine aE (aB y_move<|aB bI<|aB aC<|aD ?_)
 replace B1:=B1.s q13
 replace B2:=B2.s q13
 replace le:=le.s q13
 replace lr8:=lr8.stO q13 (ir hO5)
 replace OB0:=(OB0.app q11 hO11).leO (Nat.le_of_eq q13.1.symm)
 exact ⟨(k + 1,fU m x1 (v.now + 1),O11,(.slice A12 n12 c12)),ag5,⟨le,lr8,lx8,fun x hx=>(il hO11 (lb8 _ hx)),OB0,B1,(il hO11 mB1),B2,(il hO11 mB2),B5,(il hO11 mB5),k3_1,(fun x hv=>(hO11 x).2 (.inr hv)),by exact ⟨by rw [dK hx1,← e1],by omega⟩⟩,by first | omega | (dsimp only; omega)⟩
 refine cI ?_
 have OB0:=lo8
 exact ⟨(k,m,OL8,(.slice A9 n9 c9)),ag5,⟨le,lr8,lx8,fun x hx=>(lb8 _ hx),OB0,B1,mB1,B2,mB2,B5,mB5,k3_1,mk3_1,by rw [e1,eS,List.take_of_length_le (by omega)]⟩⟩
 rintro ⟨k,m,OL8,ov⟩ r hl8 ⟨le,lp8,la8,lb8,lo8,B1,mB1,B2,mB2,B5,mB5,k3_1,mk3_1,e1⟩
 obtain ⟨A14,n14,c14,rfl⟩:=k3_1.frm
 have zl8:=lp8.1
 refine aI ?_
 refine hw_sr (aB (y_loadB B5 0 _)<|?_)
 have OB0:=lo8
 refine bL aG (qW (v:=(⟨(v.now + 1),m⟩:cD)) (Ow.any k3_1) (fun _ h=>h.elim)) (fun v15 h15 q15=>?_)
 obtain ⟨rfl,lc15⟩:=q15
 have z15:=lc15.1
 refine aB dG<|aD ?_
 refine dS (fun g32=>?_) (fun g32=>?_)
 refine aI ?_
 replace B1:=B1.le lc15
 refine aE (aB (y_loadB B1 0 _)<|?_)
 replace k0:=(((((k0.ns lc3 hO3 (fun x hv=>(k3_1w.vb hv).1)).nb lb5 hO5 eb5).st q6 (ir hO5)).st q7 (ir hO5)).lp lp8 la8).le lc15
 replace OB0:=OB0.leO lc15.1
 refine bL aG (lA (v:=(⟨v.now,v.list⟩:cD)) k0 OB0) (fun v16 h16 q16=>?_)
 obtain ⟨s16_1,rfl,lc16,k16_1⟩:=q16
 have z16:=lc16.1
 replace k16_1:=k16_1.end OB0
 obtain ⟨A17,n17,c17,rfl⟩:=k16_1.frm
 replace B2:=(B2.le lc15).le lc16
 refine bO (aK aP B2) (fun v18 h18 q18=>?_)
 obtain ⟨rfl,q18⟩:=q18
 have z18:=q18.1
 have B2:=q18.2.2
 refine aB aC<|aD ?_
 refine aF (ah2 4 5) fun r=>?_
 refine hw_rr ?_
 refine aQ rfl (.cons (bT B2) (.cons aU .nil)) ?_
 replace le:=((le.t lc15).t lc16).s q18
 replace k16_1:=k16_1.st q18 mB2
 exact ⟨_,by first | rfl | (subst e1; have hx:(⟨v.now + 1,(eS v l).list⟩:cD) = eS v l:=rfl; rw [hx] at *; simp_all [fM,eS,oneOf]),le,(k16_1.wk (fun x hx=>(lb8 _ (il hO5 (il hO3 (il hO2 (il hO1 hx))))))).cast (by first | rfl | (subst e1; have hx:(⟨v.now + 1,(eS v l).list⟩:cD) = eS v l:=rfl; rw [hx] at *; simp_all [fM,eS,oneOf]))⟩
 refine aM ?_
 refine aI ?_
 replace B2:=B2.le lc15
 replace B5:=B5.le lc15
 refine aE (aB (y_loadB B5 0 _)<|bO (aK aP B2) (fun v19 h19 q19=>?_))
 obtain ⟨rfl,q19⟩:=q19
 have z19:=q19.1
 replace k3_1:=k3_1.le lc15
 replace k3_1:=k3_1.st q19 (k3_1.1.ne B2 (by decide))
 have B2:=q19.2.2
 refine aB aC<|aD ?_
 refine hw_rr ?_
 refine aQ rfl (.cons (bT B2) (.cons aU .nil)) ?_
 replace le:=(le.t lc15).s q19
 exact ⟨_,by first | rfl | (subst e1; have hx:(⟨v.now + 1,(eS v l).list⟩:cD) = eS v l:=rfl; rw [hx] at *; simp_all [fM,eS,oneOf]),le,(k3_1.fin OBe (by omega)).cast (by first | rfl | (subst e1; have hx:(⟨v.now + 1,(eS v l).list⟩:cD) = eS v l:=rfl; rw [hx] at *; simp_all [fM,eS,oneOf]))⟩
set_option maxHeartbeats 1000000 in
theorem aBm {w0:World} {h:Heap} {O:Nat → Prop} {v:cD} {k0v:Value} {t:Int} (k0:Rs h O k0v v.list) (OB0:OB h O)  : HC (XM PP) w0 68 [.agg #[vi v.now,k0v],vi t].toArray h (fun rv h'=>∃ (s1:Value),rv = .agg #[vi ((hU v t).now),s1]∧Le h h' ∧ Rs h' O s1 ((hU v t).list)):=by
 obtain ⟨Ak0,nk0,ck0,rfl⟩:=k0.frm
 have le:=Le.refl h
 have OBe:=OB0
 have hl:=k0.len
 refine aV 50 [(0,.agg #[vi v.now,(.slice Ak0 nk0 ck0)]),(1,vi t)] Tryz.func68 (fun r=>?_)
 refine hw_sr (bE cW (fun v1 h1 q1=>?_))
 obtain ⟨b1,O1,rfl,eb1,sb1,lb1,B1,hO1⟩:=q1.ox O
 refine bE aY (fun v2 h2 q2=>?_)
 obtain ⟨b2,O2,rfl,eb2,sb2,lb2,B2,hO2⟩:=q2.ox O1
 refine aD ?_
 refine aI ?_
 refine aI ?_
 replace B1:=B1.le lb2
 refine aE (aB (y_loadB B1 0 _)<|?_)
 replace k0:=(k0.nb lb1 hO1 eb1).nb lb2 hO2 eb2
 replace OB0:=(OB0.newB sb1 hO1 eb1).newB sb2 hO2 eb2
 refine bL aG (qW (v:=(⟨v.now,v.list⟩:cD)) k0 OB0) (fun v3 h3 q3=>?_)
 obtain ⟨rfl,lc3⟩:=q3
 have z3:=lc3.1
 refine aB dG<|aD ?_
 refine dS (fun g9=>?_) (fun g9=>?_)
 refine aI ?_
 replace B2:=B2.le lc3
 refine aE (aB (y_build rfl rfl)<|bO (aK aP B2) (fun v4 h4 q4=>?_))
 obtain ⟨rfl,q4⟩:=q4
 have z4:=q4.1
 have B2:=q4.2.2
 refine aD ?_
 refine hw_rr ?_
 refine aQ rfl (.cons (bT B2) .nil) ?_
 replace le:=(((le.t lb1).t lb2).t lc3).s q4
 exact ⟨_,by first | rfl | (simp_all [oneOf,hU]),le,Rs.nil.cast (by first | rfl | (simp_all [oneOf,hU]))⟩
 refine aM ?_
 refine aI ?_
 replace B1:=B1.le lc3
 refine aE (aB y_fieldAddr<|aB (y_load (Blk.at B1 rfl rfl))<|?_)
 refine bE (bA (l:=([]:List Ver))) (fun v5 h5 q5=>?_)
 obtain ⟨lb5,ow5,sb5⟩:=q5
 have z5:=lb5.1
 obtain ⟨O5,hO5⟩:=mkO (fun x=>O2 x ∨ vblk v5 x)
 have o5:Ow _ _ _ _ _:=⟨ow5,OkL.nil⟩
 obtain ⟨A6,n6,c6,rfl⟩:=o5.frm
 refine aB (y_build rfl rfl)<|bE aY (fun v7 h7 q7=>?_)
 obtain ⟨b7,O7,rfl,eb7,sb7,lb7,B7,hO7⟩:=q7.ox O5
 refine bO (aK aP B7) (fun v8 h8 q8=>?_)
 obtain ⟨rfl,q8⟩:=q8
 have z8:=q8.1
 replace o5:=o5.le lb7
 replace o5:=o5.st q8 (o5.1.ne B7 (by decide))
 have B7:=q8.2.2
 refine aD ?_
 refine aF (ah4 1 2 4 5) fun r=>?_
 refine aI ?_
 refine hw_sr (aB aC<|aD ?_)
 replace le:=(((((le.t lb1).t lb2).t lc3).t lb5).t lb7).s q8
 replace B2:=(((B2.le lc3).le lb5).le lb7).s q8
 replace OB0:=(((OB0.leO lc3.1).newS lb5.1 hO5 (fun x hv=>(ow5.vb hv).2)).newB sb7 hO7 eb7).leO (Nat.le_of_eq q8.1.symm)
 replace B1:=((B1.le lb5).le lb7).s q8
 refine cT (fun (gx:Nat × (List Ver) × (Nat → Prop) × Value)=>match gx with | (k,m,OL9,ov)=>[(1,vi t),(2,.pointer (some ⟨b1,0,none⟩)),(4,.pointer (some ⟨b2,0,none⟩)),(5,.pointer (some ⟨b7,0,none⟩)),(6,vi (k:Int))]) (fun (gx:Nat × (List Ver) × (Nat → Prop) × Value) (h' : Heap)=>match gx with | (k,m,OL9,ov)=>Le h h' ∧ Mod O7 h8 h' ∧ (∀ x,OL9 x → O7 x ∨ h8.size ≤ x)∧(∀ x,O7 x → OL9 x)∧OB h' OL9∧Blk h' b1 [vi v.now,(.slice Ak0 nk0 ck0)] 52∧OL9 b1∧Blk h' b2 [vi 0,.slice none 0 0] 52∧OL9 b2∧Blk h' b7 [vi v.now,ov] 52∧OL9 b7∧Ow h' h.size ov m 109∧(∀ x,vblk ov x → OL9 x)∧m = (hU v t).list) (aX (cK (fun (gx:Nat × (List Ver) × (Nat → Prop) × Value)=>match gx with | (k,m,OL9,ov)=>[(1,vi t),(2,.pointer (some ⟨b1,0,none⟩)),(4,.pointer (some ⟨b2,0,none⟩)),(5,.pointer (some ⟨b7,0,none⟩)),(6,vi (k:Int))]) (fun (gx:Nat × (List Ver) × (Nat → Prop) × Value) (h' : Heap)=>match gx with | (k,m,OL9,ov)=>Le h h' ∧ Mod O7 h8 h' ∧ (∀ x,OL9 x → O7 x ∨ h8.size ≤ x)∧(∀ x,O7 x → OL9 x)∧OB h' OL9∧Blk h' b1 [vi v.now,(.slice Ak0 nk0 ck0)] 52∧OL9 b1∧Blk h' b2 [vi 0,.slice none 0 0] 52∧OL9 b2∧Blk h' b7 [vi v.now,ov] 52∧OL9 b7∧Ow h' h.size ov m 109∧(∀ x,vblk ov x → OL9 x)∧m = (v.list.take k).filter (fun x=>decide (x.to = 0) || decide (t < x.to))∧k ≤ v.list.length) (fun (gx:Nat × (List Ver) × (Nat → Prop) × Value)=>match gx with | (k,m,OL9,ov)=>v.list.length - k) (0,[],O7,(.slice A6 n6 c6)) ag5 ⟨le,Mod.refl _,fun x hx=>.inl hx,fun x hx=>hx,OB0,B1,(il hO7 (il hO5 (il hO2 (ir hO1)))),B2,(il hO7 (il hO5 (ir hO2))),B7,(ir hO7),o5.wk (by omega),(fun x hv=>(hO7 x).2 (.inl ((fun x hv=>(hO5 x).2 (.inr hv)) x hv))),by exact ⟨rfl,by omega⟩⟩ ?_)) ?_
 rintro ⟨k,m,OL9,ov⟩ r hl9 ⟨le,lp9,la9,lb9,lo9,B1,mB1,B2,mB2,B7,mB7,o5,mo5,e1,e2⟩
 obtain ⟨A10,n10,c10,rfl⟩:=o5.frm
 have zl9:=lp9.1
 have lr9:=lp9
 have lx9:=la9
 refine aI ?_
 refine hw_sr (aB y_move<|aB y_fieldAddr<|aB (y_load (Blk.at B1 rfl rfl))<|aB (y_lenA k0.1)<|aB dB<|aD ?_)
 refine aF (ah6 1 2 4 5 6 19) fun r=>?_
 refine aZ (fun g19=>?_) (fun g19=>?_)
 refine aM ?_
 refine aI ?_
 refine aX ?_
 refine hw_sr (aB y_fieldAddr<|aB (y_load (Blk.at B1 rfl rfl))<|aB y_move<|?_)
 obtain ⟨x1,hx1⟩:∃ x,v.list[k]? = some x:=⟨_,List.getElem?_eq_getElem (by omega)⟩
 have sx1:SB x1.key:=k0.2.at hx1
 refine aB (y_idxA k0.1)<|aB y_fieldAddr<|?_
 replace k0:=((((k0.le lc3).ns lb5 hO5 (fun x hv=>(ow5.vb hv).1)).nb lb7 hO7 eb7).st q8 (ir hO7)).lp lp9 la9
 refine aB (y_load (RdF.cell k0.1 hx1 rfl))<|aB bM<|aB y_move<|?_
 refine bB 9 [(1,vi t),(2,.pointer (some ⟨b1,0,none⟩)),(4,.pointer (some ⟨b2,0,none⟩)),(5,.pointer (some ⟨b7,0,none⟩)),(6,vi (k:Int)),(38,vb ((decide (x1.to = 0)) || (decide (t < x1.to))))] (fun r=>?_) (fun jn=>?_)
 refine aD ?_
 refine bF (fun g38=>?_) (fun g38=>?_)
 have g38':=g38
 simp at g38'
 have OB0:=lo9
 have Rk0:=k0
 obtain ⟨S11,hS11⟩:=mkO (fun b=>hl9.size ≤ b ∨ vblk (.slice A10 n10 c10) b)
 have mR11:Mod S11 hl9 hl9:=Mod.refl _
 have hd11:∀ b,b < hl9.size∧¬ OL9 b → ¬ S11 b:=fun b hb hs=>(fun hs=>hs.elim (fun hs=>absurd hb.1 (Nat.not_lt.2 hs)) (fun hs=>hb.2 (mo5 b hs))) ((hS11 b).1 hs)
 have so_o5:∀ x,vblk (.slice A10 n10 c10) x → S11 x:=fun x hv=>(hS11 x).2 (by simp [hv])
 refine bH 11 S11 bC (ha2_p 0 rfl (fun _=>y_fieldAddr)<|ha2_y 1 rfl (fun _ mm=>(y_load (Blk.at (Blk.mod B7 mm (fun hs=>by rcases (hS11 _).1 hs with hs | hs <;> first | omega | exact absurd hs (o5.1.ne B7 (by decide)))) rfl rfl)))<|ha2_p 2 rfl (fun _=>y_fieldAddr)<|ha2_y 3 rfl (fun _ mm=>(y_load (Blk.at (Blk.mod B1 mm (fun hs=>by rcases (hS11 _).1 hs with hs | hs <;> first | omega | exact absurd hs (o5.1.ne B1 (by decide)))) rfl rfl)))<|ha2_p 4 rfl (fun _=>y_move)<|ha2_y 5 rfl (fun _ _=>(y_idxA k0.1))<|ha2_y 6 rfl (fun _ mm=>(y_loadEl (RdF.mod Rk0.1 (mR11.trans mm) hd11) hx1))<|?_)
 refine aW 7 (cB rfl (bA (l:=([x1]:List Ver))) (fun v12 h12 q12=>?_))
 obtain ⟨lb12,ow12,sb12⟩:=q12
 have z12:=lb12.1
 refine ⟨Le.mod lb12,?_⟩
 have k12:Rs _ OL9 _ _:=Ow.end ⟨ow12,(OkL.one (by first | trivial | assumption | exact ⟨by assumption,by assumption⟩ | simp_all [Ok.ok] | (show SB _; first | assumption | omega | (simp; omega))))⟩ OB0
 obtain ⟨A13,n13,c13,rfl⟩:=k12.frm
 replace o5:=o5.le lb12
 refine aW 8 (cB rfl (bW aP o5.1 k12.1 (by omega) (Nat.add_le_add o5.2.len k12.2.len)) (fun v14 h14 q14=>?_))
 have L1:=o5.2.len
 have L2:=k12.2.len
 obtain ⟨O14,hO14,z14,ow14⟩:=q14.ow (OkL.app o5.2 k12.2 (by have:=uI (fun x=>decide (x.to = 0) || decide (t < x.to)) v.list k; have:=mS (v:=v) (by assumption); rw [e1]; simp only [List.length_cons,List.length_nil]; omega)) OL9
 have so_o5q:=fun x hv=>(q14.2.2 x hv).elim (so_o5 x) (fun e=>(hS11 x).2 (by first | omega | exact .inl (by omega)))
 have ms:=Mod.mono (S':=S11) q14.2.1 (fun x _ e=>so_o5 x e)
 refine ⟨ms,?_⟩
 replace B1:=B1.le lb12
 replace B2:=B2.le lb12
 replace B7:=B7.le lb12
 have so_o5:=so_o5q
 replace lr9:=(lr9.tl lb12).apO q14 (fun x hv=>lx9 x (mo5 x hv))
 have lx9:=laA lx9 hO14 q14 mo5 (by omega)
 replace le:=(le.t lb12).ap o5 q14 (by omega)
 replace B1:=B1.app q14 (o5.1.ne B1 (by decide))
 replace B2:=B2.app q14 (o5.1.ne B2 (by decide))
 replace B7:=B7.app q14 (o5.1.ne B7 (by decide))
 have o5:=ow14
 obtain ⟨A15,n15,c15,rfl⟩:=o5.frm
 refine ha2_p 9 rfl (fun _=>y_fieldAddr)<|?_
 refine aW 10 (lN rfl (aK aP B7) (fun v16 h16 q16=>?_))
 obtain ⟨rfl,q16⟩:=q16
 have z16:=q16.1
 replace o5:=o5.st q16 (o5.1.ne B7 (by decide))
 have B7:=q16.2.2
 refine aF (ah5 1 2 4 5 6) fun r=>?_
 refine aE (aB y_move<|aB bI<|aB aC<|aD ?_)
 replace B1:=B1.s q16
 replace B2:=B2.s q16
 replace le:=le.s q16
 replace lr9:=lr9.stO q16 (ir hO7)
 replace OB0:=((OB0.leO lb12.1).app q14 hO14).leO (Nat.le_of_eq q16.1.symm)
 exact ⟨(k + 1,(m ++ ([x1]:List Ver)),O14,(.slice A15 n15 c15)),ag5,⟨le,lr9,lx9,fun x hx=>(il hO14 (lb9 _ hx)),OB0,B1,(il hO14 mB1),B2,(il hO14 mB2),B7,(il hO14 mB7),o5,(fun x hv=>(hO14 x).2 (.inr hv)),by exact ⟨by rw [e1,kD hx1,if_pos (by simp_all)],by omega⟩⟩,by first | omega | (dsimp only; omega)⟩
 have g38':=g38
 simp at g38'
 refine aM ?_
 refine aE (aB y_move<|aB bI<|aB aC<|aD ?_)
 have OB0:=lo9
 exact ⟨(k + 1,m,OL9,(.slice A10 n10 c10)),ag5,⟨le,lr9,lx9,fun x hx=>(lb9 _ hx),OB0,B1,mB1,B2,mB2,B7,mB7,o5,mo5,by exact ⟨by rw [e1,kD hx1,if_neg (by simp_all)]; simp,by omega⟩⟩,by first | omega | (dsimp only; omega)⟩
 refine dA (x1.to = 0) (fun g29=>?_) (fun g29=>?_)
 refine aN (neT (dT g29))<|aN (neT (dT g29))<|aN (neT (dT g29))<|aN (neT (dT g29))<|aN (neT (dT g29))<|aN (neT (dT g29))<|aN (neT (dT g29))<|aN (neT (dT g29))<|aB (y_pickT (dT g29))<|?_
 exact jn _ (aA (aA (aA (aA (aA (aA aJ (by simp [aH,g29])))))))
 refine aO (dF g29) y_fieldAddr<|aO (dF g29) (y_load (Blk.at B1 rfl rfl))<|aO (dF g29) y_move<|aO (dF g29) (y_idxA k0.1)<|aO (dF g29) y_fieldAddr<|aO (dF g29) (y_load (RdF.cell k0.1 hx1 rfl))<|aO (dF g29) y_move<|aO (dF g29) cU<|aB (aR (dF g29))<|?_
 exact jn _ (aA (aA (aA (aA (aA (aA aJ (by simp [aH,g29])))))))
 refine cI ?_
 have OB0:=lo9
 exact ⟨(k,m,OL9,(.slice A10 n10 c10)),ag5,⟨le,lr9,lx9,fun x hx=>(lb9 _ hx),OB0,B1,mB1,B2,mB2,B7,mB7,o5,mo5,by rw [List.take_of_length_le (by omega)] at e1; simp_all [hU]⟩⟩
 rintro ⟨k,m,OL9,ov⟩ r hl9 ⟨le,lp9,la9,lb9,lo9,B1,mB1,B2,mB2,B7,mB7,o5,mo5,e1⟩
 obtain ⟨A17,n17,c17,rfl⟩:=o5.frm
 have zl9:=lp9.1
 refine hw_sr (aB (y_loadB B7 0 _)<|bO (aK aP B2) (fun v18 h18 q18=>?_))
 obtain ⟨rfl,q18⟩:=q18
 have z18:=q18.1
 replace o5:=o5.st q18 (o5.1.ne B2 (by decide))
 have B2:=q18.2.2
 refine aD ?_
 refine hw_rr ?_
 refine aQ rfl (.cons (bT B2) .nil) ?_
 replace le:=le.s q18
 exact ⟨_,by first | rfl | (simp_all [oneOf,hU]),le,(o5.fin OBe (by omega)).cast (by first | rfl | (simp_all [oneOf,hU]))⟩
end
section
open Go.Conc
section
variable {P:Program} {s:Env} {h:Heap} {ty:TypeId} {x y:Operand} {t e:TypeId}
theorem uJ {w:World} (f:Value → ByteArray → Sem (ForInStep ByteArray))
    (hf:∀ (n:Int) (r:ByteArray),(f (.int .u8 n) r).run P w = .ok (.yield (r.push (UInt8.ofNat n.toNat))) w) (he:∀ (n:Int) (r:ByteArray) es,(f (.int .u8 n) r).events P w es = es) :
    ∀ (ns:List Int) (s:ByteArray) (es:Array Event),(forIn (ns.map (Value.int .u8)) s f).events P w es = es:=by
  intro ns
  induction ns with
  | nil=>intro s es; simp
  | cons n ns ih =>
    intro s es
    simp only [List.map_cons,List.forIn_cons,Sem.events_bind,hf,he,Result.evThen]
    exact ih _ _
theorem iE (l:List UInt8):encs l = (l.map fun b=>(b.toNat:Int)).map (Value.int .u8):=by
  induction l with
  | nil=>rfl
  | cons a l ih=>simp only [encs,List.flatMap_cons,List.map_cons] at ih ⊢; rw [ih]; rfl
theorem mB {X:Nat → Prop} {v:Value} {l:List UInt8} {src e:TypeId} [hs:fA P src e] [he:qY P e .u8] [ht:sN P t] (hr:RdF h X v l) (hx:ev s x = v:=by (simp only [ev,aH,reduceIte,Nat.reduceEqDiff,reduceCtorEq] <;> rfl)):Y P s h (.convert src t x) ty (vs l):=by
  intro ps af g d w hh
  subst hh
  have hr0:=hr
  obtain ⟨A,cap,rfl,h2,h3,h4⟩:=hr
  cases A with
  | none =>
    have:l = []:=by
      cases l with
      | nil=>rfl
      | cons a l=>obtain ⟨_,h,_⟩:=h4 0 a rfl; cases h
    subst this
    have:(ByteArray.empty) = ⟨([]:List UInt8).toArray⟩:=rfl
    simp [execOp,hx,convert,run_underlying hs.h,run_underlying he.h,run_underlying ht.h,Conv.bytesToString,this]
  | some a =>
    have hc:∀ j (hj:j < l.length),w.cell? (a.add j) = some (.int .u8 (l[j].toNat:Int)):=fun j hj=>by
      obtain ⟨a',e1,hX,hcc⟩:=h4 j l[j] (List.getElem?_eq_getElem hj)
      obtain rfl:=Option.some.inj e1
      have:=hcc 0 _ rfl
      rw [jZ] at this
      rw [eR]
      have e2:j * Flat.n UInt8 + 0 = j:=by show j * 1 + 0 = j; omega
      rw [e2] at this
      exact this
    have r1:=run_convert_bytes_back (P:=P) w src t e a cap l hs.h he.h ht.h hc
    refine ⟨by simp [execOp,hx,r1],fun ev hev=>?_⟩
    obtain ⟨l1,l2⟩:=gG (P:=P) (a:=a) (w:=w) l.length 0 (encs l) #[] (by rw [gP]; show l.length * 1 = _; omega) fun j v hj=>by
      rw [Nat.zero_add]
      rw [iE] at hj
      have hlt:j < l.length:=by have:=(List.getElem?_eq_some_iff.1 hj).1; simpa using this
      rw [hc j hlt]
      simp [List.getElem?_eq_getElem hlt] at hj
      rw [← hj]
    have l2':=l2 #[] (by simp)
    have l1' : (loadCells a l.length).run P w = .ok (encs l).toArray w:=by simpa [loadCells] using l1
    simp [execOp,hx,convert,run_underlying hs.h,run_underlying he.h,run_underlying ht.h,Conv.bytesToString,l1'] at hev
    rw [iE] at hev
    rw [uJ _ (by intro n r; simp) (by intro n r es; simp)] at hev
    exact l2' ev (by simpa [loadCells] using hev)
theorem eX {n:Int} (h1:0 ≤ n) (h2:n ≤ 255):IntKind.u8.wrap n = n:=by
  simp [IntKind.wrap,IntKind.bits,IntKind.signed]
  omega
theorem iZ {k' : IntKind} {n:Int} {src:TypeId} [hs:oL P src] [ht:qY P t .i64] (hx:ev s x = .int k' n:=by (simp only [ev,aH,reduceIte,Nat.reduceEqDiff,reduceCtorEq] <;> rfl)) (h1 : -9223372036854775808 ≤ n:=by omega) (h2:n ≤ 9223372036854775807:=by omega):Y P s h (.convert src t x) ty (vi n):=by
  have:=jP (P:=P) (s:=s) (h:=h) (ty:=ty) (x:=x) (t:=t) (k:=.i64) (k':=k') (n:=n) (src:=src) hx
  rwa [jB h1 h2] at this
def cF (n:Int):UInt8:=UInt8.ofNat (48 + n).toNat
theorem lO {n:Int} (h1:0 ≤ n) (h2:n ≤ 9):((cF n).toNat:Int) = 48 + n:=by
  have hn:(48 + n).toNat < 256:=by omega
  simp only [cF,UInt8.toNat_ofNat']
  omega
theorem vT {n:Int} {src:TypeId} [hs:oL P src] [ht:qY P t .u8] (hx:ev s x = vi (48 + n):=by (simp only [ev,aH,reduceIte,Nat.reduceEqDiff,reduceCtorEq] <;> rfl)) (h1:0 ≤ n:=by omega) (h2:n ≤ 9:=by omega):Y P s h (.convert src t x) ty (.int .u8 ((cF n).toNat:Int)):=by
  have:=jP (P:=P) (s:=s) (h:=h) (ty:=ty) (x:=x) (t:=t) (k:=.u8) (k':=.i64) (n:=48 + n) (src:=src) hx
  rw [eX (by omega) (by omega)] at this
  rwa [lO h1 h2]
end
def eU (n:Nat):Str:=if h:n < 10 then [cF n] else eU (n / 10) ++ [cF (n % 10:Nat)]
def dec (n:Int):Str:=if n < -9223372036854775807 then [45,57,50,50,51,51,55,50,48,51,54,56,53,52,55,55,53,56,48,56] else if n < 0 then 45 :: eU (-n).toNat else eU n.toNat
theorem fG {n:Nat} (h:n < 10):eU n = [cF n]:=by rw [eU,dif_pos h]
theorem jR {n:Nat} (h:¬ n < 10):eU n = eU (n / 10) ++ [cF (n % 10:Nat)]:=by rw [eU,dif_neg h]
theorem kY:∀ (k n:Nat),n < 10 ^ k → (eU n).length ≤ k + 1
  | 0,n,h=>by rw [fG (by omega)]; simp
  | k + 1,n,h=>by
    by_cases hn:n < 10
    · rw [fG hn]; simp
    · rw [jR hn,List.length_append]
      have:=kY k (n / 10) (by rw [Nat.pow_succ] at h; omega)
      simp only [List.length_cons,List.length_nil]
      omega
theorem kT {n:Int} (h:n ≤ 9223372036854775807):(dec n).length ≤ 22:=by
  unfold dec
  split
  · simp
  · split
    · have:=kY 20 (-n).toNat (by omega)
      simp only [List.length_cons]; omega
    · have:=kY 20 n.toNat (by omega)
      omega
theorem kQ {a n:Int} (h1:0 ≤ a) (h2:0 < n):0 ≤ a.tmod n∧a.tmod n < n:=⟨Int.tmod_nonneg _ h1,Int.tmod_lt_of_pos _ h2⟩
theorem lL {a n:Int} (h1:0 ≤ a) (h2:0 < n):0 ≤ a.tdiv n∧a.tdiv n ≤ a:=⟨Int.tdiv_nonneg h1 (by omega),Int.tdiv_le_self _ h1⟩
section
variable {P:Program} {s:Env} {h:Heap} {ty:TypeId} {x y:Operand} {t yt:TypeId}
theorem pM {a b:Int} (hx:ev s x = vi a:=by (simp only [ev,aH,reduceIte,Nat.reduceEqDiff,reduceCtorEq] <;> rfl)) (hy:ev s y = vi b:=by (simp only [ev,aH,reduceIte,Nat.reduceEqDiff,reduceCtorEq] <;> rfl)) (h1:0 ≤ a:=by omega) (h2:0 < b:=by omega) (h3:a ≤ 9223372036854775807:=by omega):Y P s h (.binOp .quo t x y yt) ty (vi (a.tdiv b)):=by
  have:=y_quo (P:=P) (s:=s) (h:=h) (ty:=ty) (x:=x) (y:=y) (t:=t) (yt:=yt) (k:=.i64) hx hy (by omega)
  have hb:=lL h1 h2
  rwa [jB (by omega) (by omega)] at this
theorem xor_lt {a b:Nat} (ha:a < 9223372036854775808) (hb:b < 9223372036854775808):a ^^^ b < 9223372036854775808:=Nat.xor_lt_two_pow (n:=63) (by omega) (by omega)
theorem y_xor {a b:Int} (hx:ev s x = vi a:=by (simp only [ev,aH,reduceIte,Nat.reduceEqDiff,reduceCtorEq] <;> rfl)) (hy:ev s y = vi b:=by (simp only [ev,aH,reduceIte,Nat.reduceEqDiff,reduceCtorEq] <;> rfl)) (h1:0 ≤ a:=by omega) (h2:0 ≤ b:=by omega) (h3:a ≤ 9223372036854775807:=by omega) (h4:b ≤ 9223372036854775807:=by omega):Y P s h (.binOp .xor t x y yt) ty (vi ((a.toNat ^^^ b.toNat:Nat):Int)):=fun _ _ _ _ _ _=>by
  have hl:=xor_lt (a:=a.toNat) (b:=b.toNat) (by omega) (by omega)
  have e3:IntKind.i64.wrap (((a % 2 ^ IntKind.i64.bits).toNat ^^^ (b % 2 ^ IntKind.i64.bits).toNat:Nat):Int) = ((a.toNat ^^^ b.toNat:Nat):Int):=by
    have hw:IntKind.i64.bits = 64:=rfl
    rw [hw,show a % 2 ^ 64 = a by omega,show b % 2 ^ 64 = b by omega]
    exact jB (by omega) (by omega)
  simp [execOp,hx,hy,binOp,Op.intBits,eqGuard]
  exact e3
end
end
section
open Go.Conc
theorem iV {l:List Str} {n:Nat} {s:Str} (h:l.all (fun x=>decide (x.length ≤ n)) = true) (hs:s ∈ l):s.length ≤ n:=by
  rw [List.all_eq_true] at h; simpa using h s hs
theorem jM {l:List Int} {a b n:Int} (h:l.all (fun x=>decide (a ≤ x) && decide (x ≤ b)) = true) (hs:n ∈ l):a ≤ n∧n ≤ b:=by
  rw [List.all_eq_true] at h; simpa using h n hs
theorem tP {a n:Int} (h1:0 ≤ a) (h2:1 ≤ n):0 ≤ a.tmod n∧(a.tmod n < n ∨ a.tmod n = 0):=⟨(kQ h1 (by omega)).1,.inl (kQ h1 (by omega)).2⟩
theorem tdiv10 {n:Int} (h:0 ≤ n):(n.tdiv 10).toNat = n.toNat / 10:=by rw [Int.tdiv_eq_ediv_of_nonneg h]; omega
theorem tmod10 {n:Int} (h:0 ≤ n):n.tmod 10 = ((n.toNat % 10:Nat):Int):=by rw [Int.tmod_eq_emod_of_nonneg h]; omega
def pieces (c:UInt8):Str → Str → List Str
  | [],acc=>[acc]
  | x :: s,acc=>if x = c then acc :: pieces c s [] else pieces c s (acc ++ [x])
theorem rX {c:UInt8} {s acc:Str} {k:Nat} {x:UInt8} (hx:s[k]? = some x):pieces c (s.drop k) acc = if x = c then acc :: pieces c (s.drop (k + 1)) [] else pieces c (s.drop (k + 1)) (acc ++ [x]):=by
  obtain ⟨h1,rfl⟩:=List.getElem?_eq_some_iff.1 hx
  rw [List.drop_eq_getElem_cons h1]; rfl
theorem aAT {c:UInt8} {s acc:Str} {k:Nat} (h:s.length ≤ k):pieces c (s.drop k) acc = [acc]:=by rw [List.drop_eq_nil_of_le h,pieces]
theorem nP {s:Str} {k f:Nat} {x:UInt8} (hx:s[k]? = some x) (hf:f ≤ k):(s.take (k + 1)).drop f = (s.take k).drop f ++ [x]:=by
  obtain ⟨h1,rfl⟩:=List.getElem?_eq_some_iff.1 hx
  rw [List.take_succ_eq_append_getElem h1,List.drop_append_of_le_length (by rw [List.length_take]; omega)]
theorem u8_eq {x c:UInt8}:((x.toNat:Int) = (c.toNat:Int)) ↔ x = c:=⟨fun h=>UInt8.toNat_inj.1 (by omega),fun h=>by rw [h]⟩
def dV (c:UInt8):Bool:=decide (48 ≤ (c.toNat:Int)) && decide ((c.toNat:Int) ≤ 57)
def oU (n:Int) (c:UInt8):Int:=n * 10 + ((c.toNat:Int) - 48)
def jJ (s:Str):Bool:=decide (0 < (s.length:Int)) && (s[0]?).any fun c=>decide ((c.toNat:Int) = 45)
def mU (s:Str) (neg:Bool):Bool:=decide ((s.length:Int) = 0) || decide (17 < (s.length:Int)) || (s[0]?).any fun c=>decide ((c.toNat:Int) = 48) && (decide (1 < (s.length:Int)) || neg)
def nU (s:Str) (neg:Bool):Int × Bool:=if mU s neg then (0,false) else if s.all dV then (if neg then - s.foldl oU 0 else s.foldl oU 0,true) else (0,false)
def jI (s:Str):Int × Bool:=nU (if jJ s then s.drop 1 else s) (jJ s)
theorem aAW {t:Str} {b:Bool} (h:mU t b = false):t.length ≤ 17:=by
  simp only [mU,Bool.or_eq_false_iff,decide_eq_false_iff_not] at h
  omega
theorem zE {k m:Nat} (h:k ≤ m):10 ^ k ≤ 10 ^ m:=Nat.pow_le_pow_right (by omega) h
theorem many_bd {a s T:Nat} {n:Int} (hn:0 < n) (h:a + s * n.toNat ≤ T):(n.tdiv 2).toNat < n.toNat∧(n.tmod 2 = 1 → a + s + (s + s) * (n.tdiv 2).toNat ≤ T)∧a + (s + s) * (n.tdiv 2).toNat ≤ T:=by
  have h1:n.tdiv 2 = n / 2:=Int.tdiv_eq_ediv_of_nonneg (by omega)
  have h2:n.tmod 2 = n % 2:=Int.tmod_eq_emod_of_nonneg (by omega)
  have h3:(n.tdiv 2).toNat = n.toNat / 2:=by rw [h1]; omega
  have h4:s * n.toNat = (s + s) * (n.toNat / 2) + s * (n.toNat % 2):=by
    have:=Nat.div_add_mod n.toNat 2
    rw [← Nat.two_mul,Nat.mul_comm 2 s,Nat.mul_assoc,← Nat.mul_add,this]
  rw [h3]
  refine ⟨by omega,fun ho=>?_,by omega⟩
  have h5:n.toNat % 2 = 1:=by omega
  rw [h5] at h4
  omega
theorem aAz {o:Option UInt8} {c:UInt8}:o.any (fun y=>decide ((y.toNat:Int) = (c.toNat:Int))) = true ↔ o = some c:=by
  cases o with
  | none=>simp
  | some x=>simp only [Option.any_some,decide_eq_true_eq,u8_eq,Option.some.injEq]
theorem aCp {s:Str} {c:UInt8} {k f:Nat} {m:List Str} (hk:k ≤ s.length) (e2:k ≤ s.length → f ≤ k∧m ++ pieces c (s.drop k) ((s.take k).drop f) = pieces c s []) (e4:m.length ≤ k) (g0:(decide ((k:Int) = (s.length:Int)) || (s[k]?).any (fun y=>decide ((y.toNat:Int) = (c.toNat:Int)))) = true) :
    k + 1 ≤ s.length + 1∧(k + 1 ≤ s.length → k + 1 ≤ k + 1∧(m ++ [(s.take k).drop f]) ++ pieces c (s.drop (k + 1)) ((s.take (k + 1)).drop (k + 1)) = pieces c s [])∧(k + 1 = s.length + 1 → m ++ [(s.take k).drop f] = pieces c s [])∧(m ++ [(s.take k).drop f]).length ≤ k + 1:=by
  obtain ⟨hf,hm⟩:=e2 hk
  have g:k = s.length ∨ s[k]? = some c:=by
    simp only [Bool.or_eq_true,decide_eq_true_eq,aAz] at g0
    exact g0.imp (fun h=>by omega) id
  refine ⟨by omega,fun h=>⟨Nat.le_refl _,?_⟩,fun h=>?_,by simp; omega⟩
  · rcases g with g | hx
    · omega
    · rw [rX hx,if_pos rfl] at hm
      have e:(s.take (k + 1)).drop (k + 1) = []:=List.drop_eq_nil_of_le (by rw [List.length_take]; omega)
      rw [← hm,e]
      simp
  · rw [aAT (by omega)] at hm
    exact hm
theorem aCq {s:Str} {c:UInt8} {k f:Nat} {m:List Str} (hk:k ≤ s.length) (e2:k ≤ s.length → f ≤ k∧m ++ pieces c (s.drop k) ((s.take k).drop f) = pieces c s []) (e4:m.length ≤ k) (g0:(decide ((k:Int) = (s.length:Int)) || (s[k]?).any (fun y=>decide ((y.toNat:Int) = (c.toNat:Int)))) = false) :
    k + 1 ≤ s.length + 1∧(k + 1 ≤ s.length → f ≤ k + 1∧m ++ pieces c (s.drop (k + 1)) ((s.take (k + 1)).drop f) = pieces c s [])∧(k + 1 = s.length + 1 → m = pieces c s [])∧m.length ≤ k + 1:=by
  obtain ⟨hf,hm⟩:=e2 hk
  have g:¬ k = s.length∧¬ s[k]? = some c:=by
    rw [Bool.or_eq_false_iff] at g0
    refine ⟨fun h=>?_,fun h=>?_⟩
    · have:=of_decide_eq_false g0.1; omega
    · rw [aAz.2 h] at g0; cases g0.2
  refine ⟨by omega,fun h=>⟨by omega,?_⟩,fun h=>by omega,by omega⟩
  obtain ⟨x,hx⟩:∃ x,s[k]? = some x:=⟨_,List.getElem?_eq_getElem (by omega)⟩
  rw [rX hx,if_neg (fun e=>g.2 (by rw [hx,e]))] at hm
  rw [nP hx hf]
  exact hm
set_option maxHeartbeats 1000000 in
theorem eH {w0:World} {h:Heap} {O:Nat → Prop} {br:Nat} {p:Int} {n:Int} (kr:RD h O br p) (OB0:OB h O) (hp:p + 1 ≤ 1000000000:=by omega):HC (XM PP) w0 24 [.pointer (some ⟨br,0,none⟩),vi n].toArray h (fun rv h'=>∃ (i:Int) ,rv = vi i∧pD O br p 1 h h' ∧ (0 ≤ i∧(i < n ∨ i = 0))):=by
 obtain ⟨sb,bs,Br,kb0,mbr,hbs,hp0⟩:=kr
 have brl:=Br.lt
 have kb:Rs h O sb bs:=⟨kb0,⟨by omega,fun _ _=>trivial⟩⟩
 obtain ⟨Akb,nkb,ckb,rfl⟩:=kb.frm
 have le:=Mod.refl (S:=(· = br)) h
 have OBe:=OB0
 refine aV 99 [(0,.pointer (some ⟨br,0,none⟩)),(1,vi n)] Tryz.func24 (fun r=>?_)
 refine hw_sr (aB aC<|aD ?_)
 refine hw_sr (aB y_move<|aB y_move<|aB y_nilCheck<|aB y_fieldAddr<|aB (y_load (Blk.at Br rfl rfl))<|?_)
 refine aB bI<|aB y_nilCheck<|aB y_fieldAddr<|bO (aK aP Br) (fun v1 h1 q1=>?_)
 obtain ⟨rfl,q1⟩:=q1
 have z1:=q1.1
 have Br:=q1.2.2
 refine aD ?_
 refine aF (ah2 0 1) fun r=>?_
 refine aI ?_
 refine hw_sr (aB y_move<|aB dB<|aB y_move<|?_)
 refine bB 7 [(0,.pointer (some ⟨br,0,none⟩)),(1,vi n),(24,vb ((decide (n < 1)) || (decide ((bs.length:Int) = 0))))] (fun r=>?_) (fun jn=>?_)
 refine aD ?_
 refine bF (fun g24=>?_) (fun g24=>?_)
 have g24':=g24
 simp at g24'
 refine hw_sr (aB aC<|aD ?_)
 refine hw_rr ?_
 refine aQ rfl (.cons aU .nil) ?_
 replace kb:=kb.st q1 mbr
 have kr:RD _ _ br _:=⟨_,_,Br,kb.1,mbr,hbs,by omega⟩
 replace le:=le.stO q1 rfl
 exact ⟨_,by first | rfl | (simp_all [oneOf] <;> omega),⟨le,_,kr,by omega,by omega⟩,⟨by omega,.inr rfl⟩⟩
 have g24':=g24
 simp at g24'
 refine aM ?_
 refine hw_sr (aB y_move<|aB y_nilCheck<|aB y_fieldAddr<|aB (y_load (Blk.at Br rfl rfl))<|?_)
 refine aB dQ<|aB aC<|aD ?_
 refine aF (ah3 0 1 5) fun r=>?_
 refine aI ?_
 refine hw_sr (aB y_move<|aB y_move<|aB y_nilCheck<|aB y_fieldAddr<|aB (y_load (Blk.at Br rfl rfl))<|aB (y_lenA kb.1)<|aB dB<|aD ?_)
 refine aF (ah4 0 1 5 36) fun r=>?_
 refine aZ (fun g36=>?_) (fun g36=>?_)
 refine hw_sr (aB y_move<|aB y_nilCheck<|aB y_fieldAddr<|aB (y_load (Blk.at Br rfl rfl))<|aB y_move<|?_)
 obtain ⟨x1,hx1⟩:∃ x,bs[(((p + 1) - 1)).toNat]? = some x:=⟨_,List.getElem?_eq_getElem (by omega)⟩
 have bx1:=x1.toNat_lt
 refine aB (gR kb.1)<|?_
 replace kb:=kb.st q1 mbr
 refine aB (y_load (RdF.cell1 kb.1 hx1 rfl))<|aB fT<|aB y_move<|?_
 refine aB pE<|aB aC<|aD ?_
 refine aF (ah1 4) fun r=>?_
 refine hw_rr ?_
 refine aQ rfl (.cons aU .nil) ?_
 have kr:RD _ _ br _:=⟨_,_,Br,kb.1,mbr,hbs,by omega⟩
 replace le:=le.stO q1 rfl
 exact ⟨_,by first | rfl | (simp_all [oneOf] <;> omega),⟨le,_,kr,by omega,by omega⟩,tP (by omega) (by omega)⟩
 refine aM ?_
 refine aI ?_
 simp only [not_or,Bool.or_eq_false_iff,decide_eq_false_iff_not] at g24
 obtain ⟨t1,t2⟩:=kQ (a:=((p + 1) - 1)) (n:=(bs.length:Int)) (by omega) (by omega)
 obtain ⟨t3,t4⟩:=kQ (a:=((((p + 1) - 1) * 7) + 3)) (n:=(bs.length:Int)) (by omega) (by omega)
 obtain ⟨t5,t6⟩:=lL (a:=((p + 1) - 1)) (n:=(bs.length:Int)) (by omega) (by omega)
 refine fR (bN y_move<|bN y_nilCheck<|bN y_fieldAddr<|bN (y_load (Blk.at Br rfl rfl))<|bN y_move<|bN y_move<|bN y_nilCheck<|bN y_fieldAddr<|bN (y_load (Blk.at Br rfl rfl))<|bN (y_lenA kb.1)<|?_)
 refine bN pE<|?_
 obtain ⟨x2,hx2⟩:∃ x,bs[((Int.tmod ((p + 1) - 1) (bs.length:Int))).toNat]? = some x:=⟨_,List.getElem?_eq_getElem (by omega)⟩
 have bx2:=x2.toNat_lt
 refine bN (gR kb.1)<|?_
 replace kb:=kb.st q1 mbr
 refine bN (y_load (RdF.cell1 kb.1 hx2 rfl))<|bN fT<|?_
 refine bN hG<|bN y_move<|bN y_nilCheck<|bN y_fieldAddr<|bN (y_load (Blk.at Br rfl rfl))<|bN y_move<|?_
 refine bN hG<|bN bI<|bN y_move<|bN y_nilCheck<|bN y_fieldAddr<|bN (y_load (Blk.at Br rfl rfl))<|bN (y_lenA kb.1)<|?_
 refine bN pE<|?_
 obtain ⟨x3,hx3⟩:∃ x,bs[((Int.tmod ((((p + 1) - 1) * 7) + 3) (bs.length:Int))).toNat]? = some x:=⟨_,List.getElem?_eq_getElem (by omega)⟩
 have bx3:=x3.toNat_lt
 refine bN (gR kb.1)<|bN (y_load (RdF.cell1 kb.1 hx3 rfl))<|bN fT<|?_
 refine bN hG<|bN bI<|bN y_move<|bN hG<|bN bI<|bN y_move<|bN y_move<|bN y_nilCheck<|bN y_fieldAddr<|bN (y_load (Blk.at Br rfl rfl))<|bN (y_lenA kb.1)<|?_
 refine bN pM<|bN hG<|bN bI<|bN aC<|gO ?_
 refine aF (ah2 1 6) fun r=>?_
 refine aI ?_
 obtain ⟨t7,t8⟩:=lL (a:=(((((x2.toNat:Int) * 131) + ((x3.toNat:Int) * 1117)) + (((p + 1) - 1) * 29)) + ((Int.tdiv ((p + 1) - 1) (bs.length:Int)) * 53))) (n:=64) (by omega) (by omega)
 refine aE (aB y_move<|aB y_move<|aB pM<|aB y_xor<|aB aC<|aD ?_)
 refine aF (ah2 1 6) fun r=>?_
 refine hw_sr (aB y_move<|aB y_move<|aB pE<|aB aC<|aD ?_)
 refine aF (ah1 4) fun r=>?_
 refine hw_rr ?_
 refine aQ rfl (.cons aU .nil) ?_
 have kr:RD _ _ br _:=⟨_,_,Br,kb.1,mbr,hbs,by omega⟩
 replace le:=le.stO q1 rfl
 exact ⟨_,by first | rfl | (simp_all [oneOf] <;> omega),⟨le,_,kr,by omega,by omega⟩,tP (by omega) (by omega)⟩
 refine dA (n < 1) (fun g17=>?_) (fun g17=>?_)
 refine aN (neT (dT g17))<|aN (neT (dT g17))<|aN (neT (dT g17))<|aN (neT (dT g17))<|aN (neT (dT g17))<|aN (neT (dT g17))<|aB (y_pickT (dT g17))<|?_
 exact jn _ (aA (aA (aA aJ (by simp only [aH,reduceIte,Nat.reduceEqDiff,reduceCtorEq,(dT g17),bb]))))
 refine aO (dF g17) y_move<|aO (dF g17) y_nilCheck<|aO (dF g17) y_fieldAddr<|aO (dF g17) (y_load (Blk.at Br rfl rfl))<|aO (dF g17) (y_lenA kb.1)<|aO (dF g17) bM<|aB (aR (dF g17))<|?_
 exact jn _ (aA (aA (aA aJ (by simp only [aH,reduceIte,Nat.reduceEqDiff,reduceCtorEq,(dF g17),bb]))))
set_option maxHeartbeats 1000000 in
theorem nK {w0:World} {h:Heap} {O:Nat → Prop} {br:Nat} {p:Int} {list:List Str} {k1v:Value} (kr:RD h O br p) (k1:Rs h O k1v list) (OB0:OB h O) (hp:p + 1 ≤ 1000000000:=by omega) (hne:0 < list.length:=by simp):HC (XM PP) w0 40 [.pointer (some ⟨br,0,none⟩),k1v].toArray h (fun rv h'=>∃ (s:Str) ,rv = vs s∧pD O br p 1 h h' ∧ s ∈ list):=by
 obtain ⟨Ak1,nk1,ck1,rfl⟩:=k1.frm
 have le:=Mod.refl (S:=(· = br)) h
 have brl:=kr.lt
 have mbr:=kr.mem
 have OBe:=OB0
 refine aV 12 [(0,.pointer (some ⟨br,0,none⟩)),(1,(.slice Ak1 nk1 ck1))] Tryz.func40 (fun r=>?_)
 refine hw_sr (aB aC<|aD ?_)
 refine hw_sr (aB y_move<|aB y_move<|aB y_move<|aB (y_lenA k1.1)<|bL aG (eH kr OB0) (fun v1 h1 q1=>?_))
 obtain ⟨i1,rfl,⟨m1,p1,kr,pa1,pb1⟩,pr1⟩:=q1
 have z1:=m1.1
 have pr:=pr1
 obtain ⟨x1,hx1⟩:∃ x,list[(i1).toNat]? = some x:=⟨_,List.getElem?_eq_getElem (by omega)⟩
 have sx1:SB x1:=k1.2.at hx1
 refine aB (gR k1.1)<|?_
 replace k1:=k1.md m1 (fun _ e=>e ▸ mbr)
 refine aB (y_load (RdF.cell1 k1.1 hx1 rfl))<|aB aC<|aD ?_
 refine aF (ah1 4) fun r=>?_
 refine hw_rr ?_
 refine aQ rfl (.cons aU .nil) ?_
 replace le:=le.t m1
 exact ⟨_,by first | rfl | (simp_all [oneOf] <;> omega),⟨le,_,kr,by omega,by omega⟩,List.mem_of_getElem? hx1⟩
set_option maxHeartbeats 1000000 in
theorem jH {w0:World} {h:Heap} {O:Nat → Prop} {br:Nat} {p:Int} {list:List Int} {k1v:Value} (kr:RD h O br p) (k1:Rs h O k1v list) (OB0:OB h O) (hp:p + 1 ≤ 1000000000:=by omega) (hne:0 < list.length:=by simp):HC (XM PP) w0 31 [.pointer (some ⟨br,0,none⟩),k1v].toArray h (fun rv h'=>∃ (n:Int) ,rv = vi n∧pD O br p 1 h h' ∧ n ∈ list):=by
 obtain ⟨Ak1,nk1,ck1,rfl⟩:=k1.frm
 have le:=Mod.refl (S:=(· = br)) h
 have brl:=kr.lt
 have mbr:=kr.mem
 have OBe:=OB0
 refine aV 12 [(0,.pointer (some ⟨br,0,none⟩)),(1,(.slice Ak1 nk1 ck1))] Tryz.func31 (fun r=>?_)
 refine hw_sr (aB aC<|aD ?_)
 refine hw_sr (aB y_move<|aB y_move<|aB y_move<|aB (y_lenA k1.1)<|bL aG (eH kr OB0) (fun v1 h1 q1=>?_))
 obtain ⟨i1,rfl,⟨m1,p1,kr,pa1,pb1⟩,pr1⟩:=q1
 have z1:=m1.1
 obtain ⟨x1,hx1⟩:∃ x,list[(i1).toNat]? = some x:=⟨_,List.getElem?_eq_getElem (by omega)⟩
 refine aB (gR k1.1)<|?_
 replace k1:=k1.md m1 (fun _ e=>e ▸ mbr)
 refine aB (y_load (RdF.cell1 k1.1 hx1 rfl))<|aB aC<|aD ?_
 refine aF (ah1 4) fun r=>?_
 refine hw_rr ?_
 refine aQ rfl (.cons aU .nil) ?_
 replace le:=le.t m1
 exact ⟨_,by first | rfl | (simp_all [oneOf] <;> omega),⟨le,_,kr,by omega,by omega⟩,List.mem_of_getElem? hx1⟩
set_option maxHeartbeats 1000000 in
theorem aAa {w0:World} {h:Heap} {O:Nat → Prop} {n:Int}  (OB0:OB h O)  (h0:0 ≤ n:=by omega) (h1:n ≤ 9223372036854775807:=by omega):HC (XM PP) w0 86 [vi n].toArray h (fun rv h'=>rv = vs (dec n)∧Le h h'):=by
 have le:=Le.refl h
 have OBe:=OB0
 refine aV 31 [(0,vi n)] Tryz.func86 (fun r=>?_)
 refine hw_sr (aB aC<|aD ?_)
 refine aI ?_
 refine hw_sr (aB y_move<|aB dB<|aD ?_)
 refine aZ (fun g5=>?_) (fun g5=>?_)
 omega
 refine aM ?_
 refine aI ?_
 refine hw_sr (aB y_move<|aB dB<|aD ?_)
 refine aZ (fun g7=>?_) (fun g7=>?_)
 omega
 refine aM ?_
 refine hw_sr (aB aC<|aD ?_)
 refine dH (fun (gx:Int × Str)=>match gx with | (m,out)=>[(0,vi m),(3,vs out)]) (fun (gx:Int × Str) (h' : Heap)=>match gx with | (m,out)=>Le h h' ∧ eU n.toNat = eU m.toNat ++ out∧0 ≤ m∧m ≤ 9) (aX (cK (fun (gx:Int × Str)=>match gx with | (m,out)=>[(0,vi m),(3,vs out)]) (fun (gx:Int × Str) (h' : Heap)=>match gx with | (m,out)=>Le h h' ∧ eU n.toNat = eU m.toNat ++ out∧0 ≤ m∧m ≤ n) (fun (gx:Int × Str)=>match gx with | (m,out)=>m.toNat) (n,[]) ag2 ⟨Le.refl _,by exact ⟨by simp,by omega,by omega⟩⟩ ?_)) ?_
 rintro ⟨m,out⟩ r hl1 ⟨lp1,e1,e2,e3⟩
 have zl1:=lp1.1
 have tm:=kQ (a:=m) (n:=10) (by omega) (by omega)
 have td:=lL (a:=m) (n:=10) (by omega) (by omega)
 have te:=tdiv10 e2
 have hl:out.length ≤ 22:=by have:=kY 20 n.toNat (by omega); rw [e1] at this; simp at this; omega
 have lr1:=lp1
 refine aI ?_
 refine hw_sr (aB y_move<|aB cU<|aD ?_)
 refine aZ (fun g13=>?_) (fun g13=>?_)
 refine aM ?_
 refine aX ?_
 refine hw_sr (aB y_move<|aB pE<|aB bI<|aB vT<|?_)
 refine bE (bA (l:=([(cF (Int.tmod m 10))]:List UInt8))) (fun v2 h2 q2=>?_)
 obtain ⟨lb2,ow2,sb2⟩:=q2
 have z2:=lb2.1
 replace OB0:=OB0.leO lp1.1
 have k2:Rs _ O _ _:=Ow.end ⟨ow2,ok1⟩ OB0
 obtain ⟨A3,n3,c3,rfl⟩:=k2.frm
 refine aB (mB k2.1)<|aB y_move<|aB dX<|aB aC<|aD ?_
 refine aF (ah2 0 3) fun r=>?_
 refine aE (aB y_move<|aB pM<|aB aC<|aD ?_)
 replace lr1:=lr1.t lb2
 exact ⟨((Int.tdiv m 10),(([(cF (Int.tmod m 10))]:List UInt8) ++ out)),ag2,⟨lr1,by exact ⟨by rw [e1,jR (n:=m.toNat) (by omega),te,tmod10 e2]; simp,by omega,by omega⟩⟩,by first | omega | (dsimp only; omega)⟩
 refine cI ?_
 exact ⟨(m,out),ag2,⟨lr1,by exact ⟨e1,e2,by omega⟩⟩⟩
 rintro ⟨m,out⟩ r hl1 ⟨lp1,e1,e2,e3⟩
 have zl1:=lp1.1
 have hl:out.length ≤ 22:=by have:=kY 20 n.toNat (by omega); rw [e1] at this; simp at this; omega
 refine hw_sr (aB y_move<|aB bI<|aB vT<|?_)
 refine bE (bA (l:=([(cF m)]:List UInt8))) (fun v4 h4 q4=>?_)
 obtain ⟨lb4,ow4,sb4⟩:=q4
 have z4:=lb4.1
 replace OB0:=OB0.leO lp1.1
 have k4:Rs _ O _ _:=Ow.end ⟨ow4,ok1⟩ OB0
 obtain ⟨A5,n5,c5,rfl⟩:=k4.frm
 refine aB (mB k4.1)<|aB y_move<|aB dX<|aB aC<|aD ?_
 refine aF (ah1 2) fun r=>?_
 refine hw_rr ?_
 refine aQ rfl (.cons aU .nil) ?_
 have hd:dec n = [cF m] ++ out:=by unfold dec; rw [if_neg (by omega),if_neg (by omega),e1,fG (by omega),show ((m.toNat:Nat):Int) = m by omega]
 replace le:=(le.t lp1).t lb4
 exact ⟨by first | rfl | (rw [hd]; rfl),le⟩
set_option maxHeartbeats 1000000 in
theorem lB {w0:World} {h:Heap} {O:Nat → Prop} {n:Int}  (OB0:OB h O)  (h1:n ≤ 9223372036854775807:=by omega):HC (XM PP) w0 86 [vi n].toArray h (fun rv h'=>rv = vs (dec n)∧Le h h'):=by
 have le:=Le.refl h
 have OBe:=OB0
 by_cases h0:0 ≤ n
 exact aAa OB0 h0 h1
 have hd:=kT (n:=-n)
 refine aV 31 [(0,vi n)] Tryz.func86 (fun r=>?_)
 refine hw_sr (aB aC<|aD ?_)
 refine aI ?_
 refine hw_sr (aB y_move<|aB dB<|aD ?_)
 refine aZ (fun g5=>?_) (fun g5=>?_)
 refine hw_sr (aB aC<|aD ?_)
 refine hw_rr ?_
 refine aQ rfl (.cons aU .nil) ?_
 have hd2:dec n = [45,57,50,50,51,51,55,50,48,51,54,56,53,52,55,55,53,56,48,56]:=by unfold dec; rw [if_pos g5]
 exact ⟨by first | rfl | (rw [hd2]; rfl),le⟩
 refine aM ?_
 refine aI ?_
 refine hw_sr (aB y_move<|aB dB<|aD ?_)
 refine aZ (fun g7=>?_) (fun g7=>?_)
 have hd:=kT (n:=-n) (by omega)
 refine hw_sr (aB y_move<|aB aBr<|bL aG (aAa OB0) (fun v1 h1 q1=>?_))
 obtain ⟨rfl,lc1⟩:=q1
 have z1:=lc1.1
 refine aB dX<|aB aC<|aD ?_
 refine aF (ah1 2) fun r=>?_
 refine hw_rr ?_
 refine aQ rfl (.cons aU .nil) ?_
 have hd2:dec n = [45] ++ dec (-n):=by unfold dec; rw [if_neg (by omega),if_pos g7,if_neg (by omega),if_neg (by omega)]; rfl
 replace le:=le.t lc1
 exact ⟨by first | rfl | (rw [hd2]; rfl),le⟩
 omega
set_option maxHeartbeats 1000000 in
theorem aCb {w0:World} {h:Heap} {s:Str} {n:Int}  (s0:SB s:=by first | assumption | omega | (simp; omega)) (hT:s.length * n.toNat ≤ 1000000:=by simp; omega) (hn:n ≤ 1000000:=by omega):HC (XM PP) w0 78 [vs s,vi n].toArray h (fun rv h'=>∃ (r:Str) ,rv = vs r∧h' = h∧r.length ≤ s.length * n.toNat):=by
 refine aV 20 [(0,vs s),(1,vi n)] Tryz.func78 (fun r=>?_)
 refine hw_sr (aB aC<|aD ?_)
 refine hw_sr (aB aC<|aD ?_)
 refine dH (fun (gx:Str × Int × Str)=>match gx with | (t,m,out)=>[(0,vs t),(1,vi m),(5,vs out)]) (fun (gx:Str × Int × Str) (h' : Heap)=>match gx with | (t,m,out)=>h = h' ∧ out.length ≤ s.length * n.toNat) (aX (cK (fun (gx:Str × Int × Str)=>match gx with | (t,m,out)=>[(0,vs t),(1,vi m),(5,vs out)]) (fun (gx:Str × Int × Str) (h' : Heap)=>match gx with | (t,m,out)=>h = h' ∧ out.length + t.length * m.toNat ≤ s.length * n.toNat∧m ≤ 1000000) (fun (gx:Str × Int × Str)=>match gx with | (t,m,out)=>m.toNat) (s,n,[]) ag3 ⟨rfl,by exact ⟨by simp,hn⟩⟩ ?_)) ?_
 rintro ⟨t,m,out⟩ r _ ⟨rfl,e1,e2⟩
 refine aI ?_
 refine hw_sr (aB y_move<|aB cU<|aD ?_)
 refine aZ (fun g7=>?_) (fun g7=>?_)
 have tm:=kQ (a:=m) (n:=2) (by omega) (by omega)
 have td:=lL (a:=m) (n:=2) (by omega) (by omega)
 obtain ⟨te,tf,tg⟩:=many_bd (by omega) e1
 have tl:t.length ≤ 1000000:=by have:=Nat.le_mul_of_pos_right t.length (show 0 < m.toNat by omega); omega
 refine aM ?_
 refine aX ?_
 refine aI ?_
 refine hw_sr (aB y_move<|aB pE<|aB bM<|aD ?_)
 refine aZ (fun g10=>?_) (fun g10=>?_)
 refine aE (aB y_move<|aB y_move<|aB dX<|aB aC<|aD ?_)
 refine aF (ah3 0 1 5) fun r=>?_
 refine hw_sr (aB y_move<|aB y_move<|aB dX<|aB aC<|aD ?_)
 refine aF (ah3 0 1 5) fun r=>?_
 refine aE (aB y_move<|aB pM<|aB aC<|aD ?_)
 exact ⟨((t ++ t),(Int.tdiv m 2),(out ++ t)),ag3,⟨rfl,by exact ⟨by rw [List.length_append,List.length_append]; exact tf (by omega),by omega⟩⟩,by exact te⟩
 refine aM ?_
 refine hw_sr (aB y_move<|aB y_move<|aB dX<|aB aC<|aD ?_)
 refine aF (ah3 0 1 5) fun r=>?_
 refine aE (aB y_move<|aB pM<|aB aC<|aD ?_)
 exact ⟨((t ++ t),(Int.tdiv m 2),out),ag3,⟨rfl,by exact ⟨by rw [List.length_append]; exact tg,by omega⟩⟩,by exact te⟩
 refine cI ?_
 exact ⟨(t,m,out),ag3,⟨rfl,by exact Nat.le_trans (Nat.le_add_right _ _) e1⟩⟩
 rintro ⟨t,m,out⟩ r _ ⟨rfl,e1⟩
 refine hw_sr (aB y_move<|aB aC<|aD ?_)
 refine hw_rr ?_
 refine aQ rfl (.cons aU .nil) ?_
 exact ⟨_,by first | rfl | (simp_all [oneOf] <;> omega),rfl,e1⟩
set_option maxHeartbeats 1000000 in
theorem aAb {w0:World} {h:Heap} {O:Nat → Prop} {s:Str} {c:UInt8}  (OB0:OB h O) (s0:SB s:=by first | assumption | omega | (simp; omega)) (hl:s.length ≤ 1000000:=by first | omega | (simp; omega)):HC (XM PP) w0 65 [vs s,.int .u8 (c.toNat:Int)].toArray h (fun rv h'=>Le h h' ∧ Rs h' O rv (pieces c s [])):=by
 have le:=Le.refl h
 have OBe:=OB0
 refine aV 36 [(0,vs s),(1,.int .u8 (c.toNat:Int))] Tryz.func65 (fun r=>?_)
 refine hw_sr (aB aC<|aD ?_)
 refine hw_sr (bE (bA (l:=([]:List Str))) (fun v1 h1 q1=>?_))
 obtain ⟨lb1,ow1,sb1⟩:=q1
 have z1:=lb1.1
 obtain ⟨O1,hO1⟩:=mkO (fun x=>O x ∨ vblk v1 x)
 have o1:Ow _ _ _ _ _:=⟨ow1,OkL.nil⟩
 obtain ⟨A2,n2,c2,rfl⟩:=o1.frm
 refine aB aC<|aD ?_
 refine hw_sr (aB aC<|aD ?_)
 refine aI ?_
 refine hw_sr (aB aC<|aD ?_)
 replace le:=le.t lb1
 replace OB0:=OB0.newS lb1.1 hO1 (fun x hv=>(ow1.vb hv).2)
 refine cT (fun (gx:Nat × Nat × (List Str) × (Nat → Prop) × Value)=>match gx with | (k,f,m,OL3,ov)=>[(0,vs s),(1,.int .u8 (c.toNat:Int)),(5,ov),(6,vi (f:Int)),(7,vi (k:Int))]) (fun (gx:Nat × Nat × (List Str) × (Nat → Prop) × Value) (h' : Heap)=>match gx with | (k,f,m,OL3,ov)=>Le h h' ∧ Mod O1 h1 h' ∧ (∀ x,OL3 x → O1 x ∨ h1.size ≤ x)∧(∀ x,O1 x → OL3 x)∧OB h' OL3∧Ow h' h.size ov m 9∧(∀ x,vblk ov x → OL3 x)∧m = pieces c s []) (aX (cK (fun (gx:Nat × Nat × (List Str) × (Nat → Prop) × Value)=>match gx with | (k,f,m,OL3,ov)=>[(0,vs s),(1,.int .u8 (c.toNat:Int)),(5,ov),(6,vi (f:Int)),(7,vi (k:Int))]) (fun (gx:Nat × Nat × (List Str) × (Nat → Prop) × Value) (h' : Heap)=>match gx with | (k,f,m,OL3,ov)=>Le h h' ∧ Mod O1 h1 h' ∧ (∀ x,OL3 x → O1 x ∨ h1.size ≤ x)∧(∀ x,O1 x → OL3 x)∧OB h' OL3∧Ow h' h.size ov m 9∧(∀ x,vblk ov x → OL3 x)∧k ≤ s.length + 1∧(k ≤ s.length → f ≤ k∧m ++ pieces c (s.drop k) ((s.take k).drop f) = pieces c s [])∧(k = s.length + 1 → m = pieces c s [])∧m.length ≤ k) (fun (gx:Nat × Nat × (List Str) × (Nat → Prop) × Value)=>match gx with | (k,f,m,OL3,ov)=>s.length + 1 - k) (0,0,[],O1,(.slice A2 n2 c2)) ag5 ⟨le,Mod.refl _,fun x hx=>.inl hx,fun x hx=>hx,OB0,o1.wk (by omega),(fun x hv=>(hO1 x).2 (.inr hv)),by simp⟩ ?_)) ?_
 rintro ⟨k,f,m,OL3,ov⟩ r hl3 ⟨le,lp3,la3,lb3,lo3,o1,mo1,e1,e2,e3,e4⟩
 obtain ⟨A4,n4,c4,rfl⟩:=o1.frm
 have zl3:=lp3.1
 have lr3:=lp3
 have lx3:=la3
 refine aI ?_
 refine hw_sr (aB y_move<|aB y_move<|aB y_len_str<|aB y_leq<|aD ?_)
 refine aF (ah6 0 1 5 6 7 12) fun r=>?_
 refine aZ (fun g12=>?_) (fun g12=>?_)
 refine aM ?_
 refine aI ?_
 refine aX ?_
 refine hw_sr (aB y_move<|aB y_move<|aB y_len_str<|aB bM<|aB y_move<|?_)
 refine bB 6 [(0,vs s),(1,.int .u8 (c.toNat:Int)),(5,(.slice A4 n4 c4)),(6,vi (f:Int)),(7,vi (k:Int)),(25,vb ((decide ((k:Int) = (s.length:Int))) || ((s[k]?).any (fun y=>(decide ((y.toNat:Int) = (c.toNat:Int)))))))] (fun r=>?_) (fun jn=>?_)
 refine aD ?_
 refine bF (fun g25=>?_) (fun g25=>?_)
 have g25':=g25
 simp at g25'
 obtain ⟨hf,hm⟩:=e2 (by omega)
 refine hw_sr (aB y_move<|aB y_move<|aB y_move<|aB y_move<|aB yK<|?_)
 have OB0:=lo3
 refine bE (bA (l:=([(((s.take k)).drop f)]:List Str))) (fun v5 h5 q5=>?_)
 obtain ⟨lb5,ow5,sb5⟩:=q5
 have z5:=lb5.1
 have k5:Rs _ OL3 _ _:=Ow.end ⟨ow5,ok1⟩ OB0
 obtain ⟨A6,n6,c6,rfl⟩:=k5.frm
 replace o1:=o1.le lb5
 refine bE (bW aP o1.1 k5.1 (by omega) (Nat.add_le_add o1.2.len k5.2.len)) (fun v7 h7 q7=>?_)
 have L1:=o1.2.len
 have L2:=k5.2.len
 obtain ⟨O7,hO7,z7,ow7⟩:=q7.ow (OkL.app o1.2 k5.2 (by first | omega | (simp only [List.length_append,List.length_take,List.length_drop,List.length_cons,List.length_nil,List.length_set]; omega) | (simp; omega))) OL3
 replace lr3:=(lr3.tl lb5).apO q7 (fun x hv=>lx3 x (mo1 x hv))
 have lx3:=laA lx3 hO7 q7 mo1 (by omega)
 replace le:=(le.t lb5).ap o1 q7 (by omega)
 have o1:=ow7
 obtain ⟨A8,n8,c8,rfl⟩:=o1.frm
 refine aB aC<|aD ?_
 refine aF (ah5 0 1 5 6 7) fun r=>?_
 refine aE (aB y_move<|aB bI<|aB aC<|aD ?_)
 refine aE (aB y_move<|aB bI<|aB aC<|aD ?_)
 replace OB0:=(OB0.leO lb5.1).app q7 hO7
 exact ⟨(k + 1,k + 1,(m ++ ([(((s.take k)).drop f)]:List Str)),O7,(.slice A8 n8 c8)),ag5,⟨le,lr3,lx3,fun x hx=>(il hO7 (lb3 _ hx)),OB0,o1,(fun x hv=>(hO7 x).2 (.inr hv)),by exact aCp (by omega) e2 e4 g25⟩,by first | omega | (dsimp only; omega)⟩
 have g25':=g25
 simp at g25'
 obtain ⟨hf,hm⟩:=e2 (by omega)
 refine aM ?_
 refine aE (aB y_move<|aB bI<|aB aC<|aD ?_)
 have OB0:=lo3
 exact ⟨(k + 1,f,m,OL3,(.slice A4 n4 c4)),ag5,⟨le,lr3,lx3,fun x hx=>(lb3 _ hx),OB0,o1,mo1,by exact aCq (by omega) e2 e4 g25⟩,by first | omega | (dsimp only; omega)⟩
 refine dA ((k:Int) = (s.length:Int)) (fun g19=>?_) (fun g19=>?_)
 refine aN (neT (dT g19))<|aN (neT (dT g19))<|aN (neT (dT g19))<|aN (neT (dT g19))<|aN (neT (dT g19))<|aB (y_pickT (dT g19))<|?_
 exact jn _ (aA (aA (aA (aA (aA (aA aJ (by simp only [aH,reduceIte,Nat.reduceEqDiff,reduceCtorEq,(dT g19),bb])))))))
 refine aO (dF g19) y_move<|aO (dF g19) y_move<|?_
 obtain ⟨x1,hx1⟩:∃ c,s[k]? = some c:=⟨_,List.getElem?_eq_getElem (by omega)⟩
 refine aO (dF g19) (bV hx1)<|aO (dF g19) y_move<|aO (dF g19) bM<|aB (aR (dF g19))<|?_
 exact jn _ (aA (aA (aA (aA (aA (aA aJ (by simp only [aH,reduceIte,Nat.reduceEqDiff,reduceCtorEq,(dF g19),hx1,bb])))))))
 refine cI ?_
 have OB0:=lo3
 exact ⟨(k,f,m,OL3,(.slice A4 n4 c4)),ag5,⟨le,lr3,lx3,fun x hx=>(lb3 _ hx),OB0,o1,mo1,by exact e3 (by omega)⟩⟩
 rintro ⟨k,f,m,OL3,ov⟩ r hl3 ⟨le,lp3,la3,lb3,lo3,o1,mo1,e1⟩
 obtain ⟨A9,n9,c9,rfl⟩:=o1.frm
 have zl3:=lp3.1
 refine hw_sr (aB y_move<|aB aC<|aD ?_)
 refine hw_rr ?_
 refine aQ rfl (.cons aU .nil) ?_
 exact ⟨le,(o1.fin OBe (by omega)).cast (by first | rfl | (simp_all [oneOf] <;> omega))⟩
set_option maxHeartbeats 1000000 in
theorem zZ {w0:World} {h:Heap} {s:Str}  (s0:SB s:=by first | assumption | omega | (simp; omega)):HC (XM PP) w0 66 [vs s].toArray h (fun rv h'=>rv = .tuple #[vi ((jI s).1),vb ((jI s).2)]∧h' = h):=by
 refine aV 67 [(0,vs s)] Tryz.func66 (fun r=>?_)
 refine hw_sr (aB aC<|aB aC<|aD ?_)
 refine hw_sr (aB y_move<|aB y_len_str<|aB cU<|aB y_move<|?_)
 refine bB 4 [(0,vs s),(14,vb ((decide ((0:Int) < (s.length:Int))) && ((s[0]?).any (fun y=>(decide ((y.toNat:Int) = 45))))))] (fun r=>?_) (fun jn=>?_)
 refine aB aC<|aD ?_
 refine dH (fun (t:Str)=>[(0,vs t),(4,vb ((decide ((0:Int) < (s.length:Int))) && ((s[0]?).any (fun y=>(decide ((y.toNat:Int) = 45))))))]) (fun (t:Str) (h' : Heap)=>h = h' ∧ t = (if jJ s then s.drop 1 else s)∧t.length ≤ 4294967296) ?_ ?_
 refine hw_sr (aB y_move<|aD ?_)
 refine bF (fun g15=>?_) (fun g15=>?_)
 have g15':=g15
 simp at g15'
 refine aE (aB y_move<|aB hQ<|aB aC<|aD ?_)
 exact ⟨(s.drop 1),ag2,⟨rfl,by exact ⟨by rw [if_pos (show jJ s = true from g15)],by simp; omega⟩⟩⟩
 have g15':=g15
 simp at g15'
 refine aM ?_
 exact ⟨s,ag2,⟨rfl,by exact ⟨by rw [if_neg (neF (show jJ s = false from g15))],by omega⟩⟩⟩
 rintro t r _ ⟨rfl,e0,et⟩
 refine aI ?_
 refine hw_sr (aB y_move<|aB y_len_str<|aB bM<|aB y_move<|?_)
 refine bB 4 [(0,vs t),(4,vb ((decide ((0:Int) < (s.length:Int))) && ((s[0]?).any (fun y=>(decide ((y.toNat:Int) = 45)))))),(25,vb ((decide ((t.length:Int) = 0)) || (decide ((17:Int) < (t.length:Int)))))] (fun r=>?_) (fun jn=>?_)
 refine aB y_move<|?_
 refine bB 12 [(0,vs t),(4,vb ((decide ((0:Int) < (s.length:Int))) && ((s[0]?).any (fun y=>(decide ((y.toNat:Int) = 45)))))),(38,vb (((decide ((t.length:Int) = 0)) || (decide ((17:Int) < (t.length:Int)))) || ((t[0]?).any (fun y=>((decide ((y.toNat:Int) = 48)) && ((decide ((1:Int) < (t.length:Int))) || ((decide ((0:Int) < (s.length:Int))) && ((s[0]?).any (fun y=>(decide ((y.toNat:Int) = 45)))))))))))] (fun r=>?_) (fun jn=>?_)
 refine aD ?_
 refine bF (fun g38=>?_) (fun g38=>?_)
 have g38':=g38
 simp at g38'
 refine hw_sr (aB aC<|aB aC<|aD ?_)
 refine hw_rr ?_
 refine aQ rfl (.cons aU (.cons aU .nil)) ?_
 have hb:mU t (jJ s) = true:=g38
 have hr:jI s = (0,false):=by unfold jI; rw [← e0,nU,if_pos hb]
 exact ⟨by first | rfl | (rw [hr]; rfl),rfl⟩
 have g38':=g38
 simp at g38'
 have hb:mU t (jJ s) = false:=g38
 have h17:=aAW hb
 refine aM ?_
 refine hw_sr (aB aC<|aD ?_)
 refine aI ?_
 refine hw_sr (aB aC<|aD ?_)
 refine cT (fun (gx:Nat × Int)=>match gx with | (k,n)=>[(0,vs t),(4,vb ((decide ((0:Int) < (s.length:Int))) && ((s[0]?).any (fun y=>(decide ((y.toNat:Int) = 45)))))),(5,vi n),(6,vi (k:Int))]) (fun (gx:Nat × Int) (h' : Heap)=>match gx with | (k,n)=>h = h' ∧ t.all dV = true∧n = t.foldl oU 0∧0 ≤ n∧n ≤ 9223372036854775807) (aX (cK (fun (gx:Nat × Int)=>match gx with | (k,n)=>[(0,vs t),(4,vb ((decide ((0:Int) < (s.length:Int))) && ((s[0]?).any (fun y=>(decide ((y.toNat:Int) = 45)))))),(5,vi n),(6,vi (k:Int))]) (fun (gx:Nat × Int) (h' : Heap)=>match gx with | (k,n)=>h = h' ∧ t.all dV = (t.drop k).all dV∧n = (t.take k).foldl oU 0∧0 ≤ n∧n.toNat < 10 ^ k∧k ≤ t.length) (fun (gx:Nat × Int)=>match gx with | (k,n)=>t.length - k) (0,0) ag4 ⟨rfl,by exact ⟨rfl,rfl,by omega,by simp,by omega⟩⟩ ?_)) ?_
 rintro ⟨k,n⟩ r _ ⟨rfl,e1,e2,e3,e4,e5⟩
 refine aI ?_
 refine hw_sr (aB y_move<|aB y_move<|aB y_len_str<|aB dB<|aD ?_)
 refine aF (ah5 0 4 5 6 42) fun r=>?_
 refine aZ (fun g42=>?_) (fun g42=>?_)
 have hp:=zE (k:=k) (m:=16) (by omega)
 refine aM ?_
 refine aI ?_
 refine aX ?_
 refine aI ?_
 refine hw_sr (aB y_move<|aB y_move<|?_)
 obtain ⟨x3,hx3⟩:∃ c,t[k]? = some c:=⟨_,List.getElem?_eq_getElem (by omega)⟩
 refine aB (bV hx3)<|aB dB<|aB y_move<|?_
 refine bB 5 [(0,vs t),(4,vb ((decide ((0:Int) < (s.length:Int))) && ((s[0]?).any (fun y=>(decide ((y.toNat:Int) = 45)))))),(5,vi n),(6,vi (k:Int)),(54,vb ((decide ((x3.toNat:Int) < 48)) || (decide ((57:Int) < (x3.toNat:Int)))))] (fun r=>?_) (fun jn=>?_)
 refine aD ?_
 refine bF (fun g54=>?_) (fun g54=>?_)
 have g54':=g54
 simp at g54'
 refine hw_sr (aB aC<|aB aC<|aD ?_)
 refine hw_rr ?_
 refine aQ rfl (.cons aU (.cons aU .nil)) ?_
 have hd:t.all dV = false:=by rw [e1,qV hx3]; simp [dV]; omega
 have hr:jI s = (0,false):=by unfold jI; rw [← e0,nU,if_neg (neF hb),if_neg (neF hd)]
 exact ⟨by first | rfl | (rw [hr]; rfl),rfl⟩
 have g54':=g54
 simp at g54'
 refine aM ?_
 refine aE (aB y_move<|aB hG<|aB y_move<|aB y_move<|aB (bV hx3)<|aB (dQ (hw:=eX (by omega) (by omega)))<|aB iZ<|aB bI<|aB aC<|aD ?_)
 refine aF (ah4 0 4 5 6) fun r=>?_
 refine aE (aB y_move<|aB bI<|aB aC<|aD ?_)
 exact ⟨(k + 1,((n * 10) + ((x3.toNat:Int) - 48))),ag4,⟨rfl,by exact ⟨by rw [e1,qV hx3]; simp [dV]; omega,by rw [dK hx3,← e2]; rfl,by omega,by rw [Nat.pow_succ]; omega,by omega⟩⟩,by first | omega | (dsimp only; omega)⟩
 refine dA ((x3.toNat:Int) < 48) (fun g49=>?_) (fun g49=>?_)
 refine aN (neT (dT g49))<|aN (neT (dT g49))<|aN (neT (dT g49))<|aN (neT (dT g49))<|aB (y_pickT (dT g49))<|?_
 exact jn _ (aA (aA (aA (aA (aA aJ (by simp only [aH,reduceIte,Nat.reduceEqDiff,reduceCtorEq,(dT g49),bb]))))))
 refine aO (dF g49) y_move<|aO (dF g49) y_move<|aO (dF g49) (bV hx3)<|aO (dF g49) cU<|aB (aR (dF g49))<|?_
 exact jn _ (aA (aA (aA (aA (aA aJ (by simp only [aH,reduceIte,Nat.reduceEqDiff,reduceCtorEq,(dF g49),bb]))))))
 have hp:=zE (k:=k) (m:=17) (by omega)
 refine cI ?_
 exact ⟨(k,n),ag4,⟨rfl,by exact ⟨e1.trans (aBR (by omega)),by rw [e2,List.take_of_length_le (by omega)],e3,by omega⟩⟩⟩
 rintro ⟨k,n⟩ r _ ⟨rfl,e1,e2,e3,e4⟩
 refine aI ?_
 refine hw_sr (aB y_move<|aD ?_)
 refine bF (fun g63=>?_) (fun g63=>?_)
 have g63':=g63
 simp at g63'
 refine aE (aB y_move<|aB aBr<|aB aC<|aD ?_)
 refine hw_sr (aB y_move<|aB aC<|aB aC<|aD ?_)
 refine hw_rr ?_
 refine aQ rfl (.cons aU (.cons aU .nil)) ?_
 have hr:jI s = (- t.foldl oU 0,true):=by unfold jI; rw [← e0,nU,if_neg (neF hb),if_pos e1,if_pos (show jJ s = true from g63)]
 exact ⟨by first | rfl | (rw [hr,e2]; rfl),rfl⟩
 have g63':=g63
 simp at g63'
 refine aM ?_
 refine hw_sr (aB y_move<|aB aC<|aB aC<|aD ?_)
 refine hw_rr ?_
 refine aQ rfl (.cons aU (.cons aU .nil)) ?_
 have hr:jI s = (t.foldl oU 0,true):=by unfold jI; rw [← e0,nU,if_neg (neF hb),if_pos e1,if_neg (neF (show jJ s = false from g63))]
 exact ⟨by first | rfl | (rw [hr,e2]; rfl),rfl⟩
 refine eT (b:=((decide ((t.length:Int) = 0)) || (decide ((17:Int) < (t.length:Int))))) (fun g26=>?_) (fun g26=>?_)
 have g26':=g26
 simp at g26'
 refine aN (neT g26)<|aN (neT g26)<|aN (neT g26)<|aN (neT g26)<|bZ<|bZ<|bZ<|bZ<|bZ<|bZ<|aN (neT g26)<|aB (y_pickT g26)<|?_
 exact jn _ (aA (aA (aA aJ (by simp only [aH,reduceIte,Nat.reduceEqDiff,reduceCtorEq,g26,bb]))))
 have g26':=g26
 simp at g26'
 have h0:¬ (t.length:Int) = 0:=by have h:=g26; simp only [Bool.or_eq_false_iff,decide_eq_false_iff_not] at h; exact h.1
 refine aO g26 y_move<|?_
 obtain ⟨x2,hx2⟩:∃ c,t[0]? = some c:=⟨_,List.getElem?_eq_getElem (by omega)⟩
 refine aO g26 (bV hx2)<|aO g26 bM<|aO g26 y_move<|?_
 refine dA ((x2.toNat:Int) = 48) (fun g30=>?_) (fun g30=>?_)
 refine aO (dT g30) y_move<|aO (dT g30) y_len_str<|aO (dT g30) cU<|aO (dT g30) y_move<|?_
 refine dA ((1:Int) < (t.length:Int)) (fun g34=>?_) (fun g34=>?_)
 refine aN (neT (dT g34))<|aO (dT g30) (y_pickT (dT g34))<|aO g26 (y_pickT (dT g30))<|aB (aR g26)<|?_
 exact jn _ (aA (aA (aA aJ (by simp only [aH,reduceIte,Nat.reduceEqDiff,reduceCtorEq,(dT g30),(dT g34),g26,hx2,bb]))))
 refine aO (dF g34) y_move<|aO (dT g30) (aR (dF g34))<|aO g26 (y_pickT (dT g30))<|aB (aR g26)<|?_
 exact jn _ (aA (aA (aA aJ (by simp only [aH,reduceIte,Nat.reduceEqDiff,reduceCtorEq,(dF g34),(dT g30),g26,hx2,bb]))))
 refine aN (neF (dF g30))<|aN (neF (dF g30))<|aN (neF (dF g30))<|aN (neF (dF g30))<|bZ<|aN (neF (dF g30))<|aO g26 (aR (dF g30))<|aB (aR g26)<|?_
 exact jn _ (aA (aA (aA aJ (by simp only [aH,reduceIte,Nat.reduceEqDiff,reduceCtorEq,(dF g30),g26,hx2,bb]))))
 refine dA ((t.length:Int) = 0) (fun g21=>?_) (fun g21=>?_)
 refine aN (neT (dT g21))<|aN (neT (dT g21))<|aN (neT (dT g21))<|aB (y_pickT (dT g21))<|?_
 exact jn _ (aA (aA (aA aJ (by simp only [aH,reduceIte,Nat.reduceEqDiff,reduceCtorEq,(dT g21),bb]))))
 refine aO (dF g21) y_move<|aO (dF g21) y_len_str<|aO (dF g21) cU<|aB (aR (dF g21))<|?_
 exact jn _ (aA (aA (aA aJ (by simp only [aH,reduceIte,Nat.reduceEqDiff,reduceCtorEq,(dF g21),bb]))))
 refine dA ((0:Int) < (s.length:Int)) (fun g10=>?_) (fun g10=>?_)
 refine aO (dT g10) y_move<|?_
 obtain ⟨x1,hx1⟩:∃ c,s[0]? = some c:=⟨_,List.getElem?_eq_getElem (by omega)⟩
 refine aO (dT g10) (bV hx1)<|aO (dT g10) bM<|aB (y_pickT (dT g10))<|?_
 exact jn _ (aA (aA aJ (by simp only [aH,reduceIte,Nat.reduceEqDiff,reduceCtorEq,(dT g10),hx1,bb])))
 refine aN (neF (dF g10))<|aN (neF (dF g10))<|aN (neF (dF g10))<|aB (aR (dF g10))<|?_
 exact jn _ (aA (aA aJ (by simp only [aH,reduceIte,Nat.reduceEqDiff,reduceCtorEq,(dF g10),bb])))
end
section
open Go.Conc
def mC (m:List Row) (w:Write):List Row:=if w.gone then rD m w.key else pR m w.key w.num
def workRows0 (l:List Row) (ws:List Write):List Row:=ws.foldl mC l
theorem xI (m:List Row) (w:Write):(mC m w).length ≤ m.length + 1:=by
  have h1:=pS m w.key
  unfold mC
  split
  · unfold rD; split <;> simp <;> omega
  · unfold pR; split <;> simp <;> omega
theorem uY (ws:List Write):∀ m:List Row,(workRows0 m ws).length ≤ m.length + ws.length:=by
  induction ws with
  | nil=>intro m; simp [workRows0]
  | cons w ws ih=>intro m; have:=ih (mC m w); have:=xI m w; simp only [workRows0,List.foldl_cons,List.length_cons] at *; omega
def workNew (v:cD):kU:=if iH v then ⟨v.now,[]⟩ else ⟨0,[]⟩
def jQ (v:cD) (w:kU):Bool:=iH v && decide (0 ≤ w.at') && decide (w.at' ≤ v.now) && fI w.writes && fE (workRows0 (iJ v.list w.at') w.writes)
theorem rB {v:cD} {w:kU} (h:jQ v w = true):(0 ≤ v.now∧v.now ≤ 40∧v.list.length ≤ 60)∧0 ≤ w.at' ∧ w.at' ≤ v.now∧w.writes.length ≤ 6:=by
  simp only [jQ,Bool.and_eq_true,decide_eq_true_eq] at h
  exact ⟨mS h.1.1.1.1,h.1.1.1.2,h.1.1.2,qB h.1.2⟩
def cE (v:cD) (w:kU):List Row:=if jQ v w then workRows0 (iJ v.list w.at') w.writes else []
def jG (x:Write) (p:List Write × Bool) (y:Write):List Write × Bool :=
  let q:=if !p.2 && !Op.bytesLess y.key x.key then (p.1 ++ [x],true) else p
  (if y.key = x.key then q.1 else q.1 ++ [y],q.2)
def jC (l:List Write) (x:Write):List Write:=let p:=l.foldl (jG x) ([],false); if p.2 then p.1 else p.1 ++ [x]
theorem rW (x:Write) (l:List Write):∀ p,(l.foldl (jG x) p).1.length ≤ p.1.length + 2 * l.length:=by
  induction l with
  | nil=>intro p; simp
  | cons y l ih =>
    intro p
    have h1:=ih (jG x p y)
    have h2:(jG x p y).1.length ≤ p.1.length + 2:=by simp only [jG]; split <;> split <;> simp
    simp only [List.foldl_cons,List.length_cons]; omega
theorem xK (l:List Write) (x:Write):(jC l x).length ≤ 2 * l.length + 1:=by
  have:=rW x l ([],false)
  simp only [List.length_nil] at this
  unfold jC
  dsimp only
  split <;> simp <;> omega
def workPut (v:cD) (w:kU) (x:Write):kU × Int :=
  if !jQ v w then (⟨0,[]⟩,1) else if !fI [x] then (w,1) else if w.at' < qD v.list x.key then (w,2)
  else if !jQ v ⟨w.at',jC w.writes x⟩ then (w,3) else (⟨w.at',jC w.writes x⟩,0)
def workLate (v:cD) (w:kU) (x:Write):Bool:=decide (w.at' < qD v.list x.key)
def workEnd (v:cD) (w:kU):cD × Int :=
  if !jQ v w then (⟨0,[]⟩,1) else if w.writes.any (workLate v w) then (v,2) else if (w.writes.length:Int) = 0 then (v,0)
  else if !(fM v w.writes).2 then (v,3) else ((fM v w.writes).1,0)
theorem aAy {α:Type} {p:α → Bool} {l:List α} {k:Nat} {x:α} (hx:l[k]? = some x):(l.take (k + 1)).any p = ((l.take k).any p || p x):=by
  obtain ⟨h1,rfl⟩:=List.getElem?_eq_some_iff.1 hx
  rw [List.take_succ_eq_append_getElem h1,List.any_append]; simp
theorem any_at {α:Type} {p:α → Bool} {l:List α} {k:Nat} {x:α} (hx:l[k]? = some x) (h:p x = true):l.any p = true:=List.any_eq_true.2 ⟨x,List.mem_of_getElem? hx,h⟩
set_option maxHeartbeats 1000000 in
theorem xB {w0:World} {h:Heap} {O:Nat → Prop} {v:cD} {k0v:Value} (k0:Rs h O k0v v.list) (OB0:OB h O)  : HC (XM PP) w0 108 [.agg #[vi v.now,k0v]].toArray h (fun rv h'=>∃ (s1:Value),rv = .agg #[vi ((workNew v).at'),s1]∧Le h h' ∧ Rs h' O s1 ((workNew v).writes)):=by
 obtain ⟨Ak0,nk0,ck0,rfl⟩:=k0.frm
 have le:=Le.refl h
 have OBe:=OB0
 refine aV 11 [(0,.agg #[vi v.now,(.slice Ak0 nk0 ck0)])] Tryz.func108 (fun r=>?_)
 refine hw_sr (bE cW (fun v1 h1 q1=>?_))
 obtain ⟨b1,O1,rfl,eb1,sb1,lb1,B1,hO1⟩:=q1.ox O
 refine bE aY (fun v2 h2 q2=>?_)
 obtain ⟨b2,O2,rfl,eb2,sb2,lb2,B2,hO2⟩:=q2.ox O1
 refine aD ?_
 refine aI ?_
 refine aI ?_
 replace B1:=B1.le lb2
 refine aE (aB (y_loadB B1 0 _)<|?_)
 replace k0:=(k0.nb lb1 hO1 eb1).nb lb2 hO2 eb2
 replace OB0:=(OB0.newB sb1 hO1 eb1).newB sb2 hO2 eb2
 refine bL aG (qW (v:=v) k0 OB0) (fun v3 h3 q3=>?_)
 obtain ⟨rfl,lc3⟩:=q3
 have z3:=lc3.1
 refine aB dG<|aD ?_
 refine dS (fun g5=>?_) (fun g5=>?_)
 refine hw_sr (aB (y_build rfl rfl)<|?_)
 replace B2:=B2.le lc3
 refine bO (aK aP B2) (fun v4 h4 q4=>?_)
 obtain ⟨rfl,q4⟩:=q4
 have z4:=q4.1
 have B2:=q4.2.2
 refine aD ?_
 refine hw_rr ?_
 refine aQ rfl (.cons (bT B2) .nil) ?_
 replace le:=(((le.t lb1).t lb2).t lc3).s q4
 exact ⟨_,by first | rfl | (simp_all [oneOf,workNew] <;> intros <;> (repeat' split) <;> (try and_intros) <;> first | rfl | omega | (simp_all; done)),le,Rs.nil.cast (by first | rfl | (simp_all [oneOf,workNew] <;> intros <;> (repeat' split) <;> (try and_intros) <;> first | rfl | omega | (simp_all; done)))⟩
 refine aM ?_
 refine aI ?_
 replace B1:=B1.le lc3
 refine aE (aB y_fieldAddr<|aB (y_load (Blk.at B1 rfl rfl))<|?_)
 refine bE (bA (l:=([]:List Write))) (fun v5 h5 q5=>?_)
 obtain ⟨lb5,ow5,sb5⟩:=q5
 have z5:=lb5.1
 replace OB0:=OB0.leO lc3.1
 have k5:Rs _ O2 _ _:=Ow.end ⟨ow5,OkL.nil⟩ OB0
 obtain ⟨A6,n6,c6,rfl⟩:=k5.frm
 refine aB (y_build rfl rfl)<|?_
 replace B2:=(B2.le lc3).le lb5
 refine bO (aK aP B2) (fun v7 h7 q7=>?_)
 obtain ⟨rfl,q7⟩:=q7
 have z7:=q7.1
 have B2:=q7.2.2
 refine aD ?_
 refine aF (ah1 2) fun r=>?_
 refine hw_rr ?_
 refine aQ rfl (.cons (bT B2) .nil) ?_
 replace le:=((((le.t lb1).t lb2).t lc3).t lb5).s q7
 replace k5:=k5.st q7 (ir hO2)
 exact ⟨_,by first | rfl | (simp_all [oneOf,workNew] <;> intros <;> (repeat' split) <;> (try and_intros) <;> first | rfl | omega | (simp_all; done)),le,(k5.wk (fun x hx=>(il hO2 (il hO1 hx)))).cast (by first | rfl | (simp_all [oneOf,workNew] <;> intros <;> (repeat' split) <;> (try and_intros) <;> first | rfl | omega | (simp_all; done)))⟩
set_option maxHeartbeats 1000000 in
theorem zW {w0:World} {h:Heap} {O:Nat → Prop} {l:List Row} {k0v:Value} {ws:List Write} {k1v:Value} (k0:Rs h O k0v l) (k1:Rs h O k1v ws) (OB0:OB h O)  (hl1:l.length ≤ 900000:=by first | omega | (simp; omega)) (hl2:ws.length ≤ 90000:=by first | omega | (simp; omega)):HC (XM PP) w0 120 [k0v,k1v].toArray h (fun rv h'=>Le h h' ∧ Rs h' O rv (workRows0 l ws)):=by
 obtain ⟨Ak0,nk0,ck0,rfl⟩:=k0.frm
 obtain ⟨Ak1,nk1,ck1,rfl⟩:=k1.frm
 have le:=Le.refl h
 have OBe:=OB0
 refine aV 37 [(0,(.slice Ak0 nk0 ck0)),(1,(.slice Ak1 nk1 ck1))] Tryz.func120 (fun r=>?_)
 refine hw_sr (aB aC<|aD ?_)
 refine aI ?_
 refine hw_sr (aB aC<|aD ?_)
 refine cT (fun (gx:Nat × (List Row) × Value)=>match gx with | (k,m,sv)=>[(0,sv),(1,(.slice Ak1 nk1 ck1)),(5,vi (k:Int))]) (fun (gx:Nat × (List Row) × Value) (h' : Heap)=>match gx with | (k,m,sv)=>Le h h' ∧ Rs h' O sv m∧m = workRows0 l ws) (aX (cK (fun (gx:Nat × (List Row) × Value)=>match gx with | (k,m,sv)=>[(0,sv),(1,(.slice Ak1 nk1 ck1)),(5,vi (k:Int))]) (fun (gx:Nat × (List Row) × Value) (h' : Heap)=>match gx with | (k,m,sv)=>Le h h' ∧ Rs h' O sv m∧k ≤ ws.length∧m = workRows0 l (ws.take k)) (fun (gx:Nat × (List Row) × Value)=>match gx with | (k,m,sv)=>ws.length - k) (0,l,(.slice Ak0 nk0 ck0)) ag3 ⟨Le.refl _,k0,by exact ⟨by omega,rfl⟩⟩ ?_)) ?_
 rintro ⟨k,m,sv⟩ r hl1 ⟨lp1,ksv,e1,e2⟩
 obtain ⟨A2,n2,c2,rfl⟩:=ksv.frm
 have zl1:=lp1.1
 have hm:m.length ≤ l.length + k:=by rw [e2]; have:=uY (ws.take k) l; rw [List.length_take] at this; omega
 have lr1:=lp1
 refine aI ?_
 refine hw_sr (aB y_move<|aB y_move<|aB (y_lenA k1.1)<|aB dB<|aD ?_)
 refine aF (ah4 0 1 5 9) fun r=>?_
 refine aZ (fun g9=>?_) (fun g9=>?_)
 refine aM ?_
 refine aI ?_
 refine aX ?_
 refine hw_sr (aB y_move<|aB y_move<|?_)
 obtain ⟨x1,hx1⟩:∃ x,ws[k]? = some x:=⟨_,List.getElem?_eq_getElem (by omega)⟩
 have sx1:SB x1.key:=k1.2.at hx1
 refine aB (y_idxA k1.1)<|aB y_fieldAddr<|?_
 replace k1:=k1.le lp1
 refine aB (y_load (RdF.cell k1.1 hx1 rfl))<|aD ?_
 refine aF (ah4 0 1 5 16) fun r=>?_
 refine bF (fun g16=>?_) (fun g16=>?_)
 refine aE (aB y_move<|aB y_move<|aB y_move<|aB (y_idxA k1.1)<|aB y_fieldAddr<|aB (y_load (RdF.cell k1.1 hx1 rfl))<|?_)
 replace OB0:=OB0.leO lp1.1
 refine bL aG (l1Cut_c ksv OB0) (fun v3 h3 q3=>?_)
 obtain ⟨lc3,k3_1⟩:=q3
 have z3:=lc3.1
 replace k3_1:=k3_1.end OB0
 obtain ⟨A4,n4,c4,rfl⟩:=k3_1.frm
 refine aB aC<|aD ?_
 refine aF (ah3 0 1 5) fun r=>?_
 refine aE (aB y_move<|aB bI<|aB aC<|aD ?_)
 replace lr1:=lr1.t lc3
 exact ⟨(k + 1,rD m x1.key,(.slice A4 n4 c4)),ag3,⟨lr1,k3_1.cast (by first | rfl | simp_all),by exact ⟨by omega,by rw [workRows0,dK hx1,← workRows0,← e2]; simp_all [mC]⟩⟩,by first | omega | (dsimp only; omega)⟩
 have Rk1:=k1
 have Rksv:=ksv
 obtain ⟨S5,hS5⟩:=mkO (fun b=>hl1.size ≤ b)
 have mR5:Mod S5 hl1 hl1:=Mod.refl _
 have hd5:∀ b,b < hl1.size∧¬ O b → ¬ S5 b:=fun b hb hs=>(fun hs=>absurd hb.1 (Nat.not_lt.2 hs)) ((hS5 b).1 hs)
 refine bH 13 S5 bC (ha2_p 0 rfl (fun _=>y_move)<|ha2_p 1 rfl (fun _=>y_move)<|ha2_p 2 rfl (fun _=>y_move)<|ha2_y 3 rfl (fun _ _=>(y_idxA k1.1))<|ha2_p 4 rfl (fun _=>y_fieldAddr)<|ha2_y 5 rfl (fun _ mm=>(y_load (RdF.cell (RdF.mod Rk1.1 (mR5.trans mm) hd5) hx1 rfl)))<|ha2_p 6 rfl (fun _=>y_move)<|ha2_p 7 rfl (fun _=>y_move)<|ha2_y 8 rfl (fun _ _=>(y_idxA k1.1))<|ha2_p 9 rfl (fun _=>y_fieldAddr)<|ha2_y 10 rfl (fun _ mm=>(y_load (RdF.cell (RdF.mod Rk1.1 (mR5.trans mm) hd5) hx1 rfl)))<|?_)
 replace OB0:=OB0.leO lp1.1
 refine aW 11 (cC rfl aG (l1Put_c ksv OB0) (fun v6 h6 q6=>?_))
 obtain ⟨lc6,k6_1⟩:=q6
 have z6:=lc6.1
 refine ⟨Le.mod lc6,?_⟩
 replace k6_1:=k6_1.end OB0
 obtain ⟨A7,n7,c7,rfl⟩:=k6_1.frm
 refine ha2_p 12 rfl (fun _=>aC)<|cN ?_
 refine aF (ah3 0 1 5) fun r=>?_
 refine aE (aB y_move<|aB bI<|aB aC<|aD ?_)
 replace lr1:=lr1.t lc6
 exact ⟨(k + 1,pR m x1.key x1.num,(.slice A7 n7 c7)),ag3,⟨lr1,k6_1.cast (by first | rfl | simp_all),by exact ⟨by omega,by rw [workRows0,dK hx1,← workRows0,← e2]; simp_all [mC]⟩⟩,by first | omega | (dsimp only; omega)⟩
 refine cI ?_
 exact ⟨(k,m,(.slice A2 n2 c2)),ag3,⟨lr1,ksv.cast (by first | rfl | simp_all),by rw [e2,List.take_of_length_le (by omega)]⟩⟩
 rintro ⟨k,m,sv⟩ r hl1 ⟨lp1,ksv,e1⟩
 obtain ⟨A8,n8,c8,rfl⟩:=ksv.frm
 have zl1:=lp1.1
 refine hw_sr (aB y_move<|aB aC<|aD ?_)
 refine hw_rr ?_
 refine aQ rfl (.cons aU .nil) ?_
 replace le:=le.t lp1
 exact ⟨le,(ksv).cast (by first | rfl | (simp_all [oneOf] <;> omega))⟩
set_option maxHeartbeats 1000000 in
theorem oK {w0:World} {h:Heap} {O:Nat → Prop} {v:cD} {k0v:Value} {w:kU} {k1v:Value} (k0:Rs h O k0v v.list) (k1:Rs h O k1v w.writes) (OB0:OB h O)  : HC (XM PP) w0 119 [.agg #[vi v.now,k0v],.agg #[vi w.at',k1v]].toArray h (fun rv h'=>rv = vb (jQ v w)∧Le h h'):=by
 obtain ⟨Ak0,nk0,ck0,rfl⟩:=k0.frm
 obtain ⟨Ak1,nk1,ck1,rfl⟩:=k1.frm
 have le:=Le.refl h
 have OBe:=OB0
 have hl:=k0.len
 have hw:=k1.len
 refine aV 34 [(0,.agg #[vi v.now,(.slice Ak0 nk0 ck0)]),(1,.agg #[vi w.at',(.slice Ak1 nk1 ck1)])] Tryz.func119 (fun r=>?_)
 refine hw_sr (bE cW (fun v1 h1 q1=>?_))
 obtain ⟨b1,O1,rfl,eb1,sb1,lb1,B1,hO1⟩:=q1.ox O
 refine bE cW (fun v2 h2 q2=>?_)
 obtain ⟨b2,O2,rfl,eb2,sb2,lb2,B2,hO2⟩:=q2.ox O1
 refine aB aC<|aD ?_
 refine aF (ah2 2 3) fun r=>?_
 refine aI ?_
 replace k0:=(k0.nb lb1 hO1 eb1).nb lb2 hO2 eb2
 have Rk0:=k0
 replace k1:=(k1.nb lb1 hO1 eb1).nb lb2 hO2 eb2
 have Rk1:=k1
 obtain ⟨S3,hS3⟩:=mkO (fun b=>h2.size ≤ b)
 have mR3:Mod S3 h2 h2:=Mod.refl _
 have hd3:∀ b,b < h2.size∧¬ O2 b → ¬ S3 b:=fun b hb hs=>(fun hs=>absurd hb.1 (Nat.not_lt.2 hs)) ((hS3 b).1 hs)
 replace B1:=B1.le lb2
 refine bH 30 S3 bC (ha2_y 0 rfl (fun _ mm=>(y_loadB (Blk.mod B1 mm (fun hs=>by rcases (hS3 _).1 hs with hs <;> first | omega)) 0 _))<|?_)
 replace OB0:=(OB0.newB sb1 hO1 eb1).newB sb2 hO2 eb2
 refine aW 1 (cC rfl aG (qW (v:=v) k0 OB0) (fun v4 h4 q4=>?_))
 obtain ⟨rfl,lc4⟩:=q4
 have z4:=lc4.1
 refine ⟨Le.mod lc4,?_⟩
 refine ha2_p 2 rfl (fun _=>y_move)<|?_
 refine eT (b:=iH v) (fun g7=>?_) (fun g7=>?_)
 have hv:=mS g7
 replace B2:=B2.le lc4
 refine ha2_gp 3 rfl g7 (fun _=>y_fieldAddr)<|ha2_gy 4 rfl g7 (fun _ mm=>(y_load (Blk.at (Blk.mod B2 mm (fun hs=>by rcases (hS3 _).1 hs with hs <;> first | omega)) rfl rfl)))<|ha2_gp 5 rfl g7 (fun _=>y_geq)<|ha2_p 6 rfl (fun _=>(y_pickT g7))<|ha2_p 7 rfl (fun _=>y_move)<|?_
 refine dA ((0:Int) ≤ w.at') (fun g12=>?_) (fun g12=>?_)
 replace B1:=B1.le lc4
 refine ha2_gp 8 rfl (dT g12) (fun _=>y_fieldAddr)<|ha2_gy 9 rfl (dT g12) (fun _ mm=>(y_load (Blk.at (Blk.mod B2 mm (fun hs=>by rcases (hS3 _).1 hs with hs <;> first | omega)) rfl rfl)))<|ha2_gp 10 rfl (dT g12) (fun _=>y_fieldAddr)<|ha2_gy 11 rfl (dT g12) (fun _ mm=>(y_load (Blk.at (Blk.mod B1 mm (fun hs=>by rcases (hS3 _).1 hs with hs <;> first | omega)) rfl rfl)))<|ha2_gp 12 rfl (dT g12) (fun _=>y_leq)<|ha2_p 13 rfl (fun _=>(y_pickT (dT g12)))<|ha2_p 14 rfl (fun _=>y_move)<|?_
 refine dA (w.at' ≤ v.now) (fun g19=>?_) (fun g19=>?_)
 refine ha2_gp 15 rfl (dT g19) (fun _=>y_fieldAddr)<|ha2_gy 16 rfl (dT g19) (fun _ mm=>(y_load (Blk.at (Blk.mod B2 mm (fun hs=>by rcases (hS3 _).1 hs with hs <;> first | omega)) rfl rfl)))<|?_
 refine aW 17 (?_)
 replace k1:=k1.le lc4
 refine aDc rfl (dT g19) aG (iL k1) ?_
 refine ha2_p 18 rfl (fun _=>(y_pickT (dT g19)))<|ha2_p 19 rfl (fun _=>y_move)<|?_
 refine eT (b:=fI w.writes) (fun g24=>?_) (fun g24=>?_)
 have hws:w.writes.length ≤ 6:=qB g24
 have hat:=pQ v.list w.at'
 refine ha2_gy 20 rfl g24 (fun _ mm=>(y_loadB (Blk.mod B1 mm (fun hs=>by rcases (hS3 _).1 hs with hs <;> first | omega)) 0 _))<|ha2_gp 21 rfl g24 (fun _=>y_fieldAddr)<|ha2_gy 22 rfl g24 (fun _ mm=>(y_load (Blk.at (Blk.mod B2 mm (fun hs=>by rcases (hS3 _).1 hs with hs <;> first | omega)) rfl rfl)))<|ha2_gp 24 rfl g24 (fun _=>y_fieldAddr)<|ha2_gy 25 rfl g24 (fun _ mm=>(y_load (Blk.at (Blk.mod B2 mm (fun hs=>by rcases (hS3 _).1 hs with hs <;> first | omega)) rfl rfl)))<|?_
 refine aW 23 (?_)
 replace k0:=k0.le lc4
 replace OB0:=OB0.leO lc4.1
 refine aBH rfl g24 aG (nZ (v:=v) k0 OB0) (fun v5 h5 q5=>?_)
 obtain ⟨lc5,k5_1⟩:=q5
 have z5:=lc5.1
 refine ⟨Le.mod lc5,?_⟩
 replace k5_1:=k5_1.end OB0
 obtain ⟨A6,n6,c6,rfl⟩:=k5_1.frm
 refine aW 26 (?_)
 replace k1:=k1.le lc5
 replace OB0:=OB0.leO lc5.1
 refine aBH rfl g24 aG (zW k5_1 k1 OB0) (fun v7 h7 q7=>?_)
 obtain ⟨lc7,k7_1⟩:=q7
 have z7:=lc7.1
 refine ⟨Le.mod lc7,?_⟩
 obtain ⟨A8,n8,c8,rfl⟩:=k7_1.frm
 refine aW 27 (aDc rfl g24 aG (qX k7_1) ?_)
 refine ha2_p 28 rfl (fun _=>(y_pickT g24))<|ha2_p 29 rfl (fun _=>aC)<|cN ?_
 refine aF (ah1 4) fun r=>?_
 refine hw_rr ?_
 refine aQ rfl (.cons aU .nil) ?_
 replace le:=((((le.t lb1).t lb2).t lc4).t lc5).t lc7
 exact ⟨by first | rfl | (simp_all [oneOf,jQ] <;> intros <;> (repeat' split) <;> (try and_intros) <;> first | rfl | omega | (simp_all; done)),le⟩
 refine bR 20 rfl (neF g24)<|bR 21 rfl (neF g24)<|bR 22 rfl (neF g24)<|bR 23 rfl (neF g24)<|bR 24 rfl (neF g24)<|bR 25 rfl (neF g24)<|bR 26 rfl (neF g24)<|bR 27 rfl (neF g24)<|ha2_p 28 rfl (fun _=>(aR g24))<|ha2_p 29 rfl (fun _=>aC)<|cN ?_
 refine aF (ah1 4) fun r=>?_
 refine hw_rr ?_
 refine aQ rfl (.cons aU .nil) ?_
 replace le:=((le.t lb1).t lb2).t lc4
 exact ⟨by first | rfl | (simp_all [oneOf,jQ] <;> intros <;> (repeat' split) <;> (try and_intros) <;> first | rfl | omega | (simp_all; done)),le⟩
 refine bR 15 rfl (neF (dF g19))<|bR 16 rfl (neF (dF g19))<|bR 17 rfl (neF (dF g19))<|ha2_p 18 rfl (fun _=>(aR (dF g19)))<|ha2_p 19 rfl (fun _=>y_move)<|bR 20 rfl (neF rfl)<|bR 21 rfl (neF rfl)<|bR 22 rfl (neF rfl)<|bR 23 rfl (neF rfl)<|bR 24 rfl (neF rfl)<|bR 25 rfl (neF rfl)<|bR 26 rfl (neF rfl)<|bR 27 rfl (neF rfl)<|ha2_p 28 rfl (fun _=>(aR rfl))<|ha2_p 29 rfl (fun _=>aC)<|cN ?_
 refine aF (ah1 4) fun r=>?_
 refine hw_rr ?_
 refine aQ rfl (.cons aU .nil) ?_
 replace le:=((le.t lb1).t lb2).t lc4
 exact ⟨by first | rfl | (simp_all [oneOf,jQ] <;> intros <;> (repeat' split) <;> (try and_intros) <;> first | rfl | omega | (simp_all; done)),le⟩
 refine bR 8 rfl (neF (dF g12))<|bR 9 rfl (neF (dF g12))<|bR 10 rfl (neF (dF g12))<|bR 11 rfl (neF (dF g12))<|bR 12 rfl (neF (dF g12))<|ha2_p 13 rfl (fun _=>(aR (dF g12)))<|ha2_p 14 rfl (fun _=>y_move)<|bR 15 rfl (neF rfl)<|bR 16 rfl (neF rfl)<|bR 17 rfl (neF rfl)<|ha2_p 18 rfl (fun _=>(aR rfl))<|ha2_p 19 rfl (fun _=>y_move)<|bR 20 rfl (neF rfl)<|bR 21 rfl (neF rfl)<|bR 22 rfl (neF rfl)<|bR 23 rfl (neF rfl)<|bR 24 rfl (neF rfl)<|bR 25 rfl (neF rfl)<|bR 26 rfl (neF rfl)<|bR 27 rfl (neF rfl)<|ha2_p 28 rfl (fun _=>(aR rfl))<|ha2_p 29 rfl (fun _=>aC)<|cN ?_
 refine aF (ah1 4) fun r=>?_
 refine hw_rr ?_
 refine aQ rfl (.cons aU .nil) ?_
 replace le:=((le.t lb1).t lb2).t lc4
 exact ⟨by first | rfl | (simp_all [oneOf,jQ] <;> intros <;> (repeat' split) <;> (try and_intros) <;> first | rfl | omega | (simp_all; done)),le⟩
 refine bR 3 rfl (neF g7)<|bR 4 rfl (neF g7)<|bR 5 rfl (neF g7)<|ha2_p 6 rfl (fun _=>(aR g7))<|ha2_p 7 rfl (fun _=>y_move)<|bR 8 rfl (neF rfl)<|bR 9 rfl (neF rfl)<|bR 10 rfl (neF rfl)<|bR 11 rfl (neF rfl)<|bR 12 rfl (neF rfl)<|ha2_p 13 rfl (fun _=>(aR rfl))<|ha2_p 14 rfl (fun _=>y_move)<|bR 15 rfl (neF rfl)<|bR 16 rfl (neF rfl)<|bR 17 rfl (neF rfl)<|ha2_p 18 rfl (fun _=>(aR rfl))<|ha2_p 19 rfl (fun _=>y_move)<|bR 20 rfl (neF rfl)<|bR 21 rfl (neF rfl)<|bR 22 rfl (neF rfl)<|bR 23 rfl (neF rfl)<|bR 24 rfl (neF rfl)<|bR 25 rfl (neF rfl)<|bR 26 rfl (neF rfl)<|bR 27 rfl (neF rfl)<|ha2_p 28 rfl (fun _=>(aR rfl))<|ha2_p 29 rfl (fun _=>aC)<|cN ?_
 refine aF (ah1 4) fun r=>?_
 refine hw_rr ?_
 refine aQ rfl (.cons aU .nil) ?_
 replace le:=((le.t lb1).t lb2).t lc4
 exact ⟨by first | rfl | (simp_all [oneOf,jQ] <;> intros <;> (repeat' split) <;> (try and_intros) <;> first | rfl | omega | (simp_all; done)),le⟩
set_option maxHeartbeats 1000000 in
theorem lI {w0:World} {h:Heap} {O:Nat → Prop} {v:cD} {k0v:Value} {w:kU} {k1v:Value} (k0:Rs h O k0v v.list) (k1:Rs h O k1v w.writes) (OB0:OB h O)  : HC (XM PP) w0 110 [.agg #[vi v.now,k0v],.agg #[vi w.at',k1v]].toArray h (fun rv h'=>Le h h' ∧ Rs h' O rv (cE v w)):=by
 obtain ⟨Ak0,nk0,ck0,rfl⟩:=k0.frm
 obtain ⟨Ak1,nk1,ck1,rfl⟩:=k1.frm
 have le:=Le.refl h
 have OBe:=OB0
 have hl:=k0.len
 have hw:=k1.len
 refine aV 17 [(0,.agg #[vi v.now,(.slice Ak0 nk0 ck0)]),(1,.agg #[vi w.at',(.slice Ak1 nk1 ck1)])] Tryz.func110 (fun r=>?_)
 refine hw_sr (bE cW (fun v1 h1 q1=>?_))
 obtain ⟨b1,O1,rfl,eb1,sb1,lb1,B1,hO1⟩:=q1.ox O
 refine bE cW (fun v2 h2 q2=>?_)
 obtain ⟨b2,O2,rfl,eb2,sb2,lb2,B2,hO2⟩:=q2.ox O1
 refine aB aC<|aD ?_
 refine aF (ah2 2 3) fun r=>?_
 refine aI ?_
 refine aI ?_
 replace B1:=B1.le lb2
 refine aE (aB (y_loadB B1 0 _)<|aB (y_loadB B2 0 _)<|?_)
 replace k0:=(k0.nb lb1 hO1 eb1).nb lb2 hO2 eb2
 replace k1:=(k1.nb lb1 hO1 eb1).nb lb2 hO2 eb2
 replace OB0:=(OB0.newB sb1 hO1 eb1).newB sb2 hO2 eb2
 refine bL aG (oK (v:=v) (w:=w) k0 k1 OB0) (fun v3 h3 q3=>?_)
 obtain ⟨rfl,lc3⟩:=q3
 have z3:=lc3.1
 refine aB dG<|aD ?_
 refine aF (ah3 2 3 8) fun r=>?_
 refine dS (fun g8=>?_) (fun g8=>?_)
 refine hw_sr (?_)
 refine bE (bA (l:=([]:List Row))) (fun v4 h4 q4=>?_)
 obtain ⟨lb4,ow4,sb4⟩:=q4
 have z4:=lb4.1
 replace OB0:=OB0.leO lc3.1
 have k4:Rs _ O2 _ _:=Ow.end ⟨ow4,OkL.nil⟩ OB0
 obtain ⟨A5,n5,c5,rfl⟩:=k4.frm
 refine aB aC<|aD ?_
 refine hw_rr ?_
 refine aQ rfl (.cons aU .nil) ?_
 replace le:=(((le.t lb1).t lb2).t lc3).t lb4
 exact ⟨le,(k4.wk (fun x hx=>(il hO2 (il hO1 hx)))).cast (by first | rfl | (simp_all [oneOf,cE] <;> intros <;> (repeat' split) <;> (try and_intros) <;> first | rfl | omega | (simp_all; done)))⟩
 have hb:=rB (v:=v) (w:=w) (by simp_all)
 have hat:=pQ v.list w.at'
 refine aM ?_
 refine aI ?_
 replace k0:=k0.le lc3
 have Rk0:=k0
 replace k1:=k1.le lc3
 have Rk1:=k1
 obtain ⟨S6,hS6⟩:=mkO (fun b=>h3.size ≤ b)
 have mR6:Mod S6 h3 h3:=Mod.refl _
 have hd6:∀ b,b < h3.size∧¬ O2 b → ¬ S6 b:=fun b hb hs=>(fun hs=>absurd hb.1 (Nat.not_lt.2 hs)) ((hS6 b).1 hs)
 replace B1:=B1.le lc3
 replace B2:=B2.le lc3
 refine bH 8 S6 bC (ha2_y 0 rfl (fun _ mm=>(y_loadB (Blk.mod B1 mm (fun hs=>by rcases (hS6 _).1 hs with hs <;> first | omega)) 0 _))<|ha2_p 1 rfl (fun _=>y_fieldAddr)<|ha2_y 2 rfl (fun _ mm=>(y_load (Blk.at (Blk.mod B2 mm (fun hs=>by rcases (hS6 _).1 hs with hs <;> first | omega)) rfl rfl)))<|ha2_p 4 rfl (fun _=>y_fieldAddr)<|ha2_y 5 rfl (fun _ mm=>(y_load (Blk.at (Blk.mod B2 mm (fun hs=>by rcases (hS6 _).1 hs with hs <;> first | omega)) rfl rfl)))<|?_)
 replace OB0:=OB0.leO lc3.1
 refine aW 3 (cC rfl aG (nZ (v:=v) k0 OB0) (fun v7 h7 q7=>?_))
 obtain ⟨lc7,k7_1⟩:=q7
 have z7:=lc7.1
 refine ⟨Le.mod lc7,?_⟩
 replace k7_1:=k7_1.end OB0
 obtain ⟨A8,n8,c8,rfl⟩:=k7_1.frm
 refine aW 6 (?_)
 replace k1:=k1.le lc7
 replace OB0:=OB0.leO lc7.1
 refine cC rfl aG (zW k7_1 k1 OB0) (fun v9 h9 q9=>?_)
 obtain ⟨lc9,k9_1⟩:=q9
 have z9:=lc9.1
 refine ⟨Le.mod lc9,?_⟩
 obtain ⟨A10,n10,c10,rfl⟩:=k9_1.frm
 refine ha2_p 7 rfl (fun _=>aC)<|cN ?_
 refine aF (ah1 4) fun r=>?_
 refine hw_rr ?_
 refine aQ rfl (.cons aU .nil) ?_
 replace le:=((((le.t lb1).t lb2).t lc3).t lc7).t lc9
 exact ⟨le,(k9_1.wk (fun x hx=>(il hO2 (il hO1 hx)))).cast (by first | rfl | (simp_all [oneOf,cE] <;> intros <;> (repeat' split) <;> (try and_intros) <;> first | rfl | omega | (simp_all; done)))⟩
set_option maxHeartbeats 1000000 in
theorem nY {w0:World} {h:Heap} {O:Nat → Prop} {w:kU} {k0v:Value} (k0:Rs h O k0v w.writes) (OB0:OB h O)  : HC (XM PP) w0 90 [.agg #[vi w.at',k0v]].toArray h (fun rv h'=>∃ (s1:Value),rv = .agg #[vi w.at',s1]∧Le h h' ∧ Ow h' h.size s1 w.writes 107):=by
 obtain ⟨Ak0,nk0,ck0,rfl⟩:=k0.frm
 have le:=Le.refl h
 have OBe:=OB0
 have hw:=k0.len
 refine aV 10 [(0,.agg #[vi w.at',(.slice Ak0 nk0 ck0)])] Tryz.func90 (fun r=>?_)
 refine hw_sr (bE cW (fun v1 h1 q1=>?_))
 obtain ⟨b1,O1,rfl,eb1,sb1,lb1,B1,hO1⟩:=q1.ox O
 refine bE aY (fun v2 h2 q2=>?_)
 obtain ⟨b2,O2,rfl,eb2,sb2,lb2,B2,hO2⟩:=q2.ox O1
 refine aD ?_
 refine aI ?_
 replace k0:=(k0.nb lb1 hO1 eb1).nb lb2 hO2 eb2
 have Rk0:=k0
 obtain ⟨S3,hS3⟩:=mkO (fun b=>h2.size ≤ b)
 have mR3:Mod S3 h2 h2:=Mod.refl _
 have hd3:∀ b,b < h2.size∧¬ O2 b → ¬ S3 b:=fun b hb hs=>(fun hs=>absurd hb.1 (Nat.not_lt.2 hs)) ((hS3 b).1 hs)
 replace B1:=B1.le lb2
 refine bH 8 S3 bC (ha2_p 0 rfl (fun _=>y_fieldAddr)<|ha2_y 1 rfl (fun _ mm=>(y_load (Blk.at (Blk.mod B1 mm (fun hs=>by rcases (hS3 _).1 hs with hs <;> first | omega)) rfl rfl)))<|ha2_p 3 rfl (fun _=>y_fieldAddr)<|ha2_y 4 rfl (fun _ mm=>(y_load (Blk.at (Blk.mod B1 mm (fun hs=>by rcases (hS3 _).1 hs with hs <;> first | omega)) rfl rfl)))<|?_)
 refine aW 2 (cB rfl (bA (l:=([]:List Write))) (fun v4 h4 q4=>?_))
 obtain ⟨lb4,ow4,sb4⟩:=q4
 have z4:=lb4.1
 obtain ⟨O4,hO4⟩:=mkO (fun x=>O2 x ∨ vblk v4 x)
 refine ⟨Le.mod lb4,?_⟩
 have o4:Ow _ _ _ _ _:=⟨ow4,OkL.nil⟩
 obtain ⟨A5,n5,c5,rfl⟩:=o4.frm
 refine aW 5 (?_)
 replace k0:=k0.ns lb4 hO4 (fun x hv=>(ow4.vb hv).1)
 refine cB rfl (bW aP o4.1 k0.1 (by omega) (Nat.add_le_add o4.2.len k0.2.len)) (fun v6 h6 q6=>?_)
 have L1:=o4.2.len
 have L2:=k0.2.len
 obtain ⟨O6,hO6,z6,ow6⟩:=q6.ow (OkL.app o4.2 k0.2 (by first | omega | (simp only [List.length_append,List.length_take,List.length_drop,List.length_cons,List.length_nil,List.length_set]; omega) | (simp; omega))) O4
 have ms:=Mod.mono (S':=S3) q6.2.1 (fun x _ e=>(hS3 x).2 (by have:=o4.vb e; first | omega | exact .inl (by omega) | simp [e] | simp [dC e]))
 refine ⟨ms,?_⟩
 replace B1:=B1.le lb4
 replace B2:=B2.le lb4
 replace le:=(((le.t lb1).t lb2).t lb4).ap o4 q6 (by omega)
 replace B1:=B1.app q6 (o4.1.ne B1 (by decide))
 replace B2:=B2.app q6 (o4.1.ne B2 (by decide))
 have o4:=ow6
 obtain ⟨A7,n7,c7,rfl⟩:=o4.frm
 refine ha2_p 6 rfl (fun _=>(y_build rfl rfl))<|?_
 refine aW 7 (lN rfl (aK aP B2) (fun v8 h8 q8=>?_))
 obtain ⟨rfl,q8⟩:=q8
 have z8:=q8.1
 replace o4:=o4.st q8 (o4.1.ne B2 (by decide))
 have B2:=q8.2.2
 refine aF (ah1 2) fun r=>?_
 refine hw_rr ?_
 refine aQ rfl (.cons (bT B2) .nil) ?_
 replace le:=le.s q8
 exact ⟨_,by first | rfl | (simp_all [oneOf] <;> omega),le,(o4.wk (by omega)).cast (by first | rfl | (simp_all [oneOf] <;> omega))⟩
set_option maxHeartbeats 1000000 in
theorem aBD {w0:World} {h:Heap} {O:Nat → Prop} {l:List Write} {k0v:Value} {x:Write} (k0:Rs h O k0v l) (OB0:OB h O) (s0:SB x.key:=by first | assumption | omega | (simp; omega)) (hl1:l.length ≤ 1000000:=by first | omega | (simp; omega)):HC (XM PP) w0 130 [k0v,.agg #[vs x.key,vi x.num,vb x.gone]].toArray h (fun rv h'=>Le h h' ∧ Ow h' h.size rv (jC l x) 107):=by
 obtain ⟨Ak0,nk0,ck0,rfl⟩:=k0.frm
 have le:=Le.refl h
 have OBe:=OB0
 have hl:=k0.len
 refine aV 53 [(0,(.slice Ak0 nk0 ck0)),(1,.agg #[vs x.key,vi x.num,vb x.gone])] Tryz.func130 (fun r=>?_)
 refine hw_sr (bE cW (fun v1 h1 q1=>?_))
 obtain ⟨b1,O1,rfl,eb1,sb1,lb1,B1,hO1⟩:=q1.ox O
 refine aB aC<|aD ?_
 refine hw_sr (?_)
 refine bE (bA (l:=([]:List Write))) (fun v2 h2 q2=>?_)
 obtain ⟨lb2,ow2,sb2⟩:=q2
 have z2:=lb2.1
 obtain ⟨O2,hO2⟩:=mkO (fun x=>O1 x ∨ vblk v2 x)
 have sp_o2_B1:¬ vblk v2 b1:=fun hv=>by have:=ow2.vb hv; omega
 have o2:Ow _ _ _ _ _:=⟨ow2,OkL.nil⟩
 obtain ⟨A3,n3,c3,rfl⟩:=o2.frm
 refine aB aC<|aD ?_
 refine hw_sr (aB aC<|aD ?_)
 refine aI ?_
 refine hw_sr (aB aC<|aD ?_)
 replace le:=(le.t lb1).t lb2
 replace OB0:=(OB0.newB sb1 hO1 eb1).newS lb2.1 hO2 (fun x hv=>(ow2.vb hv).2)
 replace B1:=B1.le lb2
 refine cT (fun (gx:Nat × (List Write) × Bool × (Nat → Prop) × Value)=>match gx with | (k,m,d,OL4,ov)=>[(0,(.slice Ak0 nk0 ck0)),(3,.pointer (some ⟨b1,0,none⟩)),(5,ov),(6,vb d),(7,vi (k:Int))]) (fun (gx:Nat × (List Write) × Bool × (Nat → Prop) × Value) (h' : Heap)=>match gx with | (k,m,d,OL4,ov)=>Le h h' ∧ Mod O2 h2 h' ∧ (∀ x,OL4 x → O2 x ∨ h2.size ≤ x)∧(∀ x,O2 x → OL4 x)∧OB h' OL4∧Blk h' b1 [vs x.key,vi x.num,vb x.gone] 107∧OL4 b1∧Ow h' h.size ov m 107∧(∀ x,vblk ov x → OL4 x)∧(¬ vblk ov b1)∧(m,d) = l.foldl (jG x) ([],false)) (aX (cK (fun (gx:Nat × (List Write) × Bool × (Nat → Prop) × Value)=>match gx with | (k,m,d,OL4,ov)=>[(0,(.slice Ak0 nk0 ck0)),(3,.pointer (some ⟨b1,0,none⟩)),(5,ov),(6,vb d),(7,vi (k:Int))]) (fun (gx:Nat × (List Write) × Bool × (Nat → Prop) × Value) (h' : Heap)=>match gx with | (k,m,d,OL4,ov)=>Le h h' ∧ Mod O2 h2 h' ∧ (∀ x,OL4 x → O2 x ∨ h2.size ≤ x)∧(∀ x,O2 x → OL4 x)∧OB h' OL4∧Blk h' b1 [vs x.key,vi x.num,vb x.gone] 107∧OL4 b1∧Ow h' h.size ov m 107∧(∀ x,vblk ov x → OL4 x)∧(¬ vblk ov b1)∧k ≤ l.length∧(m,d) = (l.take k).foldl (jG x) ([],false)∧m.length ≤ 2 * k) (fun (gx:Nat × (List Write) × Bool × (Nat → Prop) × Value)=>match gx with | (k,m,d,OL4,ov)=>l.length - k) (0,[],false,O2,(.slice A3 n3 c3)) ag5 ⟨le,Mod.refl _,fun x hx=>.inl hx,fun x hx=>hx,OB0,B1,(il hO2 (ir hO1)),o2.wk (by omega),(fun x hv=>(hO2 x).2 (.inr hv)),sp_o2_B1,by exact ⟨by omega,rfl,by simp⟩⟩ ?_)) ?_
 rintro ⟨k,m,d,OL4,ov⟩ r hl4 ⟨le,lp4,la4,lb4,lo4,B1,mB1,o2,mo2,sp_o2_B1,e1,e2,e3⟩
 obtain ⟨A5,n5,c5,rfl⟩:=o2.frm
 have zl4:=lp4.1
 have lr4:=lp4
 have lx4:=la4
 refine aI ?_
 refine hw_sr (aB y_move<|aB y_move<|aB (y_lenA k0.1)<|aB dB<|aD ?_)
 refine aF (ah6 0 3 5 6 7 12) fun r=>?_
 refine aZ (fun g12=>?_) (fun g12=>?_)
 refine aM ?_
 refine aI ?_
 refine aX ?_
 refine aI ?_
 refine aI ?_
 refine fR (bN y_move<|bN dG<|bN y_move<|?_)
 refine mJ 9 [(0,(.slice Ak0 nk0 ck0)),(3,.pointer (some ⟨b1,0,none⟩)),(5,(.slice A5 n5 c5)),(6,vb d),(7,vi (k:Int)),(26,vb ((!d) && ((l[k]?).any (fun y=>(!(Op.bytesLess y.key x.key))))))] (fun r=>?_) (fun jn=>?_)
 refine gO ?_
 refine bF (fun g26=>?_) (fun g26=>?_)
 have g26':=g26
 simp at g26'
 refine hw_sr (aB y_move<|aB (y_loadB B1 0 _)<|?_)
 have OB0:=lo4
 refine bE (bA (l:=([x]:List Write))) (fun v6 h6 q6=>?_)
 obtain ⟨lb6,ow6,sb6⟩:=q6
 have z6:=lb6.1
 have k6:Rs _ OL4 _ _:=Ow.end ⟨ow6,ok1⟩ OB0
 obtain ⟨A7,n7,c7,rfl⟩:=k6.frm
 replace o2:=o2.le lb6
 refine bE (bW aP o2.1 k6.1 (by omega) (Nat.add_le_add o2.2.len k6.2.len)) (fun v8 h8 q8=>?_)
 have L1:=o2.2.len
 have L2:=k6.2.len
 obtain ⟨O8,hO8,z8,ow8⟩:=q8.ow (OkL.app o2.2 k6.2 (by first | omega | (simp only [List.length_append,List.length_take,List.length_drop,List.length_cons,List.length_nil,List.length_set]; omega) | (simp; omega))) OL4
 replace k0:=((k0.nb lb1 hO1 eb1).ns lb2 hO2 (fun x hv=>(ow2.vb hv).1)).lp lp4 la4
 have sp_o2_B1q:=fun hv=>(q8.2.2 _ hv).elim sp_o2_B1 (fun e=>by omega)
 replace B1:=(B1.le lb6).app q8 sp_o2_B1
 have sp_o2_B1:=sp_o2_B1q
 replace lr4:=(lr4.tl lb6).apO q8 (fun x hv=>lx4 x (mo2 x hv))
 have lx4:=laA lx4 hO8 q8 mo2 (by omega)
 replace le:=(le.t lb6).ap o2 q8 (by omega)
 have o2:=ow8
 obtain ⟨A9,n9,c9,rfl⟩:=o2.frm
 refine aB aC<|aD ?_
 refine aF (ah5 0 3 5 6 7) fun r=>?_
 refine aE (aB aC<|aD ?_)
 refine aI ?_
 refine fR (bN y_move<|bN y_move<|?_)
 obtain ⟨x1,hx1⟩:∃ x,l[k]? = some x:=⟨_,List.getElem?_eq_getElem (by omega)⟩
 have sx1:SB x1.key:=k0.2.at hx1
 refine bN (y_idxA k0.1)<|bN y_fieldAddr<|?_
 replace k0:=(k0.le lb6).ap q8 mo2 hO8
 refine bN (y_load (RdF.cell k0.1 hx1 rfl))<|bN y_fieldAddr<|bN (y_load (Blk.at B1 rfl rfl))<|bN jO<|gO ?_
 refine aF (ah6 0 3 5 6 7 38) fun r=>?_
 refine fH (fun g38=>?_) (fun g38=>?_)
 refine aE (aB y_move<|aB y_move<|aB y_move<|aB (y_idxA k0.1)<|aB (y_loadEl k0.1 hx1)<|?_)
 refine bE (bA (l:=([x1]:List Write))) (fun v10 h10 q10=>?_)
 obtain ⟨lb10,ow10,sb10⟩:=q10
 have z10:=lb10.1
 replace OB0:=(OB0.leO lb6.1).app q8 hO8
 have k10:Rs _ O8 _ _:=Ow.end ⟨ow10,ok1⟩ OB0
 obtain ⟨A11,n11,c11,rfl⟩:=k10.frm
 replace o2:=o2.le lb10
 refine bE (bW aP o2.1 k10.1 (by omega) (Nat.add_le_add o2.2.len k10.2.len)) (fun v12 h12 q12=>?_)
 have L1:=o2.2.len
 have L2:=k10.2.len
 obtain ⟨O12,hO12,z12,ow12⟩:=q12.ow (OkL.app o2.2 k10.2 (by first | omega | (simp only [List.length_append,List.length_take,List.length_drop,List.length_cons,List.length_nil,List.length_set]; omega) | (simp; omega))) O8
 have sp_o2_B1q:=fun hv=>(q12.2.2 _ hv).elim sp_o2_B1 (fun e=>by omega)
 replace B1:=(B1.le lb10).app q12 sp_o2_B1
 have sp_o2_B1:=sp_o2_B1q
 replace lr4:=(lr4.tl lb10).apO q12 (fun x hv=>lx4 x ((fun x hv=>(hO8 x).2 (.inr hv)) x hv))
 have lx4:=laA lx4 hO12 q12 (fun x hv=>(hO8 x).2 (.inr hv)) (by omega)
 replace le:=(le.t lb10).ap o2 q12 (by omega)
 have o2:=ow12
 obtain ⟨A13,n13,c13,rfl⟩:=o2.frm
 refine aB aC<|aD ?_
 refine aF (ah5 0 3 5 6 7) fun r=>?_
 refine aE (aB y_move<|aB bI<|aB aC<|aD ?_)
 replace OB0:=(OB0.leO lb10.1).app q12 hO12
 exact ⟨(k + 1,((m ++ ([x]:List Write)) ++ ([x1]:List Write)),true,O12,(.slice A13 n13 c13)),ag5,⟨le,lr4,lx4,fun x hx=>(il hO12 (il hO8 (lb4 _ hx))),OB0,B1,(il hO12 (il hO8 mB1)),o2.wk (by omega),(fun x hv=>(hO12 x).2 (.inr hv)),sp_o2_B1,by exact ⟨by omega,by rw [dK hx1,← e2]; clear e2; cases d <;> simp_all [jG],by first | omega | (simp; omega)⟩⟩,by first | omega | (dsimp only; omega)⟩
 refine aM ?_
 refine aE (aB y_move<|aB bI<|aB aC<|aD ?_)
 replace OB0:=(OB0.leO lb6.1).app q8 hO8
 exact ⟨(k + 1,(m ++ ([x]:List Write)),true,O8,(.slice A9 n9 c9)),ag5,⟨le,lr4,lx4,fun x hx=>(il hO8 (lb4 _ hx)),OB0,B1,(il hO8 mB1),o2.wk (by omega),(fun x hv=>(hO8 x).2 (.inr hv)),sp_o2_B1,by exact ⟨by omega,by rw [dK hx1,← e2]; clear e2; cases d <;> simp_all [jG],by first | omega | (simp; omega)⟩⟩,by first | omega | (dsimp only; omega)⟩
 have g26':=g26
 simp at g26'
 refine aM ?_
 refine aI ?_
 refine fR (bN y_move<|bN y_move<|?_)
 replace k0:=((k0.nb lb1 hO1 eb1).ns lb2 hO2 (fun x hv=>(ow2.vb hv).1)).lp lp4 la4
 obtain ⟨x1,hx1⟩:∃ x,l[k]? = some x:=⟨_,List.getElem?_eq_getElem (by omega)⟩
 have sx1:SB x1.key:=k0.2.at hx1
 refine bN (y_idxA k0.1)<|bN y_fieldAddr<|bN (y_load (RdF.cell k0.1 hx1 rfl))<|bN y_fieldAddr<|bN (y_load (Blk.at B1 rfl rfl))<|bN jO<|gO ?_
 refine aF (ah6 0 3 5 6 7 38) fun r=>?_
 refine fH (fun g38=>?_) (fun g38=>?_)
 refine aE (aB y_move<|aB y_move<|aB y_move<|aB (y_idxA k0.1)<|aB (y_loadEl k0.1 hx1)<|?_)
 have OB0:=lo4
 refine bE (bA (l:=([x1]:List Write))) (fun v14 h14 q14=>?_)
 obtain ⟨lb14,ow14,sb14⟩:=q14
 have z14:=lb14.1
 have k14:Rs _ OL4 _ _:=Ow.end ⟨ow14,ok1⟩ OB0
 obtain ⟨A15,n15,c15,rfl⟩:=k14.frm
 replace o2:=o2.le lb14
 refine bE (bW aP o2.1 k14.1 (by omega) (Nat.add_le_add o2.2.len k14.2.len)) (fun v16 h16 q16=>?_)
 have L1:=o2.2.len
 have L2:=k14.2.len
 obtain ⟨O16,hO16,z16,ow16⟩:=q16.ow (OkL.app o2.2 k14.2 (by first | omega | (simp only [List.length_append,List.length_take,List.length_drop,List.length_cons,List.length_nil,List.length_set]; omega) | (simp; omega))) OL4
 have sp_o2_B1q:=fun hv=>(q16.2.2 _ hv).elim sp_o2_B1 (fun e=>by omega)
 replace B1:=(B1.le lb14).app q16 sp_o2_B1
 have sp_o2_B1:=sp_o2_B1q
 replace lr4:=(lr4.tl lb14).apO q16 (fun x hv=>lx4 x (mo2 x hv))
 have lx4:=laA lx4 hO16 q16 mo2 (by omega)
 replace le:=(le.t lb14).ap o2 q16 (by omega)
 have o2:=ow16
 obtain ⟨A17,n17,c17,rfl⟩:=o2.frm
 refine aB aC<|aD ?_
 refine aF (ah5 0 3 5 6 7) fun r=>?_
 refine aE (aB y_move<|aB bI<|aB aC<|aD ?_)
 replace OB0:=(OB0.leO lb14.1).app q16 hO16
 exact ⟨(k + 1,(m ++ ([x1]:List Write)),d,O16,(.slice A17 n17 c17)),ag5,⟨le,lr4,lx4,fun x hx=>(il hO16 (lb4 _ hx)),OB0,B1,(il hO16 mB1),o2.wk (by omega),(fun x hv=>(hO16 x).2 (.inr hv)),sp_o2_B1,by exact ⟨by omega,by rw [dK hx1,← e2]; clear e2; cases d <;> simp_all [jG],by first | omega | (simp; omega)⟩⟩,by first | omega | (dsimp only; omega)⟩
 refine aM ?_
 refine aE (aB y_move<|aB bI<|aB aC<|aD ?_)
 have OB0:=lo4
 exact ⟨(k + 1,m,d,OL4,(.slice A5 n5 c5)),ag5,⟨le,lr4,lx4,fun x hx=>(lb4 _ hx),OB0,B1,mB1,o2.wk (by omega),mo2,sp_o2_B1,by exact ⟨by omega,by rw [dK hx1,← e2]; clear e2; cases d <;> simp_all [jG],by first | omega | (simp; omega)⟩⟩,by first | omega | (dsimp only; omega)⟩
 refine eT (b:=d) (fun g17=>?_) (fun g17=>?_)
 refine dI (neF (nT g17))<|dI (neF (nT g17))<|dI (neF (nT g17))<|dI (neF (nT g17))<|dI (neF (nT g17))<|dI (neF (nT g17))<|dI (neF (nT g17))<|dI (neF (nT g17))<|bN (aR (nT g17))<|?_
 exact jn _ (aA (aA (aA (aA (aA (aA aJ (by simp only [aH,reduceIte,Nat.reduceEqDiff,reduceCtorEq,(nT g17),bb])))))))
 refine dJ (nF g17) y_move<|dJ (nF g17) y_move<|?_
 replace k0:=((k0.nb lb1 hO1 eb1).ns lb2 hO2 (fun x hv=>(ow2.vb hv).1)).lp lp4 la4
 obtain ⟨x1,hx1⟩:∃ x,l[k]? = some x:=⟨_,List.getElem?_eq_getElem (by omega)⟩
 have sx1:SB x1.key:=k0.2.at hx1
 refine dJ (nF g17) (y_idxA k0.1)<|dJ (nF g17) y_fieldAddr<|dJ (nF g17) (y_load (RdF.cell k0.1 hx1 rfl))<|dJ (nF g17) y_fieldAddr<|dJ (nF g17) (y_load (Blk.at B1 rfl rfl))<|dJ (nF g17) rA<|bN (y_pickT (nF g17))<|?_
 exact jn _ (aA (aA (aA (aA (aA (aA aJ (by simp only [aH,reduceIte,Nat.reduceEqDiff,reduceCtorEq,(nF g17),hx1,bb])))))))
 refine cI ?_
 have OB0:=lo4
 exact ⟨(k,m,d,OL4,(.slice A5 n5 c5)),ag5,⟨le,lr4,lx4,fun x hx=>(lb4 _ hx),OB0,B1,mB1,o2.wk (by omega),mo2,sp_o2_B1,by rw [e2,List.take_of_length_le (by omega)]⟩⟩
 rintro ⟨k,m,d,OL4,ov⟩ r hl4 ⟨le,lp4,la4,lb4,lo4,B1,mB1,o2,mo2,sp_o2_B1,e1⟩
 obtain ⟨A18,n18,c18,rfl⟩:=o2.frm
 have zl4:=lp4.1
 have hm:m.length ≤ 2 * l.length:=by have:=rW x l ([],false); rw [← e1] at this; simpa using this
 refine aI ?_
 refine hw_sr (aB y_move<|aB dG<|aD ?_)
 refine dS (fun g47=>?_) (fun g47=>?_)
 refine aE (aB y_move<|aB (y_loadB B1 0 _)<|?_)
 have OB0:=lo4
 refine bE (bA (l:=([x]:List Write))) (fun v19 h19 q19=>?_)
 obtain ⟨lb19,ow19,sb19⟩:=q19
 have z19:=lb19.1
 have k19:Rs _ OL4 _ _:=Ow.end ⟨ow19,ok1⟩ OB0
 obtain ⟨A20,n20,c20,rfl⟩:=k19.frm
 replace o2:=o2.le lb19
 refine bE (bW aP o2.1 k19.1 (by omega) (Nat.add_le_add o2.2.len k19.2.len)) (fun v21 h21 q21=>?_)
 have L1:=o2.2.len
 have L2:=k19.2.len
 obtain ⟨O21,hO21,z21,ow21⟩:=q21.ow (OkL.app o2.2 k19.2 (by first | omega | (simp only [List.length_append,List.length_take,List.length_drop,List.length_cons,List.length_nil,List.length_set]; omega) | (simp; omega))) OL4
 have sp_o2_B1q:=fun hv=>(q21.2.2 _ hv).elim sp_o2_B1 (fun e=>by omega)
 replace B1:=(B1.le lb19).app q21 sp_o2_B1
 have sp_o2_B1:=sp_o2_B1q
 replace le:=(le.t lb19).ap o2 q21 (by omega)
 have o2:=ow21
 obtain ⟨A22,n22,c22,rfl⟩:=o2.frm
 refine aB aC<|aD ?_
 refine aF (ah1 5) fun r=>?_
 refine hw_sr (aB y_move<|aB aC<|aD ?_)
 refine hw_rr ?_
 refine aQ rfl (.cons aU .nil) ?_
 exact ⟨le,(o2.wk (by omega)).cast (by first | rfl | (simp only [jC]; rw [← e1]; simp_all))⟩
 refine aM ?_
 refine hw_sr (aB y_move<|aB aC<|aD ?_)
 refine hw_rr ?_
 refine aQ rfl (.cons aU .nil) ?_
 exact ⟨le,(o2.wk (by omega)).cast (by first | rfl | (simp only [jC]; rw [← e1]; simp_all))⟩
set_option maxHeartbeats 1000000 in
theorem xA {w0:World} {h:Heap} {O:Nat → Prop} {v:cD} {k0v:Value} {w:kU} {k1v:Value} {x:Write} (k0:Rs h O k0v v.list) (k1:Rs h O k1v w.writes) (OB0:OB h O) (s0:SB x.key:=by first | assumption | omega | (simp; omega)):HC (XM PP) w0 118 [.agg #[vi v.now,k0v],.agg #[vi w.at',k1v],.agg #[vs x.key,vi x.num,vb x.gone]].toArray h (fun rv h'=>∃ (s1:Value),rv = .tuple #[.agg #[vi (((workPut v w x).1).at'),s1],vi ((workPut v w x).2)]∧Le h h' ∧ Rs h' O s1 (((workPut v w x).1).writes)):=by
 obtain ⟨Ak0,nk0,ck0,rfl⟩:=k0.frm
 obtain ⟨Ak1,nk1,ck1,rfl⟩:=k1.frm
 have le:=Le.refl h
 have OBe:=OB0
 have hl:=k0.len
 have hw:=k1.len
 refine aV 43 [(0,.agg #[vi v.now,(.slice Ak0 nk0 ck0)]),(1,.agg #[vi w.at',(.slice Ak1 nk1 ck1)]),(2,.agg #[vs x.key,vi x.num,vb x.gone])] Tryz.func118 (fun r=>?_)
 refine hw_sr (bE cW (fun v1 h1 q1=>?_))
 obtain ⟨b1,O1,rfl,eb1,sb1,lb1,B1,hO1⟩:=q1.ox O
 refine bE cW (fun v2 h2 q2=>?_)
 obtain ⟨b2,O2,rfl,eb2,sb2,lb2,B2,hO2⟩:=q2.ox O1
 refine bE cW (fun v3 h3 q3=>?_)
 obtain ⟨b3,O3,rfl,eb3,sb3,lb3,B3,hO3⟩:=q3.ox O2
 refine bE aY (fun v4 h4 q4=>?_)
 obtain ⟨b4,O4,rfl,eb4,sb4,lb4,B4,hO4⟩:=q4.ox O3
 refine aB aC<|aD ?_
 refine aF (ah4 3 4 5 6) fun r=>?_
 refine aI ?_
 refine aI ?_
 replace B1:=((B1.le lb2).le lb3).le lb4
 replace B2:=(B2.le lb3).le lb4
 refine aE (aB (y_loadB B1 0 _)<|aB (y_loadB B2 0 _)<|?_)
 replace k0:=(((k0.nb lb1 hO1 eb1).nb lb2 hO2 eb2).nb lb3 hO3 eb3).nb lb4 hO4 eb4
 replace k1:=(((k1.nb lb1 hO1 eb1).nb lb2 hO2 eb2).nb lb3 hO3 eb3).nb lb4 hO4 eb4
 replace OB0:=(((OB0.newB sb1 hO1 eb1).newB sb2 hO2 eb2).newB sb3 hO3 eb3).newB sb4 hO4 eb4
 refine bL aG (oK (v:=v) (w:=w) k0 k1 OB0) (fun v5 h5 q5=>?_)
 obtain ⟨rfl,lc5⟩:=q5
 have z5:=lc5.1
 refine aB dG<|aD ?_
 refine aF (ah5 3 4 5 6 12) fun r=>?_
 refine dS (fun g12=>?_) (fun g12=>?_)
 refine hw_sr (aB (y_build rfl rfl)<|?_)
 replace B4:=B4.le lc5
 refine bO (aK aP B4) (fun v6 h6 q6=>?_)
 obtain ⟨rfl,q6⟩:=q6
 have z6:=q6.1
 have B4:=q6.2.2
 refine aB aC<|aD ?_
 refine hw_rr ?_
 refine aQ rfl (.cons (bT B4) (.cons aU .nil)) ?_
 replace le:=(((((le.t lb1).t lb2).t lb3).t lb4).t lc5).s q6
 exact ⟨_,by first | rfl | (simp_all [oneOf,workPut] <;> intros <;> (repeat' split) <;> (try and_intros) <;> first | rfl | omega | (simp_all; done)),le,Rs.nil.cast (by first | rfl | (simp_all [oneOf,workPut] <;> intros <;> (repeat' split) <;> (try and_intros) <;> first | rfl | omega | (simp_all; done)))⟩
 have hb:=rB (v:=v) (w:=w) (by simp_all)
 have hp:=xK w.writes x
 refine aM ?_
 refine aI ?_
 refine aI ?_
 replace B3:=(B3.le lb4).le lc5
 refine aE (aB (y_loadB B3 0 _)<|?_)
 refine bE (bA (l:=([x]:List Write))) (fun v7 h7 q7=>?_)
 obtain ⟨lb7,ow7,sb7⟩:=q7
 have z7:=lb7.1
 replace OB0:=OB0.leO lc5.1
 have k7:Rs _ O4 _ _:=Ow.end ⟨ow7,ok1⟩ OB0
 obtain ⟨A8,n8,c8,rfl⟩:=k7.frm
 refine dY aG (iL k7)<|aB dG<|aD ?_
 refine aF (ah5 3 4 5 6 17) fun r=>?_
 refine dS (fun g17=>?_) (fun g17=>?_)
 refine aI ?_
 replace B2:=(B2.le lc5).le lb7
 refine aE (aB (y_loadB B2 0 _)<|?_)
 replace k1:=(k1.le lc5).le lb7
 replace OB0:=OB0.leO lb7.1
 refine bL aG (nY (w:=w) k1 OB0) (fun v9 h9 q9=>?_)
 obtain ⟨s9_1,rfl,lc9,k9_1⟩:=q9
 have z9:=lc9.1
 replace k9_1:=k9_1.end OB0
 obtain ⟨A10,n10,c10,rfl⟩:=k9_1.frm
 replace B4:=((B4.le lc5).le lb7).le lc9
 refine bO (aK aP B4) (fun v11 h11 q11=>?_)
 obtain ⟨rfl,q11⟩:=q11
 have z11:=q11.1
 have B4:=q11.2.2
 refine aB aC<|aD ?_
 refine aF (ah2 6 7) fun r=>?_
 refine hw_rr ?_
 refine aQ rfl (.cons (bT B4) (.cons aU .nil)) ?_
 replace le:=(((((((le.t lb1).t lb2).t lb3).t lb4).t lc5).t lb7).t lc9).s q11
 replace k9_1:=k9_1.st q11 (ir hO4)
 exact ⟨_,by first | rfl | (simp_all [oneOf,workPut] <;> intros <;> (repeat' split) <;> (try and_intros) <;> first | rfl | omega | (simp_all; done)),le,(k9_1.wk (fun x hx=>(il hO4 (il hO3 (il hO2 (il hO1 hx)))))).cast (by first | rfl | (simp_all [oneOf,workPut] <;> intros <;> (repeat' split) <;> (try and_intros) <;> first | rfl | omega | (simp_all; done)))⟩
 refine aM ?_
 refine aI ?_
 refine aI ?_
 replace k0:=(k0.le lc5).le lb7
 have Rk0:=k0
 replace k1:=(k1.le lc5).le lb7
 have Rk1:=k1
 obtain ⟨S12,hS12⟩:=mkO (fun b=>h7.size ≤ b)
 have mR12:Mod S12 h7 h7:=Mod.refl _
 have hd12:∀ b,b < h7.size∧¬ O4 b → ¬ S12 b:=fun b hb hs=>(fun hs=>absurd hb.1 (Nat.not_lt.2 hs)) ((hS12 b).1 hs)
 replace B1:=(B1.le lc5).le lb7
 replace B2:=(B2.le lc5).le lb7
 replace B3:=B3.le lb7
 refine bH 7 S12 bC (ha2_y 0 rfl (fun _ mm=>(y_loadB (Blk.mod B1 mm (fun hs=>by rcases (hS12 _).1 hs with hs <;> first | omega)) 0 _))<|ha2_p 1 rfl (fun _=>y_fieldAddr)<|ha2_y 2 rfl (fun _ mm=>(y_load (Blk.at (Blk.mod B3 mm (fun hs=>by rcases (hS12 _).1 hs with hs <;> first | omega)) rfl rfl)))<|ha2_p 4 rfl (fun _=>y_fieldAddr)<|ha2_y 5 rfl (fun _ mm=>(y_load (Blk.at (Blk.mod B2 mm (fun hs=>by rcases (hS12 _).1 hs with hs <;> first | omega)) rfl rfl)))<|?_)
 replace OB0:=OB0.leO lb7.1
 refine aW 3 (cC rfl aG (zX (v:=v) k0 OB0) (fun v13 h13 q13=>?_))
 obtain ⟨rfl,lc13⟩:=q13
 have z13:=lc13.1
 refine ⟨Le.mod lc13,?_⟩
 refine ha2_p 6 rfl (fun _=>cU)<|cN ?_
 refine aF (ah5 3 4 5 6 26) fun r=>?_
 refine aZ (fun g26=>?_) (fun g26=>?_)
 refine aI ?_
 replace B2:=B2.le lc13
 refine aE (aB (y_loadB B2 0 _)<|?_)
 replace k1:=k1.le lc13
 replace OB0:=OB0.leO lc13.1
 refine bL aG (nY (w:=w) k1 OB0) (fun v14 h14 q14=>?_)
 obtain ⟨s14_1,rfl,lc14,k14_1⟩:=q14
 have z14:=lc14.1
 replace k14_1:=k14_1.end OB0
 obtain ⟨A15,n15,c15,rfl⟩:=k14_1.frm
 replace B4:=(((B4.le lc5).le lb7).le lc13).le lc14
 refine bO (aK aP B4) (fun v16 h16 q16=>?_)
 obtain ⟨rfl,q16⟩:=q16
 have z16:=q16.1
 have B4:=q16.2.2
 refine aB aC<|aD ?_
 refine aF (ah2 6 7) fun r=>?_
 refine hw_rr ?_
 refine aQ rfl (.cons (bT B4) (.cons aU .nil)) ?_
 replace le:=((((((((le.t lb1).t lb2).t lb3).t lb4).t lc5).t lb7).t lc13).t lc14).s q16
 replace k14_1:=k14_1.st q16 (ir hO4)
 exact ⟨_,by first | rfl | (simp_all [oneOf,workPut] <;> intros <;> (repeat' split) <;> (try and_intros) <;> first | rfl | omega | (simp_all; done)),le,(k14_1.wk (fun x hx=>(il hO4 (il hO3 (il hO2 (il hO1 hx)))))).cast (by first | rfl | (simp_all [oneOf,workPut] <;> intros <;> (repeat' split) <;> (try and_intros) <;> first | rfl | omega | (simp_all; done)))⟩
 refine aM ?_
 refine aI ?_
 replace k1:=k1.le lc13
 have Rk1:=k1
 obtain ⟨S17,hS17⟩:=mkO (fun b=>h13.size ≤ b)
 have mR17:Mod S17 h13 h13:=Mod.refl _
 have hd17:∀ b,b < h13.size∧¬ O4 b → ¬ S17 b:=fun b hb hs=>(fun hs=>absurd hb.1 (Nat.not_lt.2 hs)) ((hS17 b).1 hs)
 replace B2:=B2.le lc13
 replace B3:=B3.le lc13
 refine bH 9 S17 bC (ha2_p 0 rfl (fun _=>y_fieldAddr)<|ha2_y 1 rfl (fun _ mm=>(y_load (Blk.at (Blk.mod B2 mm (fun hs=>by rcases (hS17 _).1 hs with hs <;> first | omega)) rfl rfl)))<|ha2_p 2 rfl (fun _=>y_fieldAddr)<|ha2_y 3 rfl (fun _ mm=>(y_load (Blk.at (Blk.mod B2 mm (fun hs=>by rcases (hS17 _).1 hs with hs <;> first | omega)) rfl rfl)))<|ha2_y 4 rfl (fun _ mm=>(y_loadB (Blk.mod B3 mm (fun hs=>by rcases (hS17 _).1 hs with hs <;> first | omega)) 0 _))<|?_)
 refine dU 5 7 ?_ ?_
 replace OB0:=OB0.leO lc13.1
 refine cC rfl aG (aBD (x:=x) k1 OB0) (fun v18 h18 q18=>?_)
 obtain ⟨lc18,k18_1⟩:=q18
 have z18:=lc18.1
 refine ⟨Le.mod lc18,?_⟩
 replace k18_1:=k18_1.end OB0
 obtain ⟨A19,n19,c19,rfl⟩:=k18_1.frm
 refine ha2_p 6 rfl (fun _=>(y_build rfl rfl))<|?_
 refine aW 7 (cB rfl aY (fun v20 h20 q20=>?_))
 obtain ⟨b20,O20,rfl,eb20,sb20,lb20,B20,hO20⟩:=q20.ox O4
 refine ⟨Le.mod lb20,?_⟩
 refine aW 8 (lN rfl (aK aP B20) (fun v21 h21 q21=>?_))
 obtain ⟨rfl,q21⟩:=q21
 have z21:=q21.1
 have B20:=q21.2.2
 refine aF (ah4 3 4 6 8) fun r=>?_
 refine aI ?_
 refine aI ?_
 replace B1:=(((B1.le lc13).le lc18).le lb20).s q21
 refine aE (aB (y_loadB B1 0 _)<|aB (y_loadB B20 0 _)<|?_)
 replace k0:=(((k0.le lc13).le lc18).nb lb20 hO20 eb20).st q21 (ir hO20)
 replace k18_1:=(k18_1.nb lb20 hO20 eb20).st q21 (ir hO20)
 replace OB0:=((OB0.leO lc18.1).newB sb20 hO20 eb20).leO (Nat.le_of_eq q21.1.symm)
 refine bL aG (oK (v:=v) (w:=(⟨w.at',jC w.writes x⟩:kU)) k0 k18_1 OB0) (fun v22 h22 q22=>?_)
 obtain ⟨rfl,lc22⟩:=q22
 have z22:=lc22.1
 refine aB dG<|aD ?_
 refine aF (ah4 4 6 8 39) fun r=>?_
 refine dS (fun g39=>?_) (fun g39=>?_)
 refine aI ?_
 replace B2:=(((B2.le lc18).le lb20).s q21).le lc22
 refine aE (aB (y_loadB B2 0 _)<|?_)
 replace k1:=(((k1.le lc18).nb lb20 hO20 eb20).st q21 (ir hO20)).le lc22
 replace OB0:=OB0.leO lc22.1
 refine bL aG (nY (w:=w) k1 OB0) (fun v23 h23 q23=>?_)
 obtain ⟨s23_1,rfl,lc23,k23_1⟩:=q23
 have z23:=lc23.1
 replace k23_1:=k23_1.end OB0
 obtain ⟨A24,n24,c24,rfl⟩:=k23_1.frm
 replace B4:=(((((((B4.le lc5).le lb7).le lc13).le lc18).le lb20).s q21).le lc22).le lc23
 refine bO (aK aP B4) (fun v25 h25 q25=>?_)
 obtain ⟨rfl,q25⟩:=q25
 have z25:=q25.1
 have B4:=q25.2.2
 refine aB aC<|aD ?_
 refine aF (ah2 6 7) fun r=>?_
 refine hw_rr ?_
 refine aQ rfl (.cons (bT B4) (.cons aU .nil)) ?_
 replace le:=((((((((((((le.t lb1).t lb2).t lb3).t lb4).t lc5).t lb7).t lc13).t lc18).t lb20).s q21).t lc22).t lc23).s q25
 replace k23_1:=k23_1.st q25 (il hO20 (ir hO4))
 exact ⟨_,by first | rfl | (simp_all [oneOf,workPut] <;> intros <;> (repeat' split) <;> (try and_intros) <;> first | rfl | omega | (simp_all; done)),le,(k23_1.wk (fun x hx=>(il hO20 (il hO4 (il hO3 (il hO2 (il hO1 hx))))))).cast (by first | rfl | (simp_all [oneOf,workPut] <;> intros <;> (repeat' split) <;> (try and_intros) <;> first | rfl | omega | (simp_all; done)))⟩
 refine aM ?_
 refine aI ?_
 replace B20:=B20.le lc22
 refine aE (aB (y_loadB B20 0 _)<|?_)
 replace B4:=((((((B4.le lc5).le lb7).le lc13).le lc18).le lb20).s q21).le lc22
 refine bO (aK aP B4) (fun v26 h26 q26=>?_)
 obtain ⟨rfl,q26⟩:=q26
 have z26:=q26.1
 have B4:=q26.2.2
 refine aB aC<|aD ?_
 refine hw_rr ?_
 refine aQ rfl (.cons (bT B4) (.cons aU .nil)) ?_
 replace le:=(((((((((((le.t lb1).t lb2).t lb3).t lb4).t lc5).t lb7).t lc13).t lc18).t lb20).s q21).t lc22).s q26
 replace k18_1:=(k18_1.le lc22).st q26 (il hO20 (ir hO4))
 exact ⟨_,by first | rfl | (simp_all [oneOf,workPut] <;> intros <;> (repeat' split) <;> (try and_intros) <;> first | rfl | omega | (simp_all; done)),le,(k18_1.wk (fun x hx=>(il hO20 (il hO4 (il hO3 (il hO2 (il hO1 hx))))))).cast (by first | rfl | (simp_all [oneOf,workPut] <;> intros <;> (repeat' split) <;> (try and_intros) <;> first | rfl | omega | (simp_all; done)))⟩
 refine cB rfl aY (fun v27 h27 q27=>?_)
 obtain ⟨b27,O27,rfl,eb27,sb27,lb27,B27,hO27⟩:=q27.ox O4
 refine ⟨Le.mod lb27,?_⟩
 refine aW 5 (?_)
 replace OB0:=(OB0.leO lc13.1).newB sb27 hO27 eb27
 replace k1:=k1.nb lb27 hO27 eb27
 refine cC rfl aG (aBD (x:=x) k1 OB0) (fun v28 h28 q28=>?_)
 obtain ⟨lc28,k28_1⟩:=q28
 have z28:=lc28.1
 refine ⟨Le.mod lc28,?_⟩
 replace k28_1:=k28_1.end OB0
 obtain ⟨A29,n29,c29,rfl⟩:=k28_1.frm
 refine ha2_p 6 rfl (fun _=>(y_build rfl rfl))<|?_
 replace B27:=B27.le lc28
 refine aW 8 (lN rfl (aK aP B27) (fun v30 h30 q30=>?_))
 obtain ⟨rfl,q30⟩:=q30
 have z30:=q30.1
 have B27:=q30.2.2
 refine aF (ah4 3 4 6 8) fun r=>?_
 refine aI ?_
 refine aI ?_
 replace B1:=(((B1.le lc13).le lb27).le lc28).s q30
 refine aE (aB (y_loadB B1 0 _)<|aB (y_loadB B27 0 _)<|?_)
 replace k0:=(((k0.le lc13).nb lb27 hO27 eb27).le lc28).st q30 (ir hO27)
 replace k28_1:=k28_1.st q30 (ir hO27)
 replace OB0:=OB0.leO (h':=h30) (by omega)
 refine bL aG (oK (v:=v) (w:=(⟨w.at',jC w.writes x⟩:kU)) k0 k28_1 OB0) (fun v31 h31 q31=>?_)
 obtain ⟨rfl,lc31⟩:=q31
 have z31:=lc31.1
 refine aB dG<|aD ?_
 refine aF (ah4 4 6 8 39) fun r=>?_
 refine dS (fun g39=>?_) (fun g39=>?_)
 refine aI ?_
 replace B2:=(((B2.le lb27).le lc28).s q30).le lc31
 refine aE (aB (y_loadB B2 0 _)<|?_)
 replace k1:=((k1.le lc28).st q30 (ir hO27)).le lc31
 replace OB0:=OB0.leO lc31.1
 refine bL aG (nY (w:=w) k1 OB0) (fun v32 h32 q32=>?_)
 obtain ⟨s32_1,rfl,lc32,k32_1⟩:=q32
 have z32:=lc32.1
 replace k32_1:=k32_1.end OB0
 obtain ⟨A33,n33,c33,rfl⟩:=k32_1.frm
 replace B4:=(((((((B4.le lc5).le lb7).le lc13).le lb27).le lc28).s q30).le lc31).le lc32
 refine bO (aK aP B4) (fun v34 h34 q34=>?_)
 obtain ⟨rfl,q34⟩:=q34
 have z34:=q34.1
 have B4:=q34.2.2
 refine aB aC<|aD ?_
 refine aF (ah2 6 7) fun r=>?_
 refine hw_rr ?_
 refine aQ rfl (.cons (bT B4) (.cons aU .nil)) ?_
 replace le:=((((((((((((le.t lb1).t lb2).t lb3).t lb4).t lc5).t lb7).t lc13).t lb27).t lc28).s q30).t lc31).t lc32).s q34
 replace k32_1:=k32_1.st q34 (il hO27 (ir hO4))
 exact ⟨_,by first | rfl | (simp_all [oneOf,workPut] <;> intros <;> (repeat' split) <;> (try and_intros) <;> first | rfl | omega | (simp_all; done)),le,(k32_1.wk (fun x hx=>(il hO27 (il hO4 (il hO3 (il hO2 (il hO1 hx))))))).cast (by first | rfl | (simp_all [oneOf,workPut] <;> intros <;> (repeat' split) <;> (try and_intros) <;> first | rfl | omega | (simp_all; done)))⟩
 refine aM ?_
 refine aI ?_
 replace B27:=B27.le lc31
 refine aE (aB (y_loadB B27 0 _)<|?_)
 replace B4:=((((((B4.le lc5).le lb7).le lc13).le lb27).le lc28).s q30).le lc31
 refine bO (aK aP B4) (fun v35 h35 q35=>?_)
 obtain ⟨rfl,q35⟩:=q35
 have z35:=q35.1
 have B4:=q35.2.2
 refine aB aC<|aD ?_
 refine hw_rr ?_
 refine aQ rfl (.cons (bT B4) (.cons aU .nil)) ?_
 replace le:=(((((((((((le.t lb1).t lb2).t lb3).t lb4).t lc5).t lb7).t lc13).t lb27).t lc28).s q30).t lc31).s q35
 replace k28_1:=(k28_1.le lc31).st q35 (il hO27 (ir hO4))
 exact ⟨_,by first | rfl | (simp_all [oneOf,workPut] <;> intros <;> (repeat' split) <;> (try and_intros) <;> first | rfl | omega | (simp_all; done)),le,(k28_1.wk (fun x hx=>(il hO27 (il hO4 (il hO3 (il hO2 (il hO1 hx))))))).cast (by first | rfl | (simp_all [oneOf,workPut] <;> intros <;> (repeat' split) <;> (try and_intros) <;> first | rfl | omega | (simp_all; done)))⟩
set_option maxHeartbeats 1000000 in
theorem rL {w0:World} {h:Heap} {O:Nat → Prop} {v:cD} {k0v:Value} {w:kU} {k1v:Value} (k0:Rs h O k0v v.list) (k1:Rs h O k1v w.writes) (OB0:OB h O)  : HC (XM PP) w0 116 [.agg #[vi v.now,k0v],.agg #[vi w.at',k1v]].toArray h (fun rv h'=>∃ (s1:Value),rv = .tuple #[.agg #[vi (((workEnd v w).1).now),s1],vi ((workEnd v w).2)]∧Le h h' ∧ Rs h' O s1 (((workEnd v w).1).list)):=by
 obtain ⟨Ak0,nk0,ck0,rfl⟩:=k0.frm
 obtain ⟨Ak1,nk1,ck1,rfl⟩:=k1.frm
 have le:=Le.refl h
 have OBe:=OB0
 have hl:=k0.len
 have hw:=k1.len
 refine aV 52 [(0,.agg #[vi v.now,(.slice Ak0 nk0 ck0)]),(1,.agg #[vi w.at',(.slice Ak1 nk1 ck1)])] Tryz.func116 (fun r=>?_)
 refine hw_sr (bE cW (fun v1 h1 q1=>?_))
 obtain ⟨b1,O1,rfl,eb1,sb1,lb1,B1,hO1⟩:=q1.ox O
 refine bE cW (fun v2 h2 q2=>?_)
 obtain ⟨b2,O2,rfl,eb2,sb2,lb2,B2,hO2⟩:=q2.ox O1
 refine bE aY (fun v3 h3 q3=>?_)
 obtain ⟨b3,O3,rfl,eb3,sb3,lb3,B3,hO3⟩:=q3.ox O2
 refine aB aC<|aD ?_
 refine aF (ah3 2 3 4) fun r=>?_
 refine aI ?_
 refine aI ?_
 replace B1:=(B1.le lb2).le lb3
 replace B2:=B2.le lb3
 refine aE (aB (y_loadB B1 0 _)<|aB (y_loadB B2 0 _)<|?_)
 replace k0:=((k0.nb lb1 hO1 eb1).nb lb2 hO2 eb2).nb lb3 hO3 eb3
 replace k1:=((k1.nb lb1 hO1 eb1).nb lb2 hO2 eb2).nb lb3 hO3 eb3
 replace OB0:=((OB0.newB sb1 hO1 eb1).newB sb2 hO2 eb2).newB sb3 hO3 eb3
 refine bL aG (oK (v:=v) (w:=w) k0 k1 OB0) (fun v4 h4 q4=>?_)
 obtain ⟨rfl,lc4⟩:=q4
 have z4:=lc4.1
 refine aB dG<|aD ?_
 refine aF (ah4 2 3 4 12) fun r=>?_
 refine dS (fun g12=>?_) (fun g12=>?_)
 refine hw_sr (aB (y_build rfl rfl)<|?_)
 replace B3:=B3.le lc4
 refine bO (aK aP B3) (fun v5 h5 q5=>?_)
 obtain ⟨rfl,q5⟩:=q5
 have z5:=q5.1
 have B3:=q5.2.2
 refine aB aC<|aD ?_
 refine hw_rr ?_
 refine aQ rfl (.cons (bT B3) (.cons aU .nil)) ?_
 replace le:=((((le.t lb1).t lb2).t lb3).t lc4).s q5
 exact ⟨_,by first | rfl | (simp_all [oneOf,workEnd] <;> intros <;> (repeat' split) <;> (try and_intros) <;> first | rfl | omega | (simp_all; done)),le,Rs.nil.cast (by first | rfl | (simp_all [oneOf,workEnd] <;> intros <;> (repeat' split) <;> (try and_intros) <;> first | rfl | omega | (simp_all; done)))⟩
 have hok:jQ v w = true:=by simp_all
 have hb:=rB (v:=v) (w:=w) (by simp_all)
 refine aM ?_
 refine aI ?_
 refine hw_sr (aB aC<|aD ?_)
 refine cT (fun (k:Nat)=>[(2,.pointer (some ⟨b1,0,none⟩)),(3,.pointer (some ⟨b2,0,none⟩)),(4,.pointer (some ⟨b3,0,none⟩)),(6,vi (k:Int))]) (fun (k:Nat) (h' : Heap)=>Le h4 h' ∧ w.writes.any (workLate v w) = false) (aX (cK (fun (k:Nat)=>[(2,.pointer (some ⟨b1,0,none⟩)),(3,.pointer (some ⟨b2,0,none⟩)),(4,.pointer (some ⟨b3,0,none⟩)),(6,vi (k:Int))]) (fun (k:Nat) (h' : Heap)=>Le h4 h' ∧ k ≤ w.writes.length∧(w.writes.take k).any (workLate v w) = false) (fun (k:Nat)=>w.writes.length - k) (0) ag4 ⟨Le.refl _,by simp⟩ ?_)) ?_
 rintro k r hl6 ⟨lp6,e1,e2⟩
 have zl6:=lp6.1
 have lr6:=lp6
 refine aI ?_
 refine aI ?_
 replace B2:=(B2.le lc4).le lp6
 refine aE (aB y_move<|aB y_fieldAddr<|aB (y_load (Blk.at B2 rfl rfl))<|aB (y_lenA k1.1)<|aB dB<|aD ?_)
 refine aF (ah5 2 3 4 6 18) fun r=>?_
 refine aZ (fun g18=>?_) (fun g18=>?_)
 refine aM ?_
 refine aI ?_
 refine aX ?_
 refine aI ?_
 replace k0:=(k0.le lc4).le lp6
 have Rk0:=k0
 replace k1:=(k1.le lc4).le lp6
 have Rk1:=k1
 obtain ⟨S7,hS7⟩:=mkO (fun b=>hl6.size ≤ b)
 have mR7:Mod S7 hl6 hl6:=Mod.refl _
 have hd7:∀ b,b < hl6.size∧¬ O3 b → ¬ S7 b:=fun b hb hs=>(fun hs=>absurd hb.1 (Nat.not_lt.2 hs)) ((hS7 b).1 hs)
 replace B1:=(B1.le lc4).le lp6
 refine bH 11 S7 bC (ha2_y 0 rfl (fun _ mm=>(y_loadB (Blk.mod B1 mm (fun hs=>by rcases (hS7 _).1 hs with hs <;> first | omega)) 0 _))<|ha2_p 1 rfl (fun _=>y_fieldAddr)<|ha2_y 2 rfl (fun _ mm=>(y_load (Blk.at (Blk.mod B2 mm (fun hs=>by rcases (hS7 _).1 hs with hs <;> first | omega)) rfl rfl)))<|ha2_p 3 rfl (fun _=>y_move)<|?_)
 obtain ⟨x1,hx1⟩:∃ x,w.writes[k]? = some x:=⟨_,List.getElem?_eq_getElem (by omega)⟩
 have sx1:SB x1.key:=k1.2.at hx1
 refine ha2_y 4 rfl (fun _ _=>(y_idxA k1.1))<|ha2_p 5 rfl (fun _=>y_fieldAddr)<|ha2_y 6 rfl (fun _ mm=>(y_load (RdF.cell (RdF.mod Rk1.1 (mR7.trans mm) hd7) hx1 rfl)))<|ha2_p 8 rfl (fun _=>y_fieldAddr)<|ha2_y 9 rfl (fun _ mm=>(y_load (Blk.at (Blk.mod B2 mm (fun hs=>by rcases (hS7 _).1 hs with hs <;> first | omega)) rfl rfl)))<|?_
 replace OB0:=OB0.leO (h':=hl6) (by omega)
 refine aW 7 (cC rfl aG (zX (v:=v) k0 OB0) (fun v8 h8 q8=>?_))
 obtain ⟨rfl,lc8⟩:=q8
 have z8:=lc8.1
 refine ⟨Le.mod lc8,?_⟩
 refine ha2_p 10 rfl (fun _=>cU)<|cN ?_
 refine aF (ah5 2 3 4 6 31) fun r=>?_
 refine aZ (fun g31=>?_) (fun g31=>?_)
 refine aI ?_
 replace B1:=B1.le lc8
 refine aE (aB (y_loadB B1 0 _)<|?_)
 replace k0:=k0.le lc8
 replace OB0:=OB0.leO lc8.1
 refine bL aG (lA (v:=v) k0 OB0) (fun v9 h9 q9=>?_)
 obtain ⟨s9_1,rfl,lc9,k9_1⟩:=q9
 have z9:=lc9.1
 replace k9_1:=k9_1.end OB0
 obtain ⟨A10,n10,c10,rfl⟩:=k9_1.frm
 replace B3:=(((B3.le lc4).le lp6).le lc8).le lc9
 refine bO (aK aP B3) (fun v11 h11 q11=>?_)
 obtain ⟨rfl,q11⟩:=q11
 have z11:=q11.1
 have B3:=q11.2.2
 refine aB aC<|aD ?_
 refine hw_rr ?_
 refine aQ rfl (.cons (bT B3) (.cons aU .nil)) ?_
 replace le:=(((((((le.t lb1).t lb2).t lb3).t lc4).t lp6).t lc8).t lc9).s q11
 replace k9_1:=k9_1.st q11 (ir hO3)
 exact ⟨_,by first | rfl | (simp_all [oneOf,workEnd,any_at hx1,workLate] <;> intros <;> (repeat' split) <;> (try and_intros) <;> first | rfl | omega | (simp_all; done)),le,(k9_1.wk (fun x hx=>(il hO3 (il hO2 (il hO1 hx))))).cast (by first | rfl | (simp_all [oneOf,workEnd,any_at hx1,workLate] <;> intros <;> (repeat' split) <;> (try and_intros) <;> first | rfl | omega | (simp_all; done)))⟩
 refine aM ?_
 refine aE (aB y_move<|aB bI<|aB aC<|aD ?_)
 replace lr6:=lr6.t lc8
 exact ⟨k + 1,ag4,⟨lr6,by exact ⟨by omega,by rw [aAy hx1,e2]; simp_all [workLate]⟩⟩,by first | omega | (dsimp only; omega)⟩
 refine cI ?_
 exact ⟨k,ag4,⟨lr6,by rw [List.take_of_length_le (by omega)] at e2; exact e2⟩⟩
 rintro k r hl6 ⟨lp6,e1⟩
 have zl6:=lp6.1
 have hx:workEnd v w = (if (w.writes.length:Int) = 0 then (v,0) else if !(fM v w.writes).2 then (v,3) else ((fM v w.writes).1,0)):=by unfold workEnd; rw [hok,e1]; rfl
 clear e1
 refine aI ?_
 refine aI ?_
 replace B2:=(B2.le lc4).le lp6
 refine aE (aB y_fieldAddr<|aB (y_load (Blk.at B2 rfl rfl))<|aB (y_lenA k1.1)<|aB bM<|aD ?_)
 refine aF (ah4 2 3 4 37) fun r=>?_
 refine aZ (fun g37=>?_) (fun g37=>?_)
 refine aI ?_
 replace B1:=(B1.le lc4).le lp6
 refine aE (aB (y_loadB B1 0 _)<|?_)
 replace k0:=(k0.le lc4).le lp6
 replace OB0:=OB0.leO (h':=hl6) (by omega)
 refine bL aG (lA (v:=v) k0 OB0) (fun v12 h12 q12=>?_)
 obtain ⟨s12_1,rfl,lc12,k12_1⟩:=q12
 have z12:=lc12.1
 replace k12_1:=k12_1.end OB0
 obtain ⟨A13,n13,c13,rfl⟩:=k12_1.frm
 replace B3:=((B3.le lc4).le lp6).le lc12
 refine bO (aK aP B3) (fun v14 h14 q14=>?_)
 obtain ⟨rfl,q14⟩:=q14
 have z14:=q14.1
 have B3:=q14.2.2
 refine aB aC<|aD ?_
 refine aF (ah2 4 5) fun r=>?_
 refine hw_rr ?_
 refine aQ rfl (.cons (bT B3) (.cons aU .nil)) ?_
 replace le:=((((((le.t lb1).t lb2).t lb3).t lc4).t lp6).t lc12).s q14
 replace k12_1:=k12_1.st q14 (ir hO3)
 exact ⟨_,by first | rfl | (simp_all [oneOf] <;> intros <;> (repeat' split) <;> (try and_intros) <;> first | rfl | omega | (simp_all; done)),le,(k12_1.wk (fun x hx=>(il hO3 (il hO2 (il hO1 hx))))).cast (by first | rfl | (simp_all [oneOf] <;> intros <;> (repeat' split) <;> (try and_intros) <;> first | rfl | omega | (simp_all; done)))⟩
 refine aM ?_
 refine aI ?_
 replace B1:=(B1.le lc4).le lp6
 refine aE (aB (y_loadB B1 0 _)<|aB y_fieldAddr<|aB (y_load (Blk.at B2 rfl rfl))<|?_)
 replace k0:=(k0.le lc4).le lp6
 replace k1:=(k1.le lc4).le lp6
 replace OB0:=OB0.leO (h':=hl6) (by omega)
 refine bL aG (aA2 (v:=v) k0 k1 OB0) (fun v15 h15 q15=>?_)
 obtain ⟨s15_1,rfl,lc15,k15_1⟩:=q15
 have z15:=lc15.1
 obtain ⟨A16,n16,c16,rfl⟩:=k15_1.frm
 refine aB y_move<|aB aL<|aB aL<|bE aY (fun v17 h17 q17=>?_)
 obtain ⟨b17,O17,rfl,eb17,sb17,lb17,B17,hO17⟩:=q17.ox O3
 refine bO (aK aP B17) (fun v18 h18 q18=>?_)
 obtain ⟨rfl,q18⟩:=q18
 have z18:=q18.1
 have B17:=q18.2.2
 refine aB aC<|aD ?_
 refine aF (ah4 2 4 7 8) fun r=>?_
 refine aI ?_
 refine hw_sr (aB y_move<|aB dG<|aD ?_)
 refine dS (fun g48=>?_) (fun g48=>?_)
 refine aI ?_
 replace B1:=((B1.le lc15).le lb17).s q18
 refine aE (aB (y_loadB B1 0 _)<|?_)
 replace k0:=((k0.le lc15).nb lb17 hO17 eb17).st q18 (ir hO17)
 replace OB0:=((OB0.leO lc15.1).newB sb17 hO17 eb17).leO (Nat.le_of_eq q18.1.symm)
 refine bL aG (lA (v:=v) k0 OB0) (fun v19 h19 q19=>?_)
 obtain ⟨s19_1,rfl,lc19,k19_1⟩:=q19
 have z19:=lc19.1
 replace k19_1:=k19_1.end OB0
 obtain ⟨A20,n20,c20,rfl⟩:=k19_1.frm
 replace B3:=(((((B3.le lc4).le lp6).le lc15).le lb17).s q18).le lc19
 refine bO (aK aP B3) (fun v21 h21 q21=>?_)
 obtain ⟨rfl,q21⟩:=q21
 have z21:=q21.1
 have B3:=q21.2.2
 refine aB aC<|aD ?_
 refine aF (ah2 4 5) fun r=>?_
 refine hw_rr ?_
 refine aQ rfl (.cons (bT B3) (.cons aU .nil)) ?_
 replace le:=(((((((((le.t lb1).t lb2).t lb3).t lc4).t lp6).t lc15).t lb17).s q18).t lc19).s q21
 replace k19_1:=k19_1.st q21 (il hO17 (ir hO3))
 exact ⟨_,by first | rfl | (simp_all [oneOf] <;> intros <;> (repeat' split) <;> (try and_intros) <;> first | rfl | omega | (simp_all; done)),le,(k19_1.wk (fun x hx=>(il hO17 (il hO3 (il hO2 (il hO1 hx)))))).cast (by first | rfl | (simp_all [oneOf] <;> intros <;> (repeat' split) <;> (try and_intros) <;> first | rfl | omega | (simp_all; done)))⟩
 refine aM ?_
 refine hw_sr (aB (y_loadB B17 0 _)<|?_)
 replace B3:=((((B3.le lc4).le lp6).le lc15).le lb17).s q18
 refine bO (aK aP B3) (fun v22 h22 q22=>?_)
 obtain ⟨rfl,q22⟩:=q22
 have z22:=q22.1
 have B3:=q22.2.2
 refine aB aC<|aD ?_
 refine hw_rr ?_
 refine aQ rfl (.cons (bT B3) (.cons aU .nil)) ?_
 replace le:=((((((((le.t lb1).t lb2).t lb3).t lc4).t lp6).t lc15).t lb17).s q18).s q22
 replace k15_1:=((k15_1.nb lb17 hO17 eb17).st q18 (ir hO17)).st q22 (il hO17 (ir hO3))
 exact ⟨_,by first | rfl | (simp_all [oneOf] <;> intros <;> (repeat' split) <;> (try and_intros) <;> first | rfl | omega | (simp_all; done)),le,(k15_1.wk (fun x hx=>(il hO17 (il hO3 (il hO2 (il hO1 hx)))))).cast (by first | rfl | (simp_all [oneOf] <;> intros <;> (repeat' split) <;> (try and_intros) <;> first | rfl | omega | (simp_all; done)))⟩
end
section
open Go.Conc
class BoolT (P:Program) (t:TypeId):Prop where h:P.underlying t = some .bool
instance :BoolT PP 4:=⟨Tryz.underlying4⟩
theorem pB {P:Program} {w:World} {es:Array Event} {t:TypeId} {a b:Bool} (d:Nat) (h:P.underlying t = some .bool):(Op.equalIn (d + 1) t (.bool a) (.bool b)).events P w es = es:=by
  simp [Op.equalIn,run_underlying h]
theorem qQ {P:Program} {w:World} {es:Array Event} {t:TypeId} {a b:Bool} (h:P.underlying t = some .bool):(Op.equal t (.bool a) (.bool b)).events P w es = es:=pB 9999 h
theorem aCD {P:Program} {s:Env} {h:Heap} {x y:Operand} {a b:Bool} {t yt ty:TypeId} [ht:BoolT P t] (hx:ev s x = vb a:=by (simp only [ev,aH,reduceIte,Nat.reduceEqDiff,reduceCtorEq] <;> rfl)) (hy:ev s y = vb b:=by (simp only [ev,aH,reduceIte,Nat.reduceEqDiff,reduceCtorEq] <;> rfl)):Y P s h (.binOp .neq t x y yt) ty (.bool (!(a == b))):=fun _ _ _ _ _ _=>by
  have e:binOp .neq t (.bool a) (.bool b) = (do pure (.bool (!(← Op.equal t (.bool a) (.bool b))))):=rfl
  simp [execOp,hx,hy,eqGuard,e,run_equal_bool _ t a b ht.h,qQ ht.h]
def shK (k:Int):Bool:=(decide (k = 1) || decide (k = 6)) || ((decide (k = 2) || decide (k = 3)) || (decide (k = 4) || decide (k = 5)))
def shH (k:Int):Bool:=decide (k = 2) || decide (k = 3)
def shN (k:Int):Bool:=decide (k = 4) || decide (k = 5)
def pL (a:Ask):Bool:=!(decide (a.kind < 1) || decide (9 < a.kind)) && (!(((!(shK a.kind == (!decide (a.key = []))) || (shK a.kind && (!fD a.key))) || (!(shH a.kind == (!decide (a.hi = []))))) || (shH a.kind && (!fD a.hi))) && ((shN a.kind && gC a.num) || ((!shN a.kind) && decide (a.num = 0))))
theorem rF {s:Str} (h:fD s = true):1 ≤ s.length∧s.length ≤ 2:=by
  simp only [fD,Bool.and_eq_true,decide_eq_true_eq] at h; omega
theorem zI {n:Int} (h:gC n = true) : -999 ≤ n∧n ≤ 999:=by
  simpa only [gC,Bool.and_eq_true,decide_eq_true_eq] using h
theorem oI {a:Ask} (h:pL a = true):(1 ≤ a.kind∧a.kind ≤ 9)∧a.key.length ≤ 2∧a.hi.length ≤ 2∧-999 ≤ a.num∧a.num ≤ 999:=by
  simp only [pL,Bool.and_eq_true,Bool.not_eq_true',Bool.or_eq_false_iff,decide_eq_false_iff_not] at h
  obtain ⟨⟨h1,h2⟩,⟨⟨⟨h3,h4⟩,h5⟩,h6⟩,h7⟩:=h
  refine ⟨by omega,?_,?_,?_⟩
  · cases hk:shK a.kind with
    | true=>rw [hk] at h4; have:=rF (s:=a.key) (by simpa using h4); omega
    | false => rw [hk] at h3; have : a.key = [] := by simpa using h3
               simp [this]
  · cases hk:shH a.kind with
    | true=>rw [hk] at h6; have:=rF (s:=a.hi) (by simpa using h6); omega
    | false => rw [hk] at h5; have : a.hi = [] := by simpa using h5
               simp [this]
  · cases hk:shN a.kind with
    | true=>rw [hk] at h7; exact zI (by simpa using h7)
    | false => rw [hk] at h7; have : a.num = 0 := by simpa using h7
               omega
def qU:List Str:=[[],[103,101,116],[97,108,108],[115,117,109],[112,117,116],[97,100,100],[99,117,116],[98,101,103,105,110],[101,110,100],[117,110,100,111]]
def nC (k:Int):Str:=(qU[k.toNat]?).getD []
theorem aBi {k:Int} {x:Str} (h:qU[k.toNat]? = some x):nC k = x:=by unfold nC; rw [h]; rfl
theorem sH (k:Int):(nC k).length ≤ 5:=by
  unfold nC
  cases h:qU[k.toNat]? with
  | none=>simp
  | some x=>exact iV (l:=qU) (n:=5) (by decide) (List.mem_of_getElem? h)
def fO (a:Ask):Str:=if pL a then ((nC a.kind ++ (if shK a.kind then [32] ++ a.key else [])) ++ (if shH a.kind then [32] ++ a.hi else [])) ++ (if shN a.kind then [32] ++ dec a.num else []) else []
theorem dW (a:Ask):(fO a).length ≤ 40:=by
  unfold fO
  split
  · rename_i h
    have hb:=oI h
    have hw:=sH a.kind
    have hd:=kT (n:=a.num) (by omega)
    simp only [List.length_append]
    split <;> split <;> split <;> simp <;> omega
  · simp
def lC (w:Str) (n:Int) (k:Nat):Int:=if nC ((k:Int) + 1) = w then (k:Int) + 1 else n
def sV (w:Str):Int:=(List.range 9).foldl (lC w) 0
theorem aAc (w:Str) (l:List Nat):∀ n:Int,(0 ≤ n∧n ≤ 9) → (∀ k ∈ l,k < 9) → 0 ≤ l.foldl (lC w) n∧l.foldl (lC w) n ≤ 9:=by
  induction l with
  | nil=>intro n h _; exact h
  | cons k l ih =>
    intro n h hl
    rw [List.foldl_cons]
    refine ih _ ?_ (fun j hj=>hl j (List.mem_cons_of_mem _ hj))
    have:=hl k List.mem_cons_self
    unfold lC
    split <;> omega
theorem aBj (w:Str):0 ≤ sV w∧sV w ≤ 9:=aAc w _ 0 (by omega) (fun k hk=>List.mem_range.1 hk)
def atS (l:List Str) (k:Nat):Str:=(l[k]?).getD []
theorem rJ {l:List Str} {k:Nat} {x:Str} (h:l[k]? = some x):atS l k = x:=by unfold atS; rw [h]; rfl
def oH (w:List Str):Ask :=
  let k:=sV (atS w 0)
  ⟨k,if shK k && decide (1 < (w.length:Int)) then atS w 1 else [],if shH k && decide (2 < (w.length:Int)) then atS w 2 else [],if shN k && decide (2 < (w.length:Int)) then (jI (atS w 2)).1 else 0⟩
def cX (t:Str):Ask × Bool:=if decide (t = []) || !decide (fO (oH (pieces 32 t [])) = t) then (⟨0,[],[],0⟩,false) else (oH (pieces 32 t []),true)
theorem pT (c:UInt8) (s acc:Str):0 < (pieces c s acc).length:=by
  induction s generalizing acc with
  | nil=>simp [pieces]
  | cons x s ih=>unfold pieces; split; simp; exact ih _
set_option maxHeartbeats 1000000 in
theorem oW {w0:World} {h:Heap} {k:Int}   : HC (XM PP) w0 100 [vi k].toArray h (fun rv h'=>rv = .tuple #[vb (shK k),vb (shH k),vb (shN k)]∧h' = h):=by
 refine aV 15 [(0,vi k)] Tryz.func100 (fun r=>?_)
 refine hw_sr (aB aC<|aB aC<|aB aC<|aD ?_)
 refine aF (ah1 0) fun r=>?_
 refine aI ?_
 refine hw_sr (aB y_move<|aD ?_)
 refine aX ?_
 refine dH (fun (gu:Unit)=>[(5,vi k),(6,vb ((decide (k = 1)) || (decide (k = 6))))]) (fun (gu:Unit) (h' : Heap)=>h = h') ?_ ?_
 refine hw_sr (aB bM<|aB aC<|aD ?_)
 refine aZ (fun g6=>?_) (fun g6=>?_)
 refine aM ?_
 exact ⟨(),(aA (aA aJ (by simp only [aH,reduceIte,Nat.reduceEqDiff,reduceCtorEq,(dT g6),bb]))),(rfl)⟩
 refine aE (aB bM<|aB aC<|aD ?_)
 exact ⟨(),(aA (aA aJ (by simp only [aH,reduceIte,Nat.reduceEqDiff,reduceCtorEq,(dF g6),bb]))),(rfl)⟩
 rintro gu r _ rfl
 refine bF (fun g6=>?_) (fun g6=>?_)
 have g6':=g6
 simp at g6'
 refine hw_sr (aB aC<|aB aC<|aB aC<|aD ?_)
 refine hw_rr ?_
 refine aQ rfl (.cons aU (.cons aU (.cons aU .nil))) ?_
 exact ⟨by first | rfl | (simp_all [shK,shH,shN,oneOf] <;> intros <;> (repeat' split) <;> (try and_intros) <;> first | rfl | omega | (simp_all; done)),rfl⟩
 have g6':=g6
 simp at g6'
 refine dH (fun (gu:Unit)=>[(5,vi k),(9,vb ((decide (k = 2)) || (decide (k = 3))))]) (fun (gu:Unit) (h' : Heap)=>h = h') ?_ ?_
 refine hw_sr (aB bM<|aB aC<|aD ?_)
 refine aZ (fun g9=>?_) (fun g9=>?_)
 refine aM ?_
 exact ⟨(),(aA (aA aJ (by simp only [aH,reduceIte,Nat.reduceEqDiff,reduceCtorEq,(dT g9),bb]))),(rfl)⟩
 refine aE (aB bM<|aB aC<|aD ?_)
 exact ⟨(),(aA (aA aJ (by simp only [aH,reduceIte,Nat.reduceEqDiff,reduceCtorEq,(dF g9),bb]))),(rfl)⟩
 rintro gu r _ rfl
 refine bF (fun g9=>?_) (fun g9=>?_)
 have g9':=g9
 simp at g9'
 refine hw_sr (aB aC<|aB aC<|aB aC<|aD ?_)
 refine hw_rr ?_
 refine aQ rfl (.cons aU (.cons aU (.cons aU .nil))) ?_
 exact ⟨by first | rfl | (simp_all [shK,shH,shN,oneOf] <;> intros <;> (repeat' split) <;> (try and_intros) <;> first | rfl | omega | (simp_all; done)),rfl⟩
 have g9':=g9
 simp at g9'
 refine dH (fun (gu:Unit)=>[(12,vb ((decide (k = 4)) || (decide (k = 5))))]) (fun (gu:Unit) (h' : Heap)=>h = h') ?_ ?_
 refine hw_sr (aB bM<|aB aC<|aD ?_)
 refine aZ (fun g12=>?_) (fun g12=>?_)
 refine aM ?_
 exact ⟨(),(aA aJ (by simp only [aH,reduceIte,Nat.reduceEqDiff,reduceCtorEq,(dT g12),bb])),(rfl)⟩
 refine aE (aB bM<|aB aC<|aD ?_)
 exact ⟨(),(aA aJ (by simp only [aH,reduceIte,Nat.reduceEqDiff,reduceCtorEq,(dF g12),bb])),(rfl)⟩
 rintro gu r _ rfl
 refine bF (fun g12=>?_) (fun g12=>?_)
 have g12':=g12
 simp at g12'
 refine hw_sr (aB aC<|aB aC<|aB aC<|aD ?_)
 refine hw_rr ?_
 refine aQ rfl (.cons aU (.cons aU (.cons aU .nil))) ?_
 exact ⟨by first | rfl | (simp_all [shK,shH,shN,oneOf] <;> intros <;> (repeat' split) <;> (try and_intros) <;> first | rfl | omega | (simp_all; done)),rfl⟩
 have g12':=g12
 simp at g12'
 refine aM ?_
 refine hw_sr (aB aC<|aB aC<|aB aC<|aD ?_)
 refine hw_rr ?_
 refine aQ rfl (.cons aU (.cons aU (.cons aU .nil))) ?_
 exact ⟨by first | rfl | (simp_all [shK,shH,shN,oneOf] <;> intros <;> (repeat' split) <;> (try and_intros) <;> first | rfl | omega | (simp_all; done)),rfl⟩
set_option maxHeartbeats 1000000 in
theorem aBU {w0:World} {h:Heap} {O:Nat → Prop} {a:Ask}  (OB0:OB h O) (s0:SB a.key:=by first | assumption | omega | (simp; done) | (simp; omega)) (s1:SB a.hi:=by first | assumption | omega | (simp; done) | (simp; omega)):HC (XM PP) w0 99 [.agg #[vi a.kind,vs a.key,vs a.hi,vi a.num]].toArray h (fun rv h'=>rv = vb (pL a)∧Le h h'):=by
 have le:=Le.refl h
 have OBe:=OB0
 refine aV 66 [(0,.agg #[vi a.kind,vs a.key,vs a.hi,vi a.num])] Tryz.func99 (fun r=>?_)
 refine hw_sr (bE cW (fun v1 h1 q1=>?_))
 obtain ⟨b1,O1,rfl,eb1,sb1,lb1,B1,hO1⟩:=q1.ox O
 refine aB aC<|aD ?_
 refine aI ?_
 refine hw_sr (aB y_fieldAddr<|aB (y_load (Blk.at B1 rfl rfl))<|aB dB<|aB y_move<|?_)
 refine bB 4 [(1,.pointer (some ⟨b1,0,none⟩)),(13,vb ((decide (a.kind < 1)) || (decide ((9:Int) < a.kind))))] (fun r=>?_) (fun jn=>?_)
 refine aD ?_
 refine bF (fun g13=>?_) (fun g13=>?_)
 have g13':=g13
 simp at g13'
 refine hw_sr (aB aC<|aD ?_)
 refine hw_rr ?_
 refine aQ rfl (.cons aU .nil) ?_
 replace le:=le.t lb1
 exact ⟨by first | rfl | (unfold pL; rw [g13]; rfl),le⟩
 have g13':=g13
 simp at g13'
 refine aM ?_
 refine hw_sr (aB y_fieldAddr<|aB (y_load (Blk.at B1 rfl rfl))<|?_)
 refine dY aG oW<|aB y_move<|aB aL<|aB aL<|aB aL<|aB aC<|aB aC<|aB aC<|aD ?_
 refine aF (ah4 1 3 4 5) fun r=>?_
 refine aI ?_
 refine hw_sr (aB y_move<|aB y_fieldAddr<|aB (y_load (Blk.at B1 rfl rfl))<|aB jO<|aB aCD<|aB y_move<|?_)
 refine bB 8 [(1,.pointer (some ⟨b1,0,none⟩)),(4,vb (shH a.kind)),(5,vb (shN a.kind)),(34,vb ((!(shK a.kind == (!decide (a.key = [])))) || (shK a.kind && (!fD a.key))))] (fun r=>?_) (fun jn=>?_)
 refine aB y_move<|?_
 refine bB 6 [(1,.pointer (some ⟨b1,0,none⟩)),(4,vb (shH a.kind)),(5,vb (shN a.kind)),(41,vb (((!(shK a.kind == (!decide (a.key = [])))) || (shK a.kind && (!fD a.key))) || (!(shH a.kind == (!decide (a.hi = []))))))] (fun r=>?_) (fun jn=>?_)
 refine aB y_move<|?_
 refine bB 8 [(1,.pointer (some ⟨b1,0,none⟩)),(5,vb (shN a.kind)),(50,vb ((((!(shK a.kind == (!decide (a.key = [])))) || (shK a.kind && (!fD a.key))) || (!(shH a.kind == (!decide (a.hi = []))))) || (shH a.kind && (!fD a.hi))))] (fun r=>?_) (fun jn=>?_)
 refine aD ?_
 refine bF (fun g50=>?_) (fun g50=>?_)
 have g50':=g50
 simp at g50'
 refine hw_sr (aB aC<|aD ?_)
 refine hw_rr ?_
 refine aQ rfl (.cons aU .nil) ?_
 replace le:=le.t lb1
 exact ⟨by first | rfl | (unfold pL; rw [g13,g50]; rfl),le⟩
 have g50':=g50
 simp at g50'
 refine aM ?_
 refine hw_sr (aB y_move<|aB y_move<|?_)
 refine bB 4 [(1,.pointer (some ⟨b1,0,none⟩)),(5,vb (shN a.kind)),(56,vb (shN a.kind && gC a.num))] (fun r=>?_) (fun jn=>?_)
 refine aB y_move<|?_
 refine bB 8 [(65,vb ((shN a.kind && gC a.num) || ((!shN a.kind) && (decide (a.num = 0)))))] (fun r=>?_) (fun jn=>?_)
 refine aB aC<|aD ?_
 refine hw_rr ?_
 refine aQ rfl (.cons aU .nil) ?_
 replace le:=le.t lb1
 exact ⟨by first | rfl | (unfold pL; rw [g13,g50]; rfl),le⟩
 refine eT (b:=(shN a.kind && gC a.num)) (fun g57=>?_) (fun g57=>?_)
 have g57':=g57
 simp at g57'
 refine aN (neT g57)<|aN (neT g57)<|aN (neT g57)<|bZ<|bZ<|bZ<|aN (neT g57)<|aB (y_pickT g57)<|?_
 exact jn _ (aA aJ (by simp only [aH,reduceIte,Nat.reduceEqDiff,reduceCtorEq,g57,bb]))
 have g57':=g57
 simp at g57'
 refine aO g57 y_move<|aO g57 dG<|aO g57 y_move<|?_
 refine eT (b:=shN a.kind) (fun g60=>?_) (fun g60=>?_)
 refine aN (neF (nT g60))<|aN (neF (nT g60))<|aN (neF (nT g60))<|aO g57 (aR (nT g60))<|aB (aR g57)<|?_
 exact jn _ (aA aJ (by first | (simp only [aH,reduceIte,Nat.reduceEqDiff,reduceCtorEq,(nT g60),g57,bb]; done) | (simp only [aH,reduceIte,Nat.reduceEqDiff,reduceCtorEq]; try simp only [g57,bb]; try simp only [(nT g60),bb])))
 refine aO (nF g60) y_fieldAddr<|aO (nF g60) (y_load (Blk.at B1 rfl rfl))<|aO (nF g60) bM<|aO g57 (y_pickT (nF g60))<|aB (aR g57)<|?_
 exact jn _ (aA aJ (by first | (simp only [aH,reduceIte,Nat.reduceEqDiff,reduceCtorEq,(nF g60),g57,bb]; done) | (simp only [aH,reduceIte,Nat.reduceEqDiff,reduceCtorEq]; try simp only [g57,bb]; try simp only [(nF g60),bb])))
 refine eT (b:=shN a.kind) (fun g52=>?_) (fun g52=>?_)
 refine aO g52 y_fieldAddr<|aO g52 (y_load (Blk.at B1 rfl rfl))<|?_
 refine gH g52 aG qL<|aB (y_pickT g52)<|?_
 exact jn _ (aA (aA (aA aJ (by simp only [aH,reduceIte,Nat.reduceEqDiff,reduceCtorEq,g52,bb]))))
 refine aN (neF g52)<|aN (neF g52)<|aN (neF g52)<|aB (aR g52)<|?_
 exact jn _ (aA (aA (aA aJ (by simp only [aH,reduceIte,Nat.reduceEqDiff,reduceCtorEq,g52,bb]))))
 refine eT (b:=(((!(shK a.kind == (!decide (a.key = [])))) || (shK a.kind && (!fD a.key))) || (!(shH a.kind == (!decide (a.hi = [])))))) (fun g42=>?_) (fun g42=>?_)
 have g42':=g42
 simp at g42'
 refine aN (neT g42)<|aN (neT g42)<|bZ<|bZ<|bZ<|bZ<|aN (neT g42)<|aB (y_pickT g42)<|?_
 exact jn _ (aA (aA (aA aJ (by simp only [aH,reduceIte,Nat.reduceEqDiff,reduceCtorEq,g42,bb]))))
 have g42':=g42
 simp at g42'
 refine aO g42 y_move<|aO g42 y_move<|?_
 refine eT (b:=shH a.kind) (fun g44=>?_) (fun g44=>?_)
 refine aO g44 y_fieldAddr<|aO g44 (y_load (Blk.at B1 rfl rfl))<|?_
 refine gH g44 aG pA<|aO g44 dG<|aO g42 (y_pickT g44)<|aB (aR g42)<|?_
 exact jn _ (aA (aA (aA aJ (by first | (simp only [aH,reduceIte,Nat.reduceEqDiff,reduceCtorEq,g42,g44,bb]; done) | (simp only [aH,reduceIte,Nat.reduceEqDiff,reduceCtorEq]; try simp only [g42,bb]; try simp only [g44,bb])))))
 refine aN (neF g44)<|aN (neF g44)<|aN (neF g44)<|aN (neF g44)<|aO g42 (aR g44)<|aB (aR g42)<|?_
 exact jn _ (aA (aA (aA aJ (by first | (simp only [aH,reduceIte,Nat.reduceEqDiff,reduceCtorEq,g42,g44,bb]; done) | (simp only [aH,reduceIte,Nat.reduceEqDiff,reduceCtorEq]; try simp only [g42,bb]; try simp only [g44,bb])))))
 refine eT (b:=((!(shK a.kind == (!decide (a.key = [])))) || (shK a.kind && (!fD a.key)))) (fun g35=>?_) (fun g35=>?_)
 have g35':=g35
 simp at g35'
 refine aN (neT g35)<|aN (neT g35)<|aN (neT g35)<|aN (neT g35)<|aN (neT g35)<|aB (y_pickT g35)<|?_
 exact jn _ (aA (aA (aA (aA aJ (by simp only [aH,reduceIte,Nat.reduceEqDiff,reduceCtorEq,g35,bb])))))
 have g35':=g35
 simp at g35'
 refine aO g35 y_move<|aO g35 y_fieldAddr<|aO g35 (y_load (Blk.at B1 rfl rfl))<|aO g35 jO<|aO g35 aCD<|aB (aR g35)<|?_
 exact jn _ (aA (aA (aA (aA aJ (by simp only [aH,reduceIte,Nat.reduceEqDiff,reduceCtorEq,g35,bb])))))
 refine eT (b:=(shK a.kind == (!decide (a.key = [])))) (fun g26=>?_) (fun g26=>?_)
 refine aO (nT g26) y_move<|aO (nT g26) y_move<|?_
 refine eT (b:=shK a.kind) (fun g28=>?_) (fun g28=>?_)
 refine aO g28 y_fieldAddr<|aO g28 (y_load (Blk.at B1 rfl rfl))<|?_
 refine gH g28 aG pA<|aO g28 dG<|aO (nT g26) (y_pickT g28)<|aB (aR (nT g26))<|?_
 exact jn _ (aA (aA (aA (aA aJ (by first | (simp only [aH,reduceIte,Nat.reduceEqDiff,reduceCtorEq,(nT g26),g28,bb]; done) | (simp only [aH,reduceIte,Nat.reduceEqDiff,reduceCtorEq]; try simp only [(nT g26),bb]; try simp only [g28,bb]))))))
 refine aN (neF g28)<|aN (neF g28)<|aN (neF g28)<|aN (neF g28)<|aO (nT g26) (aR g28)<|aB (aR (nT g26))<|?_
 exact jn _ (aA (aA (aA (aA aJ (by first | (simp only [aH,reduceIte,Nat.reduceEqDiff,reduceCtorEq,(nT g26),g28,bb]; done) | (simp only [aH,reduceIte,Nat.reduceEqDiff,reduceCtorEq]; try simp only [(nT g26),bb]; try simp only [g28,bb]))))))
 refine aN (neT (nF g26))<|aN (neT (nF g26))<|bZ<|bZ<|bZ<|bZ<|aN (neT (nF g26))<|aB (y_pickT (nF g26))<|?_
 exact jn _ (aA (aA (aA (aA aJ (by simp only [aH,reduceIte,Nat.reduceEqDiff,reduceCtorEq,(nF g26),bb])))))
 refine dA (a.kind < 1) (fun g9=>?_) (fun g9=>?_)
 refine aN (neT (dT g9))<|aN (neT (dT g9))<|aN (neT (dT g9))<|aB (y_pickT (dT g9))<|?_
 exact jn _ (aA (aA aJ (by simp only [aH,reduceIte,Nat.reduceEqDiff,reduceCtorEq,(dT g9),bb])))
 refine aO (dF g9) y_fieldAddr<|aO (dF g9) (y_load (Blk.at B1 rfl rfl))<|aO (dF g9) cU<|aB (aR (dF g9))<|?_
 exact jn _ (aA (aA aJ (by simp only [aH,reduceIte,Nat.reduceEqDiff,reduceCtorEq,(dF g9),bb])))
set_option maxHeartbeats 1000000 in
theorem zT {w0:World} {h:Heap} {O:Nat → Prop} {k:Int}  (OB0:OB h O)  (h0:0 ≤ k∧k ≤ 9:=by first | assumption | omega):HC (XM PP) w0 101 [vi k].toArray h (fun rv h'=>rv = vs (nC k)∧Le h h'):=by
 have le:=Le.refl h
 have OBe:=OB0
 refine aV 7 [(0,vi k)] Tryz.func101 (fun r=>?_)
 refine hw_sr (aB aC<|aD ?_)
 refine hw_sr (bE (bA (l:=([[],[103,101,116],[97,108,108],[115,117,109],[112,117,116],[97,100,100],[99,117,116],[98,101,103,105,110],[101,110,100],[117,110,100,111]]:List Str))) (fun v1 h1 q1=>?_))
 obtain ⟨lb1,ow1,sb1⟩:=q1
 have z1:=lb1.1
 have k1:Rs _ O _ _:=Ow.end ⟨ow1,⟨by simp,by simp [Ok.ok]⟩⟩ OB0
 obtain ⟨A2,n2,c2,rfl⟩:=k1.frm
 refine aB y_move<|?_
 obtain ⟨x1,hx1⟩:∃ x,(([[],[103,101,116],[97,108,108],[115,117,109],[112,117,116],[97,100,100],[99,117,116],[98,101,103,105,110],[101,110,100],[117,110,100,111]]:List Str))[(k).toNat]? = some x:=⟨_,List.getElem?_eq_getElem (by simp; omega)⟩
 have sx1:SB x1:=k1.2.at hx1
 refine aB (gR k1.1 (hi:=by simp; omega))<|aB (y_load (RdF.cell1 k1.1 hx1 rfl))<|aB aC<|aD ?_
 refine aF (ah1 2) fun r=>?_
 refine hw_rr ?_
 refine aQ rfl (.cons aU .nil) ?_
 replace le:=le.t lb1
 exact ⟨by first | rfl | (rw [aBi hx1]; rfl),le⟩
set_option maxHeartbeats 1000000 in
theorem xF {w0:World} {h:Heap} {O:Nat → Prop} {a:Ask}  (OB0:OB h O) (s0:SB a.key:=by first | assumption | omega | (simp; done) | (simp; omega)) (s1:SB a.hi:=by first | assumption | omega | (simp; done) | (simp; omega)):HC (XM PP) w0 76 [.agg #[vi a.kind,vs a.key,vs a.hi,vi a.num]].toArray h (fun rv h'=>rv = vs (fO a)∧Le h h'):=by
 have le:=Le.refl h
 have OBe:=OB0
 refine aV 40 [(0,.agg #[vi a.kind,vs a.key,vs a.hi,vi a.num])] Tryz.func76 (fun r=>?_)
 refine hw_sr (bE cW (fun v1 h1 q1=>?_))
 obtain ⟨b1,O1,rfl,eb1,sb1,lb1,B1,hO1⟩:=q1.ox O
 refine aB aC<|aD ?_
 refine aI ?_
 refine hw_sr (aB (y_loadB B1 0 _)<|?_)
 replace OB0:=OB0.newB sb1 hO1 eb1
 refine bL aG (aBU (a:=a) OB0) (fun v2 h2 q2=>?_)
 obtain ⟨rfl,lc2⟩:=q2
 have z2:=lc2.1
 refine aB dG<|aD ?_
 refine dS (fun g9=>?_) (fun g9=>?_)
 refine hw_sr (aB aC<|aD ?_)
 refine hw_rr ?_
 refine aQ rfl (.cons aU .nil) ?_
 replace le:=(le.t lb1).t lc2
 exact ⟨by first | rfl | (simp_all [oneOf,fO] <;> intros <;> (repeat' split) <;> (try and_intros) <;> first | rfl | omega | (simp_all; done)),le⟩
 have hb:=oI (a:=a) (by simp_all)
 have hw:=sH a.kind
 have hd:=kT (n:=a.num) (by omega)
 refine aM ?_
 refine aI ?_
 replace B1:=B1.le lc2
 refine aE (aB y_fieldAddr<|aB (y_load (Blk.at B1 rfl rfl))<|?_)
 refine dY aG oW<|aB y_move<|aB aL<|aB aL<|aB aL<|aB aC<|aB aC<|aB aC<|aD ?_
 refine aF (ah4 1 3 4 5) fun r=>?_
 refine hw_sr (aB y_fieldAddr<|aB (y_load (Blk.at B1 rfl rfl))<|?_)
 replace OB0:=OB0.leO lc2.1
 refine bL aG (zT OB0) (fun v3 h3 q3=>?_)
 obtain ⟨rfl,lc3⟩:=q3
 have z3:=lc3.1
 refine aB aC<|aD ?_
 refine aF (ah5 1 3 4 5 6) fun r=>?_
 refine aI ?_
 refine hw_sr (aB y_move<|aD ?_)
 refine bF (fun g20=>?_) (fun g20=>?_)
 replace B1:=B1.le lc3
 refine aE (aB y_move<|aB dX<|aB y_fieldAddr<|aB (y_load (Blk.at B1 rfl rfl))<|?_)
 refine aB dX<|aB aC<|aD ?_
 refine aF (ah4 1 4 5 6) fun r=>?_
 refine aI ?_
 refine hw_sr (aB y_move<|aD ?_)
 refine bF (fun g26=>?_) (fun g26=>?_)
 refine aE (aB y_move<|aB dX<|aB y_fieldAddr<|aB (y_load (Blk.at B1 rfl rfl))<|?_)
 refine aB dX<|aB aC<|aD ?_
 refine aF (ah3 1 5 6) fun r=>?_
 refine aI ?_
 refine hw_sr (aB y_move<|aD ?_)
 refine bF (fun g32=>?_) (fun g32=>?_)
 refine aE (aB y_move<|aB dX<|aB y_fieldAddr<|aB (y_load (Blk.at B1 rfl rfl))<|?_)
 replace OB0:=OB0.leO lc3.1
 refine bL aG (lB OB0) (fun v4 h4 q4=>?_)
 obtain ⟨rfl,lc4⟩:=q4
 have z4:=lc4.1
 refine aB dX<|aB aC<|aD ?_
 refine aF (ah1 6) fun r=>?_
 refine hw_sr (aB y_move<|aB aC<|aD ?_)
 refine hw_rr ?_
 refine aQ rfl (.cons aU .nil) ?_
 replace le:=(((le.t lb1).t lc2).t lc3).t lc4
 exact ⟨by first | rfl | (simp_all [oneOf,fO] <;> intros <;> (repeat' split) <;> (try and_intros) <;> first | rfl | omega | (simp_all; done)),le⟩
 refine aM ?_
 refine hw_sr (aB y_move<|aB aC<|aD ?_)
 refine hw_rr ?_
 refine aQ rfl (.cons aU .nil) ?_
 replace le:=((le.t lb1).t lc2).t lc3
 exact ⟨by first | rfl | (simp_all [oneOf,fO] <;> intros <;> (repeat' split) <;> (try and_intros) <;> first | rfl | omega | (simp_all; done)),le⟩
 refine aM ?_
 refine aI ?_
 refine hw_sr (aB y_move<|aD ?_)
 refine bF (fun g32=>?_) (fun g32=>?_)
 refine aE (aB y_move<|aB dX<|aB y_fieldAddr<|aB (y_load (Blk.at B1 rfl rfl))<|?_)
 replace OB0:=OB0.leO lc3.1
 refine bL aG (lB OB0) (fun v5 h5 q5=>?_)
 obtain ⟨rfl,lc5⟩:=q5
 have z5:=lc5.1
 refine aB dX<|aB aC<|aD ?_
 refine aF (ah1 6) fun r=>?_
 refine hw_sr (aB y_move<|aB aC<|aD ?_)
 refine hw_rr ?_
 refine aQ rfl (.cons aU .nil) ?_
 replace le:=(((le.t lb1).t lc2).t lc3).t lc5
 exact ⟨by first | rfl | (simp_all [oneOf,fO] <;> intros <;> (repeat' split) <;> (try and_intros) <;> first | rfl | omega | (simp_all; done)),le⟩
 refine aM ?_
 refine hw_sr (aB y_move<|aB aC<|aD ?_)
 refine hw_rr ?_
 refine aQ rfl (.cons aU .nil) ?_
 replace le:=((le.t lb1).t lc2).t lc3
 exact ⟨by first | rfl | (simp_all [oneOf,fO] <;> intros <;> (repeat' split) <;> (try and_intros) <;> first | rfl | omega | (simp_all; done)),le⟩
 refine aM ?_
 refine aI ?_
 refine hw_sr (aB y_move<|aD ?_)
 refine bF (fun g26=>?_) (fun g26=>?_)
 replace B1:=B1.le lc3
 refine aE (aB y_move<|aB dX<|aB y_fieldAddr<|aB (y_load (Blk.at B1 rfl rfl))<|?_)
 refine aB dX<|aB aC<|aD ?_
 refine aF (ah3 1 5 6) fun r=>?_
 refine aI ?_
 refine hw_sr (aB y_move<|aD ?_)
 refine bF (fun g32=>?_) (fun g32=>?_)
 refine aE (aB y_move<|aB dX<|aB y_fieldAddr<|aB (y_load (Blk.at B1 rfl rfl))<|?_)
 replace OB0:=OB0.leO lc3.1
 refine bL aG (lB OB0) (fun v6 h6 q6=>?_)
 obtain ⟨rfl,lc6⟩:=q6
 have z6:=lc6.1
 refine aB dX<|aB aC<|aD ?_
 refine aF (ah1 6) fun r=>?_
 refine hw_sr (aB y_move<|aB aC<|aD ?_)
 refine hw_rr ?_
 refine aQ rfl (.cons aU .nil) ?_
 replace le:=(((le.t lb1).t lc2).t lc3).t lc6
 exact ⟨by first | rfl | (simp_all [oneOf,fO] <;> intros <;> (repeat' split) <;> (try and_intros) <;> first | rfl | omega | (simp_all; done)),le⟩
 refine aM ?_
 refine hw_sr (aB y_move<|aB aC<|aD ?_)
 refine hw_rr ?_
 refine aQ rfl (.cons aU .nil) ?_
 replace le:=((le.t lb1).t lc2).t lc3
 exact ⟨by first | rfl | (simp_all [oneOf,fO] <;> intros <;> (repeat' split) <;> (try and_intros) <;> first | rfl | omega | (simp_all; done)),le⟩
 refine aM ?_
 refine aI ?_
 refine hw_sr (aB y_move<|aD ?_)
 refine bF (fun g32=>?_) (fun g32=>?_)
 replace B1:=B1.le lc3
 refine aE (aB y_move<|aB dX<|aB y_fieldAddr<|aB (y_load (Blk.at B1 rfl rfl))<|?_)
 replace OB0:=OB0.leO lc3.1
 refine bL aG (lB OB0) (fun v7 h7 q7=>?_)
 obtain ⟨rfl,lc7⟩:=q7
 have z7:=lc7.1
 refine aB dX<|aB aC<|aD ?_
 refine aF (ah1 6) fun r=>?_
 refine hw_sr (aB y_move<|aB aC<|aD ?_)
 refine hw_rr ?_
 refine aQ rfl (.cons aU .nil) ?_
 replace le:=(((le.t lb1).t lc2).t lc3).t lc7
 exact ⟨by first | rfl | (simp_all [oneOf,fO] <;> intros <;> (repeat' split) <;> (try and_intros) <;> first | rfl | omega | (simp_all; done)),le⟩
 refine aM ?_
 refine hw_sr (aB y_move<|aB aC<|aD ?_)
 refine hw_rr ?_
 refine aQ rfl (.cons aU .nil) ?_
 replace le:=((le.t lb1).t lc2).t lc3
 exact ⟨by first | rfl | (simp_all [oneOf,fO] <;> intros <;> (repeat' split) <;> (try and_intros) <;> first | rfl | omega | (simp_all; done)),le⟩
set_option maxHeartbeats 1000000 in
theorem xG {w0:World} {h:Heap} {O:Nat → Prop} {t:Str}  (OB0:OB h O) (s0:SB t:=by first | assumption | omega | (simp; done) | (simp; omega)) (hl:t.length ≤ 1000000:=by first | omega | (simp; omega)):HC (XM PP) w0 93 [vs t].toArray h (fun rv h'=>rv = .tuple #[.agg #[vi (((cX t).1).kind),vs (((cX t).1).key),vs (((cX t).1).hi),vi (((cX t).1).num)],vb ((cX t).2)]∧Le h h'):=by
 have le:=Le.refl h
 have OBe:=OB0
 have hp:=pT 32 t []
 refine aV 76 [(0,vs t)] Tryz.func93 (fun r=>?_)
 refine hw_sr (bE aY (fun v1 h1 q1=>?_))
 obtain ⟨b1,O1,rfl,eb1,sb1,lb1,B1,hO1⟩:=q1.ox O
 refine aB aC<|aD ?_
 refine hw_sr (aB y_move<|?_)
 replace OB0:=OB0.newB sb1 hO1 eb1
 refine bL aG (aAb (c:=32) OB0) (fun v2 h2 q2=>?_)
 obtain ⟨lc2,k2_1⟩:=q2
 have z2:=lc2.1
 obtain ⟨A3,n3,c3,rfl⟩:=k2_1.frm
 refine aB aC<|aD ?_
 refine hw_sr (aB (y_build rfl rfl)<|bE aY (fun v4 h4 q4=>?_))
 obtain ⟨b4,O4,rfl,eb4,sb4,lb4,B4,hO4⟩:=q4.ox O1
 refine bO (aK aP B4) (fun v5 h5 q5=>?_)
 obtain ⟨rfl,q5⟩:=q5
 have z5:=q5.1
 have B4:=q5.2.2
 refine aD ?_
 refine aI ?_
 refine hw_sr (aB aC<|aD ?_)
 replace le:=(((le.t lb1).t lc2).t lb4).s q5
 replace B1:=((B1.le lc2).le lb4).s q5
 replace OB0:=((OB0.leO lc2.1).newB sb4 hO4 eb4).leO (Nat.le_of_eq q5.1.symm)
 refine cT (fun (gx:Int × Int × (Nat → Prop))=>match gx with | (k,n,OL6)=>[(0,vs t),(2,.pointer (some ⟨b1,0,none⟩)),(4,(.slice A3 n3 c3)),(5,.pointer (some ⟨b4,0,none⟩)),(6,vi k)]) (fun (gx:Int × Int × (Nat → Prop)) (h' : Heap)=>match gx with | (k,n,OL6)=>Le h h' ∧ Mod O4 h5 h' ∧ (∀ x,OL6 x → O4 x ∨ h5.size ≤ x)∧(∀ x,O4 x → OL6 x)∧OB h' OL6∧Blk h' b1 [vi 0,vs [],vs [],vi 0] 118∧OL6 b1∧Blk h' b4 [vi n,vs [],vs [],vi 0] 118∧OL6 b4∧n = sV (atS (pieces 32 t []) 0)) (aX (cK (fun (gx:Int × Int × (Nat → Prop))=>match gx with | (k,n,OL6)=>[(0,vs t),(2,.pointer (some ⟨b1,0,none⟩)),(4,(.slice A3 n3 c3)),(5,.pointer (some ⟨b4,0,none⟩)),(6,vi k)]) (fun (gx:Int × Int × (Nat → Prop)) (h' : Heap)=>match gx with | (k,n,OL6)=>Le h h' ∧ Mod O4 h5 h' ∧ (∀ x,OL6 x → O4 x ∨ h5.size ≤ x)∧(∀ x,O4 x → OL6 x)∧OB h' OL6∧Blk h' b1 [vi 0,vs [],vs [],vi 0] 118∧OL6 b1∧Blk h' b4 [vi n,vs [],vs [],vi 0] 118∧OL6 b4∧1 ≤ k∧k ≤ 10∧n = (List.range (k - 1).toNat).foldl (lC (atS (pieces 32 t []) 0)) 0) (fun (gx:Int × Int × (Nat → Prop))=>match gx with | (k,n,OL6)=>(10 - k).toNat) (1,0,O4) ag5 ⟨le,Mod.refl _,fun x hx=>.inl hx,fun x hx=>hx,OB0,B1,(il hO4 (ir hO1)),B4,(ir hO4),by exact ⟨by omega,by omega,rfl⟩⟩ ?_)) ?_
 rintro ⟨k,n,OL6⟩ r hl6 ⟨le,lp6,la6,lb6,lo6,B1,mB1,B4,mB4,e1,e2,e3⟩
 have zl6:=lp6.1
 have hr:(k + 1 - 1).toNat = (k - 1).toNat + 1:=by omega
 have hk2:(((k - 1).toNat:Int) + 1) = k:=by omega
 have lr6:=lp6
 have lx6:=la6
 refine aI ?_
 refine hw_sr (aB y_move<|aB y_leq<|aD ?_)
 refine aZ (fun g14=>?_) (fun g14=>?_)
 refine aM ?_
 refine aI ?_
 refine aX ?_
 refine aI ?_
 have OB0:=lo6
 replace k2_1:=((k2_1.nb lb4 hO4 eb4).st q5 (ir hO4)).lp lp6 la6
 have Rk2_1:=k2_1
 obtain ⟨S7,hS7⟩:=mkO (fun b=>hl6.size ≤ b)
 have mR7:Mod S7 hl6 hl6:=Mod.refl _
 have hd7:∀ b,b < hl6.size∧¬ OL6 b → ¬ S7 b:=fun b hb hs=>(fun hs=>absurd hb.1 (Nat.not_lt.2 hs)) ((hS7 b).1 hs)
 refine bH 6 S7 bC (ha2_p 0 rfl (fun _=>y_move)<|ha2_p 2 rfl (fun _=>y_move)<|?_)
 obtain ⟨x1,hx1⟩:∃ x,(pieces 32 t [])[0]? = some x:=⟨_,List.getElem?_eq_getElem (by omega)⟩
 have sx1:SB x1:=k2_1.2.at hx1
 refine ha2_y 3 rfl (fun _ _=>(y_idxA (i:=0) k2_1.1))<|ha2_y 4 rfl (fun _ mm=>(y_load (RdF.cell1 (RdF.mod Rk2_1.1 (mR7.trans mm) hd7) hx1 rfl)))<|?_
 refine aW 1 (cC rfl aG (zT OB0) (fun v8 h8 q8=>?_))
 obtain ⟨rfl,lc8⟩:=q8
 have z8:=lc8.1
 refine ⟨Le.mod lc8,?_⟩
 refine ha2_p 5 rfl (fun _=>y_seql)<|cN ?_
 refine aF (ah6 0 2 4 5 6 22) fun r=>?_
 refine aZ (fun g22=>?_) (fun g22=>?_)
 replace B4:=B4.le lc8
 refine aE (aB y_move<|aB y_fieldAddr<|bO (aK aP B4) (fun v9 h9 q9=>?_))
 obtain ⟨rfl,q9⟩:=q9
 have z9:=q9.1
 have B4:=q9.2.2
 refine aD ?_
 refine aE (aB y_move<|aB bI<|aB aC<|aD ?_)
 replace B1:=(B1.le lc8).s q9
 replace le:=(le.t lc8).s q9
 replace lr6:=(lr6.tl lc8).stO q9 (ir hO4)
 replace OB0:=OB0.leO (h':=h9) (by omega)
 exact ⟨((k + 1),k,OL6),ag5,⟨le,lr6,lx6,fun x hx=>(lb6 _ hx),OB0,B1,mB1,B4,mB4,by exact ⟨by omega,by omega,by rw [hr,List.range_succ,List.foldl_append,← e3,List.foldl_cons,List.foldl_nil,lC,hk2,rJ hx1,if_pos g22]⟩⟩,by first | omega | (dsimp only; omega)⟩
 refine aM ?_
 refine aE (aB y_move<|aB bI<|aB aC<|aD ?_)
 replace B1:=B1.le lc8
 replace B4:=B4.le lc8
 replace le:=le.t lc8
 replace lr6:=lr6.tl lc8
 replace OB0:=OB0.leO lc8.1
 exact ⟨((k + 1),n,OL6),ag5,⟨le,lr6,lx6,fun x hx=>(lb6 _ hx),OB0,B1,mB1,B4,mB4,by exact ⟨by omega,by omega,by rw [hr,List.range_succ,List.foldl_append,← e3,List.foldl_cons,List.foldl_nil,lC,hk2,rJ hx1,if_neg g22]⟩⟩,by first | omega | (dsimp only; omega)⟩
 refine cI ?_
 have OB0:=lo6
 exact ⟨(k,n,OL6),ag5,⟨le,lr6,lx6,fun x hx=>(lb6 _ hx),OB0,B1,mB1,B4,mB4,by rw [e3,show (k - 1).toNat = 9 by omega]; rfl⟩⟩
 rintro ⟨k,n,OL6⟩ r hl6 ⟨le,lp6,la6,lb6,lo6,B1,mB1,B4,mB4,en⟩
 have zl6:=lp6.1
 have hn:=aBj (atS (pieces 32 t []) 0)
 rw [← en] at hn
 refine hw_sr (aB y_fieldAddr<|aB (y_load (Blk.at B4 rfl rfl))<|?_)
 refine dY aG oW<|aB y_move<|aB aL<|aB aL<|aB aL<|aB aC<|aB aC<|aB aC<|aD ?_
 refine aF (ah7 0 2 4 5 7 8 9) fun r=>?_
 have OB0:=lo6
 refine dH (fun (gx:Str × (Nat → Prop))=>match gx with | (kk,OL10)=>[(0,vs t),(2,.pointer (some ⟨b1,0,none⟩)),(4,(.slice A3 n3 c3)),(5,.pointer (some ⟨b4,0,none⟩)),(8,vb (shH n)),(9,vb (shN n))]) (fun (gx:Str × (Nat → Prop)) (h' : Heap)=>match gx with | (kk,OL10)=>Le h h' ∧ Mod OL6 hl6 h' ∧ (∀ x,OL10 x → OL6 x ∨ hl6.size ≤ x)∧(∀ x,OL6 x → OL10 x)∧OB h' OL10∧Blk h' b1 [vi 0,vs [],vs [],vi 0] 118∧OL10 b1∧Blk h' b4 [vi n,vs kk,vs [],vi 0] 118∧OL10 b4∧kk = (if shK n && decide (1 < ((pieces 32 t []).length:Int)) then atS (pieces 32 t []) 1 else [])∧SB kk) ?_ ?_
 have lr10:=Mod.refl (S:=OL6) hl6
 have lx10:∀ x,OL6 x → OL6 x ∨ hl6.size ≤ x:=fun x hx=>.inl hx
 refine hw_sr (aB y_move<|aB y_move<|?_)
 refine bB 4 [(0,vs t),(2,.pointer (some ⟨b1,0,none⟩)),(4,(.slice A3 n3 c3)),(5,.pointer (some ⟨b4,0,none⟩)),(8,vb (shH n)),(9,vb (shN n)),(37,vb (shK n && (decide ((1:Int) < ((pieces 32 t []).length:Int)))))] (fun r=>?_) (fun jn=>?_)
 refine aD ?_
 refine bF (fun g37=>?_) (fun g37=>?_)
 have g37':=g37
 simp at g37'
 refine aE (aB y_move<|?_)
 obtain ⟨x2,hx2⟩:∃ x,(pieces 32 t [])[1]? = some x:=⟨_,List.getElem?_eq_getElem (by omega)⟩
 have sx2:SB x2:=k2_1.2.at hx2
 refine aB (y_idxA (i:=1) k2_1.1)<|?_
 replace k2_1:=((k2_1.nb lb4 hO4 eb4).st q5 (ir hO4)).lp lp6 la6
 refine aB (y_load (RdF.cell1 k2_1.1 hx2 rfl))<|aB y_fieldAddr<|?_
 refine bO (aK aP B4) (fun v11 h11 q11=>?_)
 obtain ⟨rfl,q11⟩:=q11
 have z11:=q11.1
 have B4:=q11.2.2
 refine aD ?_
 replace B1:=B1.s q11
 replace le:=le.s q11
 replace lr10:=lr10.stO q11 mB4
 replace OB0:=OB0.leO (Nat.le_of_eq q11.1.symm)
 exact ⟨(x2,OL6),ag6,⟨le,lr10,lx10,fun x hx=>hx,OB0,B1,mB1,B4,mB4,by exact ⟨by rw [if_pos g37]; exact (rJ (by assumption)).symm,by assumption⟩⟩⟩
 have g37':=g37
 simp at g37'
 refine aM ?_
 exact ⟨([],OL6),ag6,⟨le,lr10,lx10,fun x hx=>hx,OB0,B1,mB1,B4,mB4,by exact ⟨by rw [if_neg (neF g37)],by simp⟩⟩⟩
 refine eT (b:=shK n) (fun g33=>?_) (fun g33=>?_)
 refine aO g33 y_move<|aO g33 (y_lenA k2_1.1)<|aO g33 cU<|aB (y_pickT g33)<|?_
 exact jn _ (aA (aA (aA (aA (aA (aA (aA aJ (by simp only [aH,reduceIte,Nat.reduceEqDiff,reduceCtorEq,g33,bb]))))))))
 refine aN (neF g33)<|aN (neF g33)<|aN (neF g33)<|aB (aR g33)<|?_
 exact jn _ (aA (aA (aA (aA (aA (aA (aA aJ (by simp only [aH,reduceIte,Nat.reduceEqDiff,reduceCtorEq,g33,bb]))))))))
 rintro ⟨kk,OL10⟩ r hl10 ⟨le,lp10,la10,lb10,lo10,B1,mB1,B4,mB4,ek,sk⟩
 have zl10:=lp10.1
 have OB0:=lo10
 refine dH (fun (gx:Str × (Nat → Prop))=>match gx with | (hh,OL12)=>[(0,vs t),(2,.pointer (some ⟨b1,0,none⟩)),(4,(.slice A3 n3 c3)),(5,.pointer (some ⟨b4,0,none⟩)),(9,vb (shN n))]) (fun (gx:Str × (Nat → Prop)) (h' : Heap)=>match gx with | (hh,OL12)=>Le h h' ∧ Mod OL10 hl10 h' ∧ (∀ x,OL12 x → OL10 x ∨ hl10.size ≤ x)∧(∀ x,OL10 x → OL12 x)∧OB h' OL12∧Blk h' b1 [vi 0,vs [],vs [],vi 0] 118∧OL12 b1∧Blk h' b4 [vi n,vs kk,vs hh,vi 0] 118∧OL12 b4∧hh = (if shH n && decide (2 < ((pieces 32 t []).length:Int)) then atS (pieces 32 t []) 2 else [])∧SB hh) ?_ ?_
 have lr12:=Mod.refl (S:=OL10) hl10
 have lx12:∀ x,OL10 x → OL10 x ∨ hl10.size ≤ x:=fun x hx=>.inl hx
 refine hw_sr (aB y_move<|aB y_move<|?_)
 refine bB 4 [(0,vs t),(2,.pointer (some ⟨b1,0,none⟩)),(4,(.slice A3 n3 c3)),(5,.pointer (some ⟨b4,0,none⟩)),(9,vb (shN n)),(47,vb (shH n && (decide ((2:Int) < ((pieces 32 t []).length:Int)))))] (fun r=>?_) (fun jn=>?_)
 refine aD ?_
 refine bF (fun g47=>?_) (fun g47=>?_)
 have g47':=g47
 simp at g47'
 refine aE (aB y_move<|?_)
 obtain ⟨x3,hx3⟩:∃ x,(pieces 32 t [])[2]? = some x:=⟨_,List.getElem?_eq_getElem (by omega)⟩
 have sx3:SB x3:=k2_1.2.at hx3
 refine aB (y_idxA (i:=2) k2_1.1)<|?_
 replace k2_1:=(((k2_1.nb lb4 hO4 eb4).st q5 (ir hO4)).lp lp6 la6).lp lp10 la10
 refine aB (y_load (RdF.cell1 k2_1.1 hx3 rfl))<|aB y_fieldAddr<|?_
 refine bO (aK aP B4) (fun v13 h13 q13=>?_)
 obtain ⟨rfl,q13⟩:=q13
 have z13:=q13.1
 have B4:=q13.2.2
 refine aD ?_
 replace B1:=B1.s q13
 replace le:=le.s q13
 replace lr12:=lr12.stO q13 mB4
 replace OB0:=OB0.leO (Nat.le_of_eq q13.1.symm)
 exact ⟨(x3,OL10),ag5,⟨le,lr12,lx12,fun x hx=>hx,OB0,B1,mB1,B4,mB4,by exact ⟨by rw [if_pos g47]; exact (rJ (by assumption)).symm,by assumption⟩⟩⟩
 have g47':=g47
 simp at g47'
 refine aM ?_
 exact ⟨([],OL10),ag5,⟨le,lr12,lx12,fun x hx=>hx,OB0,B1,mB1,B4,mB4,by exact ⟨by rw [if_neg (neF g47)],by simp⟩⟩⟩
 refine eT (b:=shH n) (fun g43=>?_) (fun g43=>?_)
 refine aO g43 y_move<|aO g43 (y_lenA k2_1.1)<|aO g43 cU<|aB (y_pickT g43)<|?_
 exact jn _ (aA (aA (aA (aA (aA (aA aJ (by simp only [aH,reduceIte,Nat.reduceEqDiff,reduceCtorEq,g43,bb])))))))
 refine aN (neF g43)<|aN (neF g43)<|aN (neF g43)<|aB (aR g43)<|?_
 exact jn _ (aA (aA (aA (aA (aA (aA aJ (by simp only [aH,reduceIte,Nat.reduceEqDiff,reduceCtorEq,g43,bb])))))))
 rintro ⟨hh,OL12⟩ r hl12 ⟨le,lp12,la12,lb12,lo12,B1,mB1,B4,mB4,eh,sh⟩
 have zl12:=lp12.1
 have OB0:=lo12
 refine dH (fun (gx:Int × (Nat → Prop))=>match gx with | (nn,OL14)=>[(0,vs t),(2,.pointer (some ⟨b1,0,none⟩)),(5,.pointer (some ⟨b4,0,none⟩))]) (fun (gx:Int × (Nat → Prop)) (h' : Heap)=>match gx with | (nn,OL14)=>Le h h' ∧ Mod OL12 hl12 h' ∧ (∀ x,OL14 x → OL12 x ∨ hl12.size ≤ x)∧(∀ x,OL12 x → OL14 x)∧OB h' OL14∧Blk h' b1 [vi 0,vs [],vs [],vi 0] 118∧OL14 b1∧Blk h' b4 [vi n,vs kk,vs hh,vi nn] 118∧OL14 b4∧nn = (if shN n && decide (2 < ((pieces 32 t []).length:Int)) then (jI (atS (pieces 32 t []) 2)).1 else 0)) ?_ ?_
 have lr14:=Mod.refl (S:=OL12) hl12
 have lx14:∀ x,OL12 x → OL12 x ∨ hl12.size ≤ x:=fun x hx=>.inl hx
 refine hw_sr (aB y_move<|aB y_move<|?_)
 refine bB 4 [(0,vs t),(2,.pointer (some ⟨b1,0,none⟩)),(4,(.slice A3 n3 c3)),(5,.pointer (some ⟨b4,0,none⟩)),(57,vb (shN n && (decide ((2:Int) < ((pieces 32 t []).length:Int)))))] (fun r=>?_) (fun jn=>?_)
 refine aD ?_
 refine bF (fun g57=>?_) (fun g57=>?_)
 have g57':=g57
 simp at g57'
 refine aE (aB y_move<|?_)
 obtain ⟨x3,hx3⟩:∃ x,(pieces 32 t [])[2]? = some x:=⟨_,List.getElem?_eq_getElem (by omega)⟩
 have sx3:SB x3:=k2_1.2.at hx3
 refine aB (y_idxA (i:=2) k2_1.1)<|?_
 replace k2_1:=((((k2_1.nb lb4 hO4 eb4).st q5 (ir hO4)).lp lp6 la6).lp lp10 la10).lp lp12 la12
 refine aB (y_load (RdF.cell1 k2_1.1 hx3 rfl))<|?_
 refine dY aG zZ<|aB y_move<|aB aL<|aB aL<|aB y_fieldAddr<|bO (aK aP B4) (fun v15 h15 q15=>?_)
 obtain ⟨rfl,q15⟩:=q15
 have z15:=q15.1
 have B4:=q15.2.2
 refine aD ?_
 replace B1:=B1.s q15
 replace le:=le.s q15
 replace lr14:=lr14.stO q15 mB4
 replace OB0:=OB0.leO (Nat.le_of_eq q15.1.symm)
 exact ⟨((jI x3).1,OL12),ag3,⟨le,lr14,lx14,fun x hx=>hx,OB0,B1,mB1,B4,mB4,by rw [if_pos g57,rJ (by assumption)]⟩⟩
 have g57':=g57
 simp at g57'
 refine aM ?_
 exact ⟨(0,OL12),ag3,⟨le,lr14,lx14,fun x hx=>hx,OB0,B1,mB1,B4,mB4,by rw [if_neg (neF g57)]⟩⟩
 refine eT (b:=shN n) (fun g53=>?_) (fun g53=>?_)
 refine aO g53 y_move<|aO g53 (y_lenA k2_1.1)<|aO g53 cU<|aB (y_pickT g53)<|?_
 exact jn _ (aA (aA (aA (aA (aA aJ (by simp only [aH,reduceIte,Nat.reduceEqDiff,reduceCtorEq,g53,bb]))))))
 refine aN (neF g53)<|aN (neF g53)<|aN (neF g53)<|aB (aR g53)<|?_
 exact jn _ (aA (aA (aA (aA (aA aJ (by simp only [aH,reduceIte,Nat.reduceEqDiff,reduceCtorEq,g53,bb]))))))
 rintro ⟨nn,OL14⟩ r hl14 ⟨le,lp14,la14,lb14,lo14,B1,mB1,B4,mB4,ei⟩
 have zl14:=lp14.1
 have hq:oH (pieces 32 t []) = ⟨n,kk,hh,nn⟩:=by simp only [oH]; rw [← en,← ek,← eh,← ei]
 clear en ek eh ei
 refine aI ?_
 refine hw_sr (aB y_move<|aB y_seql<|aB y_move<|?_)
 have OB0:=lo14
 refine dA (t = []) (fun g68=>?_) (fun g68=>?_)
 refine aN (neT (dT g68))<|aN (neT (dT g68))<|aN (neT (dT g68))<|aN (neT (dT g68))<|aB (y_pickT (dT g68))<|aD ?_
 refine aF (ah3 2 5 73) fun r=>?_
 refine fP rfl ?_
 refine hw_sr (aB (y_build rfl rfl)<|?_)
 refine bO (aK aP B1) (fun v16 h16 q16=>?_)
 obtain ⟨rfl,q16⟩:=q16
 have z16:=q16.1
 have B1:=q16.2.2
 refine aB aC<|aD ?_
 refine hw_rr ?_
 refine aQ rfl (.cons (bT B1) (.cons aU .nil)) ?_
 replace le:=le.s q16
 exact ⟨by first | rfl | (simp_all [oneOf,cX] <;> intros <;> (repeat' split) <;> (try and_intros) <;> first | rfl | omega | (simp_all; done)),le⟩
 refine aO (dF g68) (y_loadB B4 0 _)<|?_
 refine iR (dF g68) aG (xF (a:=(⟨n,kk,hh,nn⟩:Ask)) OB0) (fun v17 h17 q17=>?_)
 obtain ⟨rfl,lc17⟩:=q17
 have z17:=lc17.1
 refine aO (dF g68) y_move<|aO (dF g68) jO<|aB (aR (dF g68))<|aD ?_
 refine aF (ah3 2 5 73) fun r=>?_
 refine fH (fun g73=>?_) (fun g73=>?_)
 refine hw_sr (aB (y_build rfl rfl)<|?_)
 replace B1:=B1.le lc17
 refine bO (aK aP B1) (fun v18 h18 q18=>?_)
 obtain ⟨rfl,q18⟩:=q18
 have z18:=q18.1
 have B1:=q18.2.2
 refine aB aC<|aD ?_
 refine hw_rr ?_
 refine aQ rfl (.cons (bT B1) (.cons aU .nil)) ?_
 replace le:=(le.t lc17).s q18
 exact ⟨by first | rfl | (simp_all [oneOf,cX] <;> intros <;> (repeat' split) <;> (try and_intros) <;> first | rfl | omega | (simp_all; done)),le⟩
 refine aM ?_
 refine aI ?_
 replace B4:=B4.le lc17
 refine aE (aB (y_loadB B4 0 _)<|?_)
 replace B1:=B1.le lc17
 refine bO (aK aP B1) (fun v19 h19 q19=>?_)
 obtain ⟨rfl,q19⟩:=q19
 have z19:=q19.1
 have B1:=q19.2.2
 refine aB aC<|aD ?_
 refine hw_rr ?_
 refine aQ rfl (.cons (bT B1) (.cons aU .nil)) ?_
 replace le:=(le.t lc17).s q19
 exact ⟨by first | rfl | (simp_all [oneOf,cX] <;> intros <;> (repeat' split) <;> (try and_intros) <;> first | rfl | omega | (simp_all; done)),le⟩
end
end Go.Proofs.YtlpdccnjhpclbaaGreatDoor
