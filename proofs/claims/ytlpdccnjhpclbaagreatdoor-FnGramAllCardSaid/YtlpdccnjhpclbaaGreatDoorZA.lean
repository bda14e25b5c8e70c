/-
  Part 1 of the walks: the judgement, its rules, the functions one by one.
-/
import Derived.Conc.CompanyCalls
import Derived.Conc.Beside
import Derived.Tactics
import Derived.OrdersHeld
import Derived.KernelRfl
import Derived.Conc.EventLaws2
import Derived.WalkLawsBesides
import Derived.WalkKit
import Derived.Conc.EntryLaws
import Derived.Test.YtlpdccnjhpclbaaGreatDoorChecked
namespace Go.Proofs.YtlpdccnjhpclbaaGreatDoor
section
open Go.Conc
def rO (wr:Loc → Prop) (e:Event):Prop:=e.mute = false∧(e.write = true → wr e.loc)
structure eM (P:Program) where
  main:Bool
  wr:Loc → Prop
  run:Frame → List Frame → World → (Frame → List Frame → World → Prop) → Prop
  ret:∀ {fr cs w K},K fr cs w → run fr cs w K
  step:∀ {fr cs w fr' cs' w' es K},stepG P main (G fr cs) w = .go (G fr' cs') w' es → (∀ e ∈ es,rO wr e) → run fr' cs' w' K → run fr cs w K
section
variable {P:Program} (J:eM P)
def aCx (b:Frame) (k:List Item) (cs:List Frame) (K:Frame → List Frame → World → Prop):Exit → Act → World → Prop
  | .normal,a,w=>J.run (b.at a k) cs w K
  | .exit id,a,w=>∃ k',exitTo id k = some k' ∧ J.run (b.at a k') cs w K
  | .ret,a,w=>∀ todo,J.run { b.at a todo with mode:=.returning } cs w K
  | .panic chain,a,w=>∀ todo,J.run { b.at a todo with mode:=.panicking chain } cs w K
  | _,_,_=>False
def WX (c:Code) (Q:Exit → Act → World → Prop) (a:Act) (w:World):Prop :=
  ∀ (b:Frame) (k:List Item) (cs:List Frame) (K:Frame → List Frame → World → Prop),b.kind ≠ .early →
    (∀ e a' w',Q e a' w' → aCx J b k cs K e a' w') → J.run (b.at a (.code c :: k)) cs w K
def pC (ops:Array Oper) (todo:List Nat) (Q:Exit → Act → World → Prop) (a:Act) (w:World):Prop :=
  ∀ (b:Frame) (k:List Item) (cs:List Frame) (K:Frame → List Frame → World → Prop),b.kind ≠ .early →
    (∀ e a' w',Q e a' w' → aCx J b k cs K e a' w') → J.run (b.at a (.inRegion ops todo :: k)) cs w K
def CX (f:FuncId) (args:Array Value) (w:World) (Post:Value → World → Prop):Prop :=
  ∀ (c:Frame) (cs:List Frame) (K:Frame → List Frame → World → Prop),(∀ v w',Post v w' → J.run (c.finish v) cs w' K) →
    J.run (Frame.enter P f args .normal) (c :: cs) w K
variable {J}
theorem aBO {wr:Loc → Prop}:∀ e ∈ (#[]:Array Event),rO wr e:=by simp
theorem eM.idle {fr fr' : Frame} {cs cs' : List Frame} {w:World} {K:Frame → List Frame → World → Prop} (h:stepG P J.main (G fr cs) w = .go (G fr' cs') w) (hr:J.run fr' cs' w K):J.run fr cs w K :=
  J.step h aBO hr
variable {Q:Exit → Act → World → Prop} {a:Act} {w:World}
theorem WX.mono {c:Code} {Q' : Exit → Act → World → Prop} (h:WX J c Q a w) (hq:∀ e a w,Q e a w → Q' e a w):WX J c Q' a w :=
  fun b k cs K hk hc=>h b k cs K hk fun e a' w' q=>hc e a' w' (hq _ _ _ q)
theorem aCx.push {b:Frame} {x:Item} {k:List Item} {cs:List Frame} {K:Frame → List Frame → World → Prop} {e:Exit} {a:Act} {w:World} (hx:x.plain = true) (he:e ≠ .normal)
    (h:aCx J b k cs K e a w):aCx J b (x :: k) cs K e a w:=by
  cases e with
  | normal=>exact absurd rfl he
  | exit id=>obtain ⟨k',hk,hg⟩:=h; exact ⟨k',by cases x <;> simp_all [exitTo,Item.plain],hg⟩
  | ret=>exact h
  | goto l=>exact h
  | panic ch=>exact h
  | outgrown=>exact h
theorem wx_skip (h:Q .normal a w):WX J .skip Q a w:=fun _ _ _ _ _ hc=>J.idle stepG_skip (hc _ _ _ h)
theorem wx_ret (h:Q .ret a w):WX J .ret Q a w:=fun _ _ _ _ _ hc=>J.idle stepG_ret' (hc _ _ _ h _)
theorem wx_exit {id:Nat} (h:Q (.exit id) a w):WX J (.exit id) Q a w:=fun b k cs K _ hc=>by
  obtain ⟨k',hk',hg⟩:=hc _ _ _ h
  exact J.idle (stepG_exit hk') hg
theorem wx_seq {x y:Code} (h:WX J x (Exit.then (fun a' w'=>WX J y Q a' w') Q) a w):WX J (.seq x y) Q a w:=by
  intro b k cs K hk hc
  refine J.idle stepG_seq (h b (.code y :: k) cs K hk fun e a' w' q=>?_)
  cases e with
  | normal=>exact q b k cs K hk hc
  | exit id=>exact (hc _ _ _ q).push (x:=.code y) rfl (by simp)
  | ret=>exact (hc _ _ _ q).push (x:=.code y) rfl (by simp)
  | goto l=>exact hc _ _ _ q
  | panic ch=>exact (hc _ _ _ q).push (x:=.code y) rfl (by simp)
  | outgrown=>exact hc _ _ _ q
theorem aBt {c:Operand} {x y:Code} {t:Bool} (hc:a.eval c = .bool t) (h:WX J (if t then x else y) Q a w):WX J (.cond c x y) Q a w :=
  fun b k cs K hk hq=>J.idle (stepG_cond hc) (h b k cs K hk hq)
theorem wx_if {c:Operand} {x y:Code} {t:Bool} (hc:a.eval c = .bool t) (h1:t = true → WX J x Q a w) (h2:t = false → WX J y Q a w):WX J (.cond c x y) Q a w:=by
  cases t with
  | true=>exact aBt hc (h1 rfl)
  | false=>exact aBt hc (h2 rfl)
theorem aCG {id:Nat} {c:Code} (h:WX J c (Exit.inBlock id Q) a w):WX J (.block id c) Q a w:=by
  intro b k cs K hk hc
  refine J.idle stepG_block (h b (.inBlock id :: k) cs K hk fun e a' w' q=>?_)
  cases e with
  | normal=>exact J.idle stepG_inBlock (hc _ _ _ q)
  | exit id' =>
    by_cases hid:id' = id
    · simp only [Exit.inBlock,hid,if_true] at q
      exact ⟨k,by simp [exitTo,hid],hc _ _ _ q⟩
    · simp only [Exit.inBlock,hid,if_false] at q
      obtain ⟨k',hk',hg⟩:=hc _ _ _ q
      have:(id == id') = false:=by simp; exact fun h=>hid h.symm
      exact ⟨k',by simp [exitTo,this,hk'],hg⟩
  | ret=>exact hc _ _ _ q
  | goto l=>exact hc _ _ _ q
  | panic ch=>exact hc _ _ _ q
  | outgrown=>exact hc _ _ _ q
theorem aBW {id:Nat} {ops:Array Oper} (h:pC J ops (List.range ops.size) Q a w):WX J (.region id ops false) Q a w :=
  fun b k cs K hk hc=>J.idle stepG_region (h b k cs K hk hc)
theorem qE {main:Bool} {b:Frame} {k:List Item} {cs:List Frame} {id:Nat} {ops:Array Oper} :
    stepG P main (G (b.at a (.code (.region id ops true) :: k)) cs) w = .go (G (b.at a (.inRegion ops (Region.schedule (P.follows .mixedOrders) ops (w.tape w.drawn (.order b.fn id))) :: k)) cs) w.drew:=by
  simp [G,stepG,stepG.exec,Frame.at,choose,Sem.run,Question.forced,Question.cut]
theorem sZ {id:Nat} {ops:Array Oper} (h:∀ t,pC J ops (Region.schedule (P.follows .mixedOrders) ops t) Q a w.drew):WX J (.region id ops true) Q a w :=
  fun b k cs K hk hc=>J.step qE aBO (h _ b k cs K hk hc)
theorem wops_nil {ops:Array Oper} (h:Q .normal a w):pC J ops [] Q a w:=fun _ _ _ _ _ hc=>J.idle stepG_region_end (hc _ _ _ h)
def aBo (P:Program) (wr:Loc → Prop) (a:Act) (o:Oper) (w:World):Prop:=∀ e ∈ (execOp a.eval o).events P w #[],rO wr e
theorem tR {fn:FuncId} {es:Array Event} {e:Event} (h:e ∈ seen P fn es):e ∈ es:=by
  unfold seen at h
  dsimp only at h
  rw [← Array.foldl_toList] at h
  have key:∀ (l:List Event) (q:Bool) (kept:Array Event),e ∈ (l.foldl (fun (x:Bool × Array Event) (e:Event)=>match x,e with
      | (q,kept),e=>match e.loc with
        | .mark (.extern f)=>((P.funcs[f]?).any (·.norace),kept)
        | _=>(q,if q && !e.sync then kept else kept.push e)) (q,kept)).2 → e ∈ kept ∨ e ∈ l:=by
    intro l
    induction l with
    | nil=>intro q kept h; exact .inl h
    | cons x l ih =>
      intro q kept h
      simp only [List.foldl_cons] at h
      split at h
      · exact (ih _ _ h).imp id (List.mem_cons_of_mem _)
      · rcases ih _ _ h with h' | h'
        · split at h'
          · exact .inl h'
          · rcases Array.mem_push.1 h' with h'' | rfl
            · exact .inl h''
            · exact .inr List.mem_cons_self
        · exact .inr (List.mem_cons_of_mem _ h')
  rcases key _ _ _ h with h' | h'
  · simp at h'
  · exact Array.mem_toList_iff.1 h'
theorem aBo.listed {wr:Loc → Prop} {a:Act} {o:Oper} {w:World} (h:aBo P wr a o w) (fn:FuncId):∀ e ∈ listed P fn a o w,rO wr e:=fun e he=>h e (tR he)
theorem mR {ops:Array Oper} {i:Nat} {rest:List Nat} {o:Oper} {v:Value} {w' : World} (ho:ops[i]? = some o) (hw:Region.wanted o (yielded ops a.tmps) = true)
    (hr:(execOp a.eval o).run P w = .ok (.value v) w') (hev:aBo P J.wr a o w) (h:pC J ops rest Q (a.put o.dst v) w'):pC J ops (i :: rest) Q a w :=
  fun b k cs K hk hc=>J.step (stepG_value ho hw hk hr) (hev.listed _) (h b k cs K hk hc)
theorem vU {ops:Array Oper} {i:Nat} {rest:List Nat} {o:Oper} {w' : World} (ho:ops[i]? = some o) (hw:Region.wanted o (yielded ops a.tmps) = true)
    (hr:(execOp a.eval o).run P w = .ok .skip w') (hev:aBo P J.wr a o w) (h:pC J ops rest Q (a.put o.dst undef) w'):pC J ops (i :: rest) Q a w :=
  fun b k cs K hk hc=>J.step (stepG_none ho hw hk hr) (hev.listed _) (h b k cs K hk hc)
theorem lR {ops:Array Oper} {i:Nat} {rest:List Nat} {o:Oper} (ho:ops[i]? = some o) (hw:Region.wanted o (yielded ops a.tmps) = false)
    (h:pC J ops rest Q (a.put o.dst undef) w):pC J ops (i :: rest) Q a w :=
  fun b k cs K hk hc=>J.idle (stepG_unwanted ho hw) (h b k cs K hk hc)
theorem pN {ops:Array Oper} {i:Nat} {rest:List Nat} {o:Oper} {f:FuncId} {args:Array Value} {w' : World} {Post:Value → World → Prop} (ho:ops[i]? = some o) (hw:Region.wanted o (yielded ops a.tmps) = true)
    (hr:(execOp a.eval o).run P w = .ok (.enter f args) w') (hev:aBo P J.wr a o w) (hcall:CX J f args w' Post)
    (h:∀ v w'',Post v w'' → pC J ops rest Q (a.put o.dst v) w''):pC J ops (i :: rest) Q a w:=by
  intro b k cs K hk hc
  have hg:=stepG_oper (P:=P) (main:=J.main) (b:=b) (k:=k) (cs:=cs) (w:=w) (rest:=rest) ho hw
  have hk' : (b.kind == CallKind.early) = false:=by simpa using hk
  refine J.step (fr':=Frame.enter P f args .normal) (cs':=b.at a (.inRegion ops (i :: rest) :: k) :: cs) (w':=w') (es:=listed P b.fn a o w) ?_ (hev.listed _) ?_
  · rw [hg]; simp [stepG.apply,hr,G,Frame.at,hk',GStep.after,listed]
  · refine hcall _ _ _ fun v w'' hp=>?_
    rw [show (b.at a (.inRegion ops (i :: rest) :: k)).finish v = b.at (a.put o.dst v) (.inRegion ops rest :: k) by rw [Frame.finish_at,ho]; rfl]
    exact h v w'' hp b k cs K hk hc
def BodyQ (P:Program) (wr:Loc → Prop) (fn:Func) (Post:Value → World → Prop):Exit → Act → World → Prop
  | .normal,a,w | .ret,a,w=>a.defers = []∧∃ v,(results fn a.tmps).run P w = .ok v w∧(∀ e ∈ (results fn a.tmps).events P w #[],rO wr e)∧Post v w
  | _,_,_=>False
theorem stepG_leave' {main:Bool} {b:Frame} {cs:List Frame} {fn:Func} {todo:List Item} {c:Frame} {v:Value} {w' : World} (hn:b.kind = .normal) (hd:a.defers = []) (hf:P.funcs[b.fn]? = some fn)
    (hr:(results fn a.tmps).run P w = .ok v w') :
    stepG P main (G { b.at a todo with mode:=.returning } (c :: cs)) w = .go (G (c.finish v) cs) w' (seen P b.fn ((results fn a.tmps).events P w #[])):=by
  simp [G,stepG,unwind,doReturn,Frame.at,hd,hn,hf,hr,GStep.after]
theorem aDs {f:FuncId} {fn:Func} {c:Code} {args:Array Value} {Post:Value → World → Prop} (hf:P.funcs[f]? = some fn) (hb:fn.body = some c)
    (h:WX J c (BodyQ P J.wr fn Post) { tmps:=args ++ Array.replicate (fn.ntmps - args.size) undef,defers:=[] } w):CX J f args w Post:=by
  intro c' cs K hK
  have e:Frame.enter P f args .normal = (base f).at { tmps:=args ++ Array.replicate (fn.ntmps - args.size) undef,defers:=[] } [.code c]:=by
    simp [Frame.enter,Frame.at,hf,hb,base]
  rw [e]
  have leave:∀ (a' : Act) (w' : World) (todo:List Item),(a'.defers = []∧∃ v,(results fn a'.tmps).run P w' = .ok v w' ∧ (∀ e ∈ (results fn a'.tmps).events P w' #[],rO J.wr e)∧Post v w') →
      J.run { (base f).at a' todo with mode:=.returning } (c' :: cs) w' K:=by
    rintro a' w' todo ⟨hd,v,hr,hev,hp⟩
    exact J.step (stepG_leave' (b:=base f) rfl hd hf hr) (fun e he=>hev e (tR he)) (hK v w' hp)
  refine h (base f) [] _ K (by simp [base]) fun e a' w' q=>?_
  cases e with
  | normal=>exact J.idle stepG_end (leave a' w' [] q)
  | ret=>exact fun todo=>leave a' w' todo q
  | exit id=>exact q.elim
  | goto l=>exact q.elim
  | panic ch=>exact q.elim
  | outgrown=>exact q.elim
theorem CX.mono {f:FuncId} {args:Array Value} {Post Post' : Value → World → Prop} (h:CX J f args w Post) (hp:∀ v w',Post v w' → Post' v w'):CX J f args w Post' :=
  fun c cs K hK=>h c cs K fun v w' q=>hK v w' (hp _ _ q)
end
structure Inv (t:Trace):Prop where
  clean:∀ said,¬ Race said t
  known:∀ i a,touchAt t i = some a → a.loc.isMemory = true → Knows t 0 i
  deaf:∀ g,Deaf t g = 0
theorem inv_nil:Inv #[] :=
  ⟨fun said=>by rintro ⟨i,j,_,⟨a,b,ha,_⟩,_⟩; simp [Trace.act?] at ha,fun i a ha=>by simp [touchAt,Trace.act?] at ha,fun _=>rfl⟩
theorem Inv.own {t:Trace} (h:Inv t) {fn:FuncId} {pos:String} {es:Array Event} (hes:∀ e ∈ es,e.mute = false):Inv (t ++ MemOp.ofEvents 0 fn pos es):=by
  have hu:∀ op ∈ MemOp.ofEvents 0 fn pos es,op.g = 0:=fun op hop=>by obtain ⟨e,_,rfl⟩:=Go.Conc.mem_ofEvents hop; rfl
  refine ⟨fun said=>noRace_append (h.clean said) hu fun i a ha op hop b hb hc=>h.known i a ha hc.2.1,fun i a ha hm=>?_,fun g=>?_⟩
  · obtain ⟨x,hx,hxa⟩:=touch_of ha
    rcases getElem?_append_cases hx with ⟨_,hx'⟩ | ⟨_,hxu⟩
    · exact (h.known i a (by rw [touchAt_of hx']; exact hxa) hm).app _
    · have:=knows_own hx
      rwa [hu x hxu] at this
  · by_cases hg:g = 0
    · subst hg
      rw [Deaf_own,deafBehind_still (fun e he=>?_),h.deaf 0]
      have:=hes e he
      obtain ⟨loc,wr,sy⟩:=e
      constructor <;> (rintro rfl; simp [Event.mute] at this)
    · rw [Deaf_other t (g:=g) (g':=0) (fun h=>hg h.symm) _ hu,h.deaf g]
def aBT (g:Goroutine):Prop:=g.status = .finished ∨ g.status = .parked
theorem mK {p:Nat → Bool} {i:Nat}:∀ {n:Nat},i < n → p i = true → (∀ j,j < n → p j = true → j = i) → (List.range n).filter p = [i]
  | n + 1,hi,hp,hu=>by
    rw [List.range_succ,List.filter_append]
    by_cases hin:i = n
    · subst hin
      have:(List.range i).filter p = []:=by
        rw [List.filter_eq_nil_iff]
        intro j hj hpj
        have hj':=List.mem_range.1 hj
        have:=hu j (by omega) hpj
        omega
      rw [this]; simp [hp]
    · rw [mK (by omega) hp fun j hj hpj=>hu j (by omega) hpj]
      have:p n = false:=by
        cases hpn:p n with
        | false=>rfl
        | true=>exact absurd (hu n (by omega) hpn) (fun h=>hin h.symm)
      simp [this]
theorem wJ {P:Program} {gs:Array Goroutine} {i:Nat} {g:Goroutine} {w:World} (hi:gs[i]? = some g) (hg:g.status = .running) (ho:∀ j h,j ≠ i → gs[j]? = some h → aBT h) :
    move P (crowd gs w none) = .goroutine (crowd gs w none) i:=by
  have hlt:i < gs.size:=(Array.getElem?_eq_some_iff.1 hi).1
  have hr:runnable gs w.os.mono = [i]:=by
    rw [runnable_eq]
    refine mK hlt (by simp [hi,Goroutine.canRun,hg]) fun j _ hj=>?_
    apply Decidable.byContradiction
    intro hne
    cases hj' : gs[j]? with
    | none=>simp [hj'] at hj
    | some h=>rcases ho j h hne hj' with h' | h' <;> simp [hj',Goroutine.canRun,h'] at hj
  have hr' : runnable (crowd gs w none).gs (crowd gs w none).world.os.mono = [i]:=hr
  have hah:ahead (crowd gs w none) true = none:=by
    refine ahead_crowd fun h hh=>?_
    obtain ⟨j,hj,rfl⟩:=Array.mem_iff_getElem.1 hh
    by_cases hji:j = i
    · subst hji
      have:gs[j] = g:=by simpa [Array.getElem?_eq_getElem hj] using hi
      rw [this]; exact fun t e=>by rw [hg] at e; cases e
    · rcases ho j gs[j] hji (Array.getElem?_eq_getElem hj) with h' | h' <;> exact fun t e=>by rw [h'] at e; cases e
  have hm:move P (crowd gs w none) = askOn P (crowd gs w none):=rfl
  rw [hm]
  unfold askOn
  simp only [hr']
  simp only [crowd] at hah
  simp [due,crowd,choose,pure,Sem.run,Question.forced,hah]
theorem yS {P:Program} {g g' x:Goroutine} {w:World} (h:aBT x):woken P g g' w x = x:=by
  unfold woken Goroutine.again
  split
  · rcases h with h | h <;> rw [h]
  · rfl
theorem aBZ {P:Program} {gs:Array Goroutine} {i:Nat} {g g' : Goroutine} {w w' : World} {es:Array Event} (hi:gs[i]? = some g) (hg:g.status = .running) (ho:∀ j h,j ≠ i → gs[j]? = some h → aBT h)
    (h:stepG P (i == 0) g w = .go g' w' es) :
    stepT P (crowd gs w none) = (.next (crowd (gs.setIfInBounds i g') w' none),MemOp.ofEvents i g.frame.fn g.frame.place es):=by
  rw [stepT,wJ hi hg ho]
  have:=runT_crowd_go (P:=P) (gs:=gs) (sl:=none) (i:=i) (g:=g) hi h
  refine this.trans ?_
  have e:(gs.map (woken P g g' w')).setIfInBounds i g' = gs.setIfInBounds i g':=by
    apply Array.ext_getElem?
    intro j
    have hlt:i < gs.size:=(Array.getElem?_eq_some_iff.1 hi).1
    by_cases hj:i = j
    · subst hj
      rw [Array.getElem?_setIfInBounds_self_of_lt (by simpa using hlt),Array.getElem?_setIfInBounds_self_of_lt hlt]
    · rw [Array.getElem?_setIfInBounds_ne hj,Array.getElem?_setIfInBounds_ne hj,Array.getElem?_map]
      cases hx:gs[j]? with
      | none=>rfl
      | some x=>simp [yS (ho j x (fun e=>hj e.symm) hx)]
  rw [e]
def cm (g:Goroutine) (o:Array Goroutine) (w:World):Machine:=crowd (#[g] ++ o) w none
def Fin (o:Array Goroutine):Prop:=∀ g ∈ o,g.status = .finished
theorem wV {g:Goroutine} {o:Array Goroutine} (ho:Fin o):∀ j h,j ≠ 0 → (#[g] ++ o)[j]? = some h → aBT h:=by
  intro j h hj hh
  rw [Array.getElem?_append_right (by simp; omega)] at hh
  exact .inl (ho h (Array.mem_of_getElem? hh))
theorem step_cm {P:Program} {g g' : Goroutine} {o:Array Goroutine} {w w' : World} {es:Array Event} (hg:g.status = .running) (ho:Fin o) (h:stepG P true g w = .go g' w' es) :
    stepT P (cm g o w) = (.next (cm g' o w'),MemOp.ofEvents 0 g.frame.fn g.frame.place es):=by
  have:=aBZ (P:=P) (gs:=#[g] ++ o) (i:=0) (g:=g) (by rw [Array.getElem?_append_left (by simp)]; rfl) hg (wV ho) (show stepG P (0 == 0) g w = _ from h)
  simp only [cm]
  rw [this]
  have e:(#[g] ++ o).setIfInBounds 0 g' = #[g'] ++ o:=by
    apply Array.ext'
    simp
  rw [e]
def xrun (P:Program) (fr:Frame) (cs:List Frame) (w:World) (K:Frame → List Frame → World → Prop):Prop :=
  ∀ (o:Array Goroutine) (t:Trace),Fin o → Inv t → ∃ n fr' cs' o' w' t',runNT P n (cm (G fr cs) o w) t = (.next (cm (G fr' cs') o' w'),t')∧Fin o' ∧ Inv t' ∧ K fr' cs' w'
def XM (P:Program):eM P where
  main:=true
  wr:=fun _=>True
  run:=xrun P
  ret:=fun h o t ho ht=>⟨0,_,_,o,_,t,rfl,ho,ht,h⟩
  step:=fun {fr cs w fr' cs' w' es K} hs hes hr o t ho ht=>by
    obtain ⟨n,fr₂,cs₂,o₂,w₂,t₂,h1,h2,h3,h4⟩:=hr o (t ++ MemOp.ofEvents 0 (G fr cs).frame.fn (G fr cs).frame.place es) ho (ht.own fun e he=>(hes e he).1)
    exact ⟨n + 1,fr₂,cs₂,o₂,w₂,t₂,by simp only [runNT,step_cm (P:=P) (g:=G fr cs) rfl ho hs]; exact h1,h2,h3,h4⟩
end
section
open Go.Conc
abbrev Heap:=Array Obj
abbrev Env:=Nat → Value
abbrev SL:=List (Nat × Value)
def aH (L:SL) (r:Env) (t:Nat):Value :=
  match L with
  | []=>r t
  | (d,v) :: L=>if t = d then v else aH L r t
def ev (s:Env):Operand → Value
  | .tmp t=>s t
  | .const v=>v
  | .global g=>.pointer (some ⟨g,0,none⟩)
  | .func f=>.func (.func f) #[] #[]
def Rep (N:Nat) (a:Act) (s:Env):Prop:=a.tmps.size = N∧(∀ t,a.tmps.getD t undef = s t)∧a.defers = []
structure fY (w0 w:World):Prop where
  os:w.os = w0.os
  output:w.output = w0.output
  tape:w.tape = w0.tape
theorem fY.rfl' {w0:World}:fY w0 w0:=⟨rfl,rfl,rfl⟩
theorem fY.drew {w0 w:World} (h:fY w0 w):fY w0 w.drew:=⟨h.os,h.output,h.tape⟩
theorem fY.trans {a b c:World} (h:fY a b) (k:fY b c):fY a c:=⟨k.os.trans h.os,k.output.trans h.output,k.tape.trans h.tape⟩
theorem Rep.ev {N:Nat} {a:Act} {s:Env} (h:Rep N a s):a.eval = ev s:=by
  funext x
  cases x with
  | tmp t=>exact h.2.1 t
  | const v=>rfl
  | global g=>rfl
  | func f=>rfl
theorem Rep.put {N:Nat} {a:Act} {L:SL} {r:Env} (h:Rep N a (aH L r)) {d:Nat} (hd:d < N) (v:Value):Rep N (a.put (some d) v) (aH ((d,v) :: L) r):=by
  obtain ⟨h1,h2,h3⟩:=h
  refine ⟨by simp [Act.put,h1],fun t=>?_,h3⟩
  simp only [Act.put,aH]
  by_cases ht:t = d
  · subst ht
    simp [h1,hd]
  · rw [if_neg ht,← h2 t]
    simp [Array.getD_eq_getD_getElem?,Array.getElem?_setIfInBounds_ne (Ne.symm ht)]
theorem gL {N:Nat} {a:Act} {s:Env} (h:Rep N a s) {ops:Array Oper} {j d:Nat} (hd:(ops[j]?).bind (·.dst) = some d) {t:Bool} (hs:s d = .bool t):yielded ops a.tmps j = some t:=by
  unfold yielded
  rw [hd]
  simp only [Option.bind_some]
  have:=h.2.1 d
  rw [hs,Array.getD_eq_getD_getElem?] at this
  cases hx:a.tmps[d]? with
  | none=>rw [hx] at this; simp [undef] at this
  | some x=>rw [hx] at this; simp only [Option.getD_some] at this; subst this; rfl
section
variable {P:Program} (J:eM P) (w0:World) (N:Nat)
abbrev HQ:=Exit → Env → Heap → Prop
def aAE (Q:HQ):Exit → Act → World → Prop:=fun e a w=>∃ s,Rep N a s∧fY w0 w∧Q e s w.heap
def HW (c:Code) (Q:HQ) (s:Env) (h:Heap):Prop :=
  ∀ a w,Rep N a s → fY w0 w → w.heap = h → WX J c (aAE w0 N Q) a w
def HO (ops:Array Oper) (todo:List Nat) (Q:HQ) (s:Env) (h:Heap):Prop :=
  ∀ a w,Rep N a s → fY w0 w → w.heap = h → pC J ops todo (aAE w0 N Q) a w
def HC (f:FuncId) (args:Array Value) (h:Heap) (Post:Value → Heap → Prop):Prop :=
  ∀ w,fY w0 w → w.heap = h → CX J f args w fun v w'=>fY w0 w' ∧ Post v w'.heap
def uT (next:Env → Heap → Prop) (Q:HQ):HQ
  | .normal,s,h=>next s h
  | e,s,h=>Q e s h
def yH (id:Nat) (Q:HQ):HQ
  | .exit id',s,h=>if id' = id then Q .normal s h else Q (.exit id') s h
  | e,s,h=>Q e s h
variable {J w0 N} {Q:HQ} {s:Env} {h:Heap}
theorem HC.mono {f:FuncId} {args:Array Value} {Post Post' : Value → Heap → Prop} (hc:HC J w0 f args h Post) (hp:∀ v h',Post v h' → Post' v h'):HC J w0 f args h Post' :=
  fun w hs hh=>(hc w hs hh).mono fun _ _ q=>⟨q.1,hp _ _ q.2⟩
theorem HW.mono {c:Code} {Q' : HQ} (hc:HW J w0 N c Q s h) (hq:∀ e s h,Q e s h → Q' e s h):HW J w0 N c Q' s h :=
  fun a w hr hs hh=>(hc a w hr hs hh).mono fun _ _ _ ⟨s',r,sm,q⟩=>⟨s',r,sm,hq _ _ _ q⟩
theorem aM (hq:Q .normal s h):HW J w0 N .skip Q s h:=fun _ _ hr hs hh=>wx_skip ⟨s,hr,hs,hh ▸ hq⟩
theorem uA (hq:Q .ret s h):HW J w0 N .ret Q s h:=fun _ _ hr hs hh=>wx_ret ⟨s,hr,hs,hh ▸ hq⟩
theorem cI {id:Nat} (hq:Q (.exit id) s h):HW J w0 N (.exit id) Q s h:=fun _ _ hr hs hh=>wx_exit ⟨s,hr,hs,hh ▸ hq⟩
theorem aI {x y:Code} (hx:HW J w0 N x (uT (fun s' h'=>HW J w0 N y Q s' h') Q) s h):HW J w0 N (.seq x y) Q s h :=
  fun a w hr hs hh=>wx_seq ((hx a w hr hs hh).mono fun e a' w' ⟨s',r,sm,q⟩=>by
    cases e with
    | normal=>exact q a' w' r sm rfl
    | _=>exact ⟨s',r,sm,q⟩)
theorem wN {c:Operand} {x y:Code} {t:Bool} (hc:ev s c = .bool t) (h1:t = true → HW J w0 N x Q s h) (h2:t = false → HW J w0 N y Q s h):HW J w0 N (.cond c x y) Q s h :=
  fun a w hr hs hh=>wx_if (t:=t) (by rw [hr.ev]; exact hc) (fun e=>h1 e a w hr hs hh) (fun e=>h2 e a w hr hs hh)
theorem aX {id:Nat} {c:Code} (hx:HW J w0 N c (yH id Q) s h):HW J w0 N (.block id c) Q s h :=
  fun a w hr hs hh=>aCG ((hx a w hr hs hh).mono fun e a' w' ⟨s',r,sm,q⟩=>by
    cases e with
    | exit id' =>
      simp only [Exit.inBlock]
      simp only [yH] at q
      by_cases hid:id' = id
      · rw [if_pos hid] at q ⊢; exact ⟨s',r,sm,q⟩
      · rw [if_neg hid] at q ⊢; exact ⟨s',r,sm,q⟩
    | _=>exact ⟨s',r,sm,q⟩)
def eY (s:Env):SL → Prop
  | []=>True
  | (t,v) :: L=>s t = v∧eY s L
theorem iK {s:Env}:∀ {L:SL},eY s L → s = aH L s
  | [],_=>rfl
  | (t,v) :: L,h=>by
    funext x
    simp only [aH]
    by_cases hx:x = t
    · subst hx; simp [h.1]
    · rw [if_neg hx,← iK h.2]
theorem cK {c:Code} {X:Type} (L:X → SL) (F:X → Heap → Prop) (μ:X → Nat) (x0:X) (h0:eY s (L x0)) (hF:F x0 h)
    (round:∀ x r h,F x h → HW J w0 N c (uT (fun s' h'=>∃ x',eY s' (L x')∧F x' h' ∧ μ x' < μ x) Q) (aH (L x) r) h):HW J w0 N (.loop c) Q s h:=by
  intro a w hr hs hh
  have key:∀ n x s h,μ x = n → eY s (L x) → F x h → ∀ a w,Rep N a s → fY w0 w → w.heap = h → ∀ (b:Frame) (k:List Item) (cs:List Frame) (K:Frame → List Frame → World → Prop),b.kind ≠ .early →
      (∀ e a' w',aAE w0 N Q e a' w' → aCx J b k cs K e a' w') → J.run (b.at a (.code c :: .inLoop c :: k)) cs w K:=by
    intro n
    induction n using Nat.strongRecOn with
    | _ n ih =>
      intro x s h hn hA hF a w hr hs hh b k cs K hk hc
      rw [iK hA] at hr
      refine round x s h hF a w hr hs hh b (.inLoop c :: k) cs K hk fun e a' w' ⟨s',r',sm,q⟩=>?_
      cases e with
      | normal =>
        obtain ⟨x',hA',hF',hlt⟩:=q
        exact J.idle stepG_inLoop (ih (μ x') (hn ▸ hlt) x' s' w'.heap rfl hA' hF' a' w' r' sm rfl b k cs K hk hc)
      | exit id=>exact (hc _ _ _ ⟨s',r',sm,q⟩).push rfl (by simp)
      | ret=>exact (hc _ _ _ ⟨s',r',sm,q⟩).push (x:=.inLoop c) rfl (by simp)
      | goto l=>exact hc _ _ _ ⟨s',r',sm,q⟩
      | panic ch=>exact (hc _ _ _ ⟨s',r',sm,q⟩).push (x:=.inLoop c) rfl (by simp)
      | outgrown=>exact hc _ _ _ ⟨s',r',sm,q⟩
  intro b k cs K hk hc
  exact J.idle stepG_loop (key _ x0 s h rfl h0 hF a w hr hs hh b k cs K hk hc)
theorem aCh {id:Nat} {ops:Array Oper} (hx:HO J w0 N ops (List.range ops.size) Q s h):HW J w0 N (.region id ops false) Q s h :=
  fun a w hr hs hh=>aBW (hx a w hr hs hh)
def HS (J:eM P) (w0:World) (N:Nat) (ops:Array Oper) (k:Nat) (l:List Oper) (Q:HQ) (s:Env) (h:Heap):Prop :=
  (∀ j,l[j]? = ops[k + j]?) → HO J w0 N ops (List.range' k l.length) Q s h
theorem aE {id:Nat} {l:List Oper} (hx:HS J w0 N l.toArray 0 l Q s h):HW J w0 N (.region id l.toArray false) Q s h:=by
  refine aCh ?_
  have:=hx (by simp)
  rw [List.range_eq_range']
  simpa using this
theorem hs_nil {ops:Array Oper} {k:Nat} (hq:Q .normal s h):HS J w0 N ops k [] Q s h:=fun _ a w hr hs hh=>wops_nil ⟨s,hr,hs,hh ▸ hq⟩
def Y (P:Program) (s:Env) (h:Heap) (o:Op) (ty:TypeId) (v:Value):Prop :=
  ∀ (ps:String) (af:Array Edge) (g:Option (Nat × Bool)) (d:Option Tmp) (w:World),w.heap = h →
    (execOp (ev s) { dst:=d,op:=o,type:=ty,pos:=ps,after:=af,guard:=g }).run P w = .ok (.value v) w ∧
    ∀ e ∈ (execOp (ev s) { dst:=d,op:=o,type:=ty,pos:=ps,after:=af,guard:=g }).events P w #[],e.mute = false∧e.write = false
def E (J:eM P) (s:Env) (h:Heap) (o:Op) (ty:TypeId) (R:Value → Heap → Prop):Prop :=
  ∀ (ps:String) (af:Array Edge) (g:Option (Nat × Bool)) (d:Option Tmp) (w:World),w.heap = h →
    ∃ v w',((execOp (ev s) { dst:=d,op:=o,type:=ty,pos:=ps,after:=af,guard:=g }).run P w = .ok (.value v) w' ∨
      ((execOp (ev s) { dst:=d,op:=o,type:=ty,pos:=ps,after:=af,guard:=g }).run P w = .ok .skip w' ∧ v = undef))∧fY w w' ∧
      (∀ e ∈ (execOp (ev s) { dst:=d,op:=o,type:=ty,pos:=ps,after:=af,guard:=g }).events P w #[],rO J.wr e)∧R v w'.heap
def Ent (J:eM P) (s:Env) (h:Heap) (o:Op) (ty:TypeId) (f:FuncId) (args:Array Value):Prop :=
  ∀ (ps:String) (af:Array Edge) (g:Option (Nat × Bool)) (d:Option Tmp) (w:World),w.heap = h →
    (execOp (ev s) { dst:=d,op:=o,type:=ty,pos:=ps,after:=af,guard:=g }).run P w = .ok (.enter f args) w ∧
    ∀ e ∈ (execOp (ev s) { dst:=d,op:=o,type:=ty,pos:=ps,after:=af,guard:=g }).events P w #[],rO J.wr e
def dOk (N:Nat) (d:Option Nat):Bool:=match d with | some x=>Nat.blt x N | none=>true
def mE (L:SL) (d:Option Nat) (v:Value):SL:=match d with | some d=>(d,v) :: L | none=>L
theorem rep_sput {a:Act} {L:SL} {r:Env} (hr:Rep N a (aH L r)) {d:Option Nat} (hd:dOk N d = true) (v:Value):Rep N (a.put d v) (aH (mE L d v) r):=by
  cases d with
  | none=>exact hr
  | some d=>exact hr.put (Nat.le_of_ble_eq_true hd) v
theorem range'_cons {k n:Nat}:List.range' k (n + 1) = k :: List.range' (k + 1) n:=by simp [List.range'_succ]
section seq
variable {ops:Array Oper} {k:Nat} {rest:List Oper} {L:SL} {r:Env} {d:Option Nat} {op:Op} {ty:TypeId} {ps:String} {af:Array Edge}
theorem nB {o:Oper} (hx:∀ j,(o :: rest)[j]? = ops[k + j]?):ops[k]? = some o∧∀ j,rest[j]? = ops[k + 1 + j]? :=
  ⟨by simpa using (hx 0).symm,fun j=>by have:=hx (j + 1); simpa [Nat.add_assoc,Nat.add_comm 1 j] using this⟩
theorem hs_y {v:Value} (hy:Y P (aH L r) h op ty v) (hd:dOk N d = true) (hn:HS J w0 N ops (k + 1) rest Q (aH (mE L d v) r) h) :
    HS J w0 N ops k ({ dst:=d,op:=op,type:=ty,pos:=ps,after:=af,guard:=none } :: rest) Q (aH L r) h:=by
  intro hx a w hr hs hh
  obtain ⟨h0,ht⟩:=nB hx
  obtain ⟨y1,y2⟩:=hy ps af none d w hh
  rw [← hr.ev] at y1 y2
  rw [List.length_cons,range'_cons]
  exact mR h0 (by simp [Region.wanted]) y1 (fun e he=>⟨(y2 e he).1,fun hw=>by rw [(y2 e he).2] at hw; cases hw⟩) (hn ht _ _ (rep_sput hr hd v) hs hh)
theorem hs_e {R:Value → Heap → Prop} (he:E J (aH L r) h op ty R) (hd:dOk N d = true) (hn:∀ v h',R v h' → HS J w0 N ops (k + 1) rest Q (aH (mE L d v) r) h') :
    HS J w0 N ops k ({ dst:=d,op:=op,type:=ty,pos:=ps,after:=af,guard:=none } :: rest) Q (aH L r) h:=by
  intro hx a w hr hs hh
  obtain ⟨h0,ht⟩:=nB hx
  obtain ⟨v,w',e1,e2,e3,e4⟩:=he ps af none d w hh
  rw [← hr.ev] at e1 e3
  rw [List.length_cons,range'_cons]
  rcases e1 with e1 | ⟨e1,rfl⟩
  · exact mR h0 (by simp [Region.wanted]) e1 e3 (hn v _ e4 ht _ _ (rep_sput hr hd v) (hs.trans e2) rfl)
  · exact vU h0 (by simp [Region.wanted]) e1 e3 (hn _ _ e4 ht _ _ (rep_sput hr hd _) (hs.trans e2) rfl)
theorem hs_c {f:FuncId} {args:Array Value} {Post:Value → Heap → Prop} (he:Ent J (aH L r) h op ty f args) (hc:HC J w0 f args h Post) (hd:dOk N d = true)
    (hn:∀ v h',Post v h' → HS J w0 N ops (k + 1) rest Q (aH (mE L d v) r) h') :
    HS J w0 N ops k ({ dst:=d,op:=op,type:=ty,pos:=ps,after:=af,guard:=none } :: rest) Q (aH L r) h:=by
  intro hx a w hr hs hh
  obtain ⟨h0,ht⟩:=nB hx
  obtain ⟨e1,e2⟩:=he ps af none d w hh
  rw [← hr.ev] at e1 e2
  rw [List.length_cons,range'_cons]
  exact pN h0 (by simp [Region.wanted]) e1 e2 (hc w hs hh) fun v w'' hp=>hn v _ hp.2 ht _ _ (rep_sput hr hd v) hp.1 rfl
theorem hs_no {j dj:Nat} {want t:Bool} (hj:(ops[j]?).bind (·.dst) = some dj) (ht:aH L r dj = .bool t) (hne:t ≠ want) (hd:dOk N d = true)
    (hn:HS J w0 N ops (k + 1) rest Q (aH (mE L d undef) r) h) :
    HS J w0 N ops k ({ dst:=d,op:=op,type:=ty,pos:=ps,after:=af,guard:=some (j,want) } :: rest) Q (aH L r) h:=by
  intro hx a w hr hs hh
  obtain ⟨h0,htl⟩:=nB hx
  rw [List.length_cons,range'_cons]
  refine lR h0 ?_ (hn htl _ _ (rep_sput hr hd undef) hs hh)
  simp only [Region.wanted,gL hr hj ht]
  cases t <;> cases want <;> simp_all
theorem hs_gy {j dj:Nat} {want:Bool} {v:Value} (hj:(ops[j]?).bind (·.dst) = some dj) (ht:aH L r dj = .bool want) (hy:Y P (aH L r) h op ty v) (hd:dOk N d = true)
    (hn:HS J w0 N ops (k + 1) rest Q (aH (mE L d v) r) h) :
    HS J w0 N ops k ({ dst:=d,op:=op,type:=ty,pos:=ps,after:=af,guard:=some (j,want) } :: rest) Q (aH L r) h:=by
  intro hx a w hr hs hh
  obtain ⟨h0,htl⟩:=nB hx
  obtain ⟨y1,y2⟩:=hy ps af (some (j,want)) d w hh
  rw [← hr.ev] at y1 y2
  rw [List.length_cons,range'_cons]
  exact mR h0 (by simp [Region.wanted,gL hr hj ht]) y1 (fun e he=>⟨(y2 e he).1,fun hw=>by rw [(y2 e he).2] at hw; cases hw⟩) (hn htl _ _ (rep_sput hr hd v) hs hh)
theorem hs_gc {j dj:Nat} {want:Bool} {f:FuncId} {args:Array Value} {Post:Value → Heap → Prop} (hj:(ops[j]?).bind (·.dst) = some dj) (ht:aH L r dj = .bool want) (he:Ent J (aH L r) h op ty f args) (hc:HC J w0 f args h Post)
    (hd:dOk N d = true) (hn:∀ v h',Post v h' → HS J w0 N ops (k + 1) rest Q (aH (mE L d v) r) h') :
    HS J w0 N ops k ({ dst:=d,op:=op,type:=ty,pos:=ps,after:=af,guard:=some (j,want) } :: rest) Q (aH L r) h:=by
  intro hx a w hr hs hh
  obtain ⟨h0,htl⟩:=nB hx
  obtain ⟨e1,e2⟩:=he ps af (some (j,want)) d w hh
  rw [← hr.ev] at e1 e2
  rw [List.length_cons,range'_cons]
  exact pN h0 (by simp [Region.wanted,gL hr hj ht]) e1 e2 (hc w hs hh) fun v w'' hp=>hn v _ hp.2 htl _ _ (rep_sput hr hd v) hp.1 rfl
variable {dn:Nat}
theorem aB {v:Value} (hy:Y P (aH L r) h op ty v) (hn:HS J w0 N ops (k + 1) rest Q (aH ((dn,v) :: L) r) h) (hd:Nat.blt dn N = true:=by rfl) :
    HS J w0 N ops k ({ dst:=some dn,op:=op,type:=ty,pos:=ps,after:=af,guard:=none } :: rest) Q (aH L r) h:=hs_y hy hd hn
theorem bE {R:Value → Heap → Prop} (he:E J (aH L r) h op ty R) (hn:∀ v h',R v h' → HS J w0 N ops (k + 1) rest Q (aH ((dn,v) :: L) r) h') (hd:Nat.blt dn N = true:=by rfl) :
    HS J w0 N ops k ({ dst:=some dn,op:=op,type:=ty,pos:=ps,after:=af,guard:=none } :: rest) Q (aH L r) h:=hs_e he hd hn
theorem bO {R:Value → Heap → Prop} (he:E J (aH L r) h op ty R) (hn:∀ v h',R v h' → HS J w0 N ops (k + 1) rest Q (aH L r) h') :
    HS J w0 N ops k ({ dst:=none,op:=op,type:=ty,pos:=ps,after:=af,guard:=none } :: rest) Q (aH L r) h:=hs_e he rfl hn
theorem bL {f:FuncId} {args:Array Value} {Post:Value → Heap → Prop} (he:Ent J (aH L r) h op ty f args) (hc:HC J w0 f args h Post)
    (hn:∀ v h',Post v h' → HS J w0 N ops (k + 1) rest Q (aH ((dn,v) :: L) r) h') (hd:Nat.blt dn N = true:=by rfl) :
    HS J w0 N ops k ({ dst:=some dn,op:=op,type:=ty,pos:=ps,after:=af,guard:=none } :: rest) Q (aH L r) h:=hs_c he hc hd hn
theorem aO {j dj:Nat} {want t:Bool} {v:Value} (hw:t = want) (hy:Y P (aH L r) h op ty v) (hn:HS J w0 N ops (k + 1) rest Q (aH ((dn,v) :: L) r) h)
    (hj:(ops[j]?).bind (·.dst) = some dj:=by rfl) (ht:aH L r dj = .bool t:=by (simp only [aH,reduceIte,Nat.reduceEqDiff,reduceCtorEq] <;> rfl)) (hd:Nat.blt dn N = true:=by rfl) :
    HS J w0 N ops k ({ dst:=some dn,op:=op,type:=ty,pos:=ps,after:=af,guard:=some (j,want) } :: rest) Q (aH L r) h:=hs_gy hj (hw ▸ ht) hy hd hn
theorem iR {j dj:Nat} {want t:Bool} {f:FuncId} {args:Array Value} {Post:Value → Heap → Prop} (hw:t = want) (he:Ent J (aH L r) h op ty f args) (hc:HC J w0 f args h Post)
    (hn:∀ v h',Post v h' → HS J w0 N ops (k + 1) rest Q (aH ((dn,v) :: L) r) h') (hj:(ops[j]?).bind (·.dst) = some dj:=by rfl) (ht:aH L r dj = .bool t:=by (simp only [aH,reduceIte,Nat.reduceEqDiff,reduceCtorEq] <;> rfl)) (hd:Nat.blt dn N = true:=by rfl) :
    HS J w0 N ops k ({ dst:=some dn,op:=op,type:=ty,pos:=ps,after:=af,guard:=some (j,want) } :: rest) Q (aH L r) h:=hs_gc hj (hw ▸ ht) he hc hd hn
theorem aN {j dj:Nat} {want t:Bool} (hne:t ≠ want) (hn:HS J w0 N ops (k + 1) rest Q (aH ((dn,undef) :: L) r) h)
    (hj:(ops[j]?).bind (·.dst) = some dj:=by rfl) (ht:aH L r dj = .bool t:=by (simp only [aH,reduceIte,Nat.reduceEqDiff,reduceCtorEq] <;> rfl)) (hd:Nat.blt dn N = true:=by rfl) :
    HS J w0 N ops k ({ dst:=some dn,op:=op,type:=ty,pos:=ps,after:=af,guard:=some (j,want) } :: rest) Q (aH L r) h:=hs_no hj ht hne hd hn
end seq
theorem dH {X:Type} (L:X → SL) (F:X → Heap → Prop) {x y:Code} (hx:HW J w0 N x (uT (fun s' h'=>∃ g,eY s' (L g)∧F g h') Q) s h)
    (hn:∀ g r h',F g h' → HW J w0 N y Q (aH (L g) r) h'):HW J w0 N (.seq x y) Q s h :=
  aI (hx.mono fun e s' h' q=>by
    cases e with
    | normal=>obtain ⟨g,hA,hF⟩:=q; have:=hn g s' h' hF; rw [← iK hA] at this; exact this
    | _=>exact q)
theorem aJ {s:Env}:eY s []:=trivial
theorem aA {L:SL} {r:Env} {t:Nat} {v:Value} {L' : SL} (hn:eY (aH L r) L') (ht:aH L r t = v:=by (simp only [aH,reduceIte,Nat.reduceEqDiff,reduceCtorEq] <;> rfl)):eY (aH L r) ((t,v) :: L'):=⟨ht,hn⟩
def uU (P:Program) (wr:Loc → Prop) (fn:Func) (Post:Value → Heap → Prop):HQ
  | .normal,s,h | .ret,s,h=>∀ (tmps:Array Value) (w:World),(∀ t,tmps.getD t undef = s t) → w.heap = h → ∃ v,(results fn tmps).run P w = .ok v w∧(∀ e ∈ (results fn tmps).events P w #[],rO wr e)∧Post v h
  | _,_,_=>False
def mM:Nat → List Value → SL
  | _,[]=>[]
  | k,v :: l=>(k,v) :: mM (k + 1) l
theorem lX:∀ (l:List Value) (k t:Nat),aH (mM k l) (fun _=>undef) t = if k ≤ t then (l[t - k]?).getD undef else undef
  | [],k,t=>by simp [mM,aH]
  | v :: l,k,t=>by
    simp only [mM,aH]
    by_cases h:t = k
    · subst h; simp
    · rw [if_neg h,lX l (k + 1) t]
      by_cases hk:k + 1 ≤ t
      · rw [if_pos hk,if_pos (by omega)]
        have:t - k = (t - (k + 1)) + 1:=by omega
        rw [this]; simp
      · rw [if_neg hk,if_neg (by omega)]
theorem aV (N:Nat) (L:SL) {f:FuncId} {fn:Func} {c:Code} {args:List Value} {Post:Value → Heap → Prop} (hf:P.funcs[f]? = some fn) (hx:∀ r,HW J w0 N c (uU P J.wr fn Post) (aH L r) h)
    (hb:fn.body = some c:=by rfl) (hn:fn.ntmps = N:=by rfl) (hN:Nat.ble args.length N = true:=by rfl) (hL:mM 0 args = L:=by rfl):HC J w0 f args.toArray h Post:=by
  intro w hs hh
  subst hL
  refine aDs hf hb ((hx (fun _=>undef) _ w ?_ hs hh).mono ?_)
  · have hN':=Nat.le_of_ble_eq_true hN
    refine ⟨by simp [hn]; omega,fun t=>?_,rfl⟩
    rw [lX,if_pos (Nat.zero_le _),Array.getD_eq_getD_getElem?,Array.getElem?_append]
    simp only [List.size_toArray,Nat.sub_zero]
    split
    · simp
    · rename_i hlt
      rw [List.getElem?_eq_none (by omega),Array.getElem?_replicate]
      split <;> rfl
  · rintro e a w' ⟨s',⟨r1,r2,r3⟩,sm,q⟩
    cases e with
    | normal=>obtain ⟨v,q1,q2,q3⟩:=q a.tmps w' r2 rfl; exact ⟨r3,v,q1,q2,sm,q3⟩
    | ret=>obtain ⟨v,q1,q2,q3⟩:=q a.tmps w' r2 rfl; exact ⟨r3,v,q1,q2,sm,q3⟩
    | _=>exact q.elim
end
end
section
open Go.Conc
section
variable {P:Program} {J:eM P} {ops:Array Oper} {Q:Exit → Act → World → Prop} {md:Region.Mode} {S:World → Prop}
def xC (J:eM P) (o:Oper) (a:Act) (K:Act → World → Prop):Result Next → Prop
  | .ok (.value v) w'=>K (a.put o.dst v) w'
  | .ok .skip w'=>K (a.put o.dst undef) w'
  | .ok (.enter f args) w'=>CX J f args w' fun v w''=>K (a.put o.dst v) w''
  | _=>False
theorem xC.mono {o:Oper} {a:Act} {K K' : Act → World → Prop} (h:∀ a w,K a w → K' a w) {r:Result Next} (hh:xC J o a K r):xC J o a K' r:=by
  cases r with
  | ok n w' =>
    cases n with
    | value v=>exact h _ _ hh
    | skip=>exact h _ _ hh
    | enter f args=>exact CX.mono hh fun v w q=>h _ _ q
    | _=>exact hh
  | halt x w'=>exact hh
def OpX (J:eM P) (ops:Array Oper) (i:Nat) (K:Act → World → Prop) (a:Act) (w:World):Prop :=
  match ops[i]? with
  | none=>False
  | some o=>if Region.wanted o (yielded ops a.tmps) then aBo P J.wr a o w∧xC J o a K ((execOp a.eval o).run P w) else K (a.put o.dst undef) w
theorem OpX.mono {i:Nat} {a:Act} {w:World} {K K' : Act → World → Prop} (h:∀ a w,K a w → K' a w) (hh:OpX J ops i K a w):OpX J ops i K' a w:=by
  unfold OpX at *
  split
  · simp_all
  · rename_i o ho
    simp only [ho] at hh
    split
    · rename_i hw; simp only [hw,if_true] at hh; exact ⟨hh.1,hh.2.mono h⟩
    · rename_i hw; simp only [hw] at hh; exact h _ _ hh
theorem yM {i:Nat} {rest:List Nat} {a:Act} {w:World} (h:OpX J ops i (fun a' w'=>pC J ops rest Q a' w') a w):pC J ops (i :: rest) Q a w:=by
  unfold OpX at h
  split at h
  · exact h.elim
  · rename_i o ho
    split at h
    · rename_i hw
      obtain ⟨hev,hu⟩:=h
      generalize hr:(execOp a.eval o).run P w = res at hu
      match res,hu with
      | .ok (.value v) w',hu=>exact mR ho hw hr hev hu
      | .ok .skip w',hu=>exact vU ho hw hr hev hu
      | .ok (.enter f args) w',hu=>exact pN ho hw hr hev hu fun v w'' q=>q
    · rename_i hw; exact lR ho (by simpa using hw) h
def gZ (P:Program) (ops:Array Oper) (S:World → Prop) (o:Oper) (v:Value) (a:Act):Prop :=
  (Region.wanted o (yielded ops a.tmps) = true∧∀ w,S w → (execOp a.eval o).run P w = .ok (.value v) w∧∀ e ∈ (execOp a.eval o).events P w #[],e.mute = false∧e.write = false) ∨
  (Region.wanted o (yielded ops a.tmps) = false∧v = undef)
theorem gZ.of_same {o:Oper} {v:Value} {a a' : Act} (hy:gZ P ops S o v a) (he:execOp a'.eval o = execOp a.eval o)
    (hw:Region.wanted o (yielded ops a'.tmps) = Region.wanted o (yielded ops a.tmps)):gZ P ops S o v a':=by
  unfold gZ at *
  rw [he,hw]
  exact hy
def lF:Op → Bool
  | .move _ | .assign _ | .extract _ _ | .pick _ _ _ | .fieldAddr _ _ _ | .binOp _ _ _ _ _ | .unOp _ _ _ | .build _ _ | .makeInterface _ _=>true
  | _=>false
def turnsOp:Op → Bool
  | .load _ _ | .indexAddr _ _ _ | .index _ _ _ | .field _ _ _ | .slice _ _ _ _ _ | .convert _ _ _ | .nilCheck _=>false
  | .call c=>match c.callee with
    | .builtin .len=>false
    | .builtin .cap=>false
    | _=>true
  | o=>!lF o
def jK (md:Region.Mode) (ops:Array Oper) (i:Nat):Bool :=
  match ops[i]? with
  | some o=>turnsOp o.op && (List.range ops.size).all fun k=>k == i || o.after.any (fun e=>Region.binds md e && e.on == k) || (match ops[k]? with | some ok=>lF ok.op || ok.after.any (fun e=>Region.binds md e && e.on == i) | none=>false)
  | none=>false
def sO (w w' : World):Prop:=w'.heap = w.heap∧fY w w'
theorem sO.rfl (w:World):sO w w:=⟨Eq.refl _,fY.rfl'⟩
def qZ (J:eM P) (md:Region.Mode) (ops:Array Oper) (Q:Exit → Act → World → Prop) (S:World → Prop):Nat → Array Bool → Act → World → Prop
  | 0,listed,a,w=>Region.ready md ops listed = []∧Q .normal a w
  | fuel + 1,listed,a,w =>
    (Region.ready md ops listed = [] → Q .normal a w) ∧
    ∀ i ∈ Region.ready md ops listed,OpX J ops i (fun a' w'=>(S w' ∨ sO w w' ∨ jK md ops i = true)∧qZ J md ops Q S fuel (listed.setIfInBounds i true) a' w') a w
theorem aBk:∀ (fuel t:Nat) (listed:Array Bool) (a:Act) (w:World),qZ J md ops Q S fuel listed a w →
    pC J ops (Region.linearise.go md ops fuel t listed []) Q a w:=by
  intro fuel
  induction fuel with
  | zero=>intro t listed a w h; simpa [Region.linearise.go] using wops_nil h.2
  | succ fuel ih =>
    intro t listed a w h
    obtain ⟨h₀,h₁⟩:=h
    simp only [Region.linearise.go]
    change pC J ops (match (Region.ready md ops listed)[t % (Region.ready md ops listed).length]? with
      | some i=>Region.linearise.go md ops fuel (t / (Region.ready md ops listed).length) (listed.setIfInBounds i true) [i]
      | none=>[].reverse) Q a w
    cases hi:(Region.ready md ops listed)[t % (Region.ready md ops listed).length]? with
    | none =>
      have hnil:Region.ready md ops listed = []:=by
        cases hr:Region.ready md ops listed with
        | nil=>rfl
        | cons x xs =>
          rw [hr] at hi
          have hlt:t % (x :: xs).length < (x :: xs).length:=Nat.mod_lt _ (by simp)
          simp at hi
          simp at hlt
          omega
      exact wops_nil (h₀ hnil)
    | some i =>
      simp only []
      rw [linearise_go_acc,List.reverse_singleton,List.singleton_append]
      exact yM (OpX.mono (fun a' w' x=>ih _ _ a' w' x.2) (h₁ i (List.mem_of_getElem? hi)))
theorem gZ.opX {i:Nat} {o:Oper} {v:Value} {a:Act} (hi:ops[i]? = some o) (hy:gZ P ops S o v a)
    {K:Act → World → Prop} {w:World} (hS:S w) (h:K (a.put o.dst v) w):OpX J ops i K a w:=by
  unfold OpX
  simp only [hi]
  rcases hy with ⟨hw,hv⟩ | ⟨hw,rfl⟩
  · simp only [hw,if_true]
    refine ⟨fun e he=>⟨((hv w hS).2 e he).1,fun hwr=>by rw [((hv w hS).2 e he).2] at hwr; cases hwr⟩,?_⟩
    rw [(hv w hS).1]
    exact h
  · simp only [hw,Bool.false_eq_true,if_false]; exact h
theorem xE {j:Nat} {oi oj:Oper} {v:Value} (hj:ops[j]? = some oj) (hap:oi.apart ops oj = true)
    (hsi:∀ cs b,oi.op ≠ .select cs b) (hsj:∀ cs b,oj.op ≠ .select cs b) {K:Act → World → Prop} {a:Act} {w:World}
    (hy:gZ P ops S oi v a) (h:OpX J ops j K (a.put oi.dst v) w) :
    OpX J ops j (fun a' w'=>gZ P ops S oi v a' ∧ K (a'.put oi.dst v) w') a w:=by
  obtain ⟨h1,h2,h3⟩:=Oper.apart_spec hap
  have keep:∀ (a:Act),gZ P ops S oi v a → ∀ u,gZ P ops S oi v (a.put oj.dst u):=fun a hy u =>
    hy.of_same (execOp_put oi hsi a oj.dst u h3) (wanted_put oi a oj.dst u h3)
  unfold OpX at *
  simp only [hj] at *
  rw [wanted_put oj a oi.dst v h1] at h
  split
  · rename_i hw
    simp only [hw,if_true] at h
    unfold aBo at *
    rw [execOp_put oj hsj a oi.dst v h1] at h
    refine ⟨h.1,?_⟩
    replace h:=h.2
    generalize (execOp a.eval oj).run P w = r at *
    cases r with
    | ok n w' =>
      cases n <;> simp only [xC] at h ⊢
      case value u=>exact ⟨keep a hy u,by rw [← Act.put_comm a v u h2]; exact h⟩
      case skip=>exact ⟨keep a hy _,by rw [← Act.put_comm a v undef h2]; exact h⟩
      case enter f args=>exact CX.mono h fun u w'' q=>⟨keep a hy u,by rw [← Act.put_comm a v u h2]; exact q⟩
    | halt x w'=>simp only [xC] at h
  · rename_i hw
    simp only [hw] at h
    exact ⟨keep a hy _,by rw [← Act.put_comm a v undef h2]; exact h⟩
theorem aBl {i:Nat} {oi:Oper} {v:Value} (hSK:∀ w w',sO w w' → S w → S w') (hi:ops[i]? = some oi) (hnf:lF oi.op = false ∨ ∀ j,j < ops.size → jK md ops j = false)
    (hsel:∀ (j:Nat) (o:Oper) cs b,ops[j]? = some o → o.op ≠ .select cs b) :
    ∀ (fuel:Nat) (listed:Array Bool) (a:Act) (w:World),
      (∀ j oj,ops[j]? = some oj → j ≠ i → listed.getD j true = false → (∀ e ∈ oj.after,Region.binds md e = true → e.on ≠ i) → oi.apart ops oj = true) →
      i ∈ Region.ready md ops listed → gZ P ops S oi v a → S w →
      qZ J md ops Q S fuel (listed.setIfInBounds i true) (a.put oi.dst v) w → qZ J md ops Q S (fuel + 1) listed a w:=by
  intro fuel
  induction fuel with
  | zero =>
    intro listed a w _ hr hy hS H
    refine ⟨fun h=>(by rw [h] at hr; cases hr),fun j hj=>?_⟩
    by_cases hji:j = i
    · subst hji; exact hy.opX hi hS ⟨.inr (.inl (sO.rfl w)),H⟩
    · have:=ready_mono hj hji
      rw [H.1] at this
      cases this
  | succ fuel ih =>
    intro listed a w hfree hr hy hS H
    refine ⟨fun h=>(by rw [h] at hr; cases hr),fun j hj=>?_⟩
    by_cases hji:j = i
    · subst hji; exact hy.opX hi hS ⟨.inr (.inl (sO.rfl w)),H⟩
    · have h1:=H.2 j (ready_mono hj hji)
      obtain ⟨hjun,oj,hoj,hall⟩:=mem_ready.1 hj
      have hnot:∀ e ∈ oj.after,Region.binds md e = true → e.on ≠ i:=fun e he hb heq=>by
        have h1:=hall e he hb
        have h0:=(mem_ready.1 hr).1
        rw [heq] at h1
        rcases Nat.lt_or_ge i listed.size with h' | h'
        · simp [h'] at h0 h1; rw [h0] at h1; cases h1
        · simp [Array.getElem?_eq_none h'] at h1
      have h2:=xE hoj (hfree j oj hoj hji hjun hnot) (fun cs b=>hsel i oi cs b hi) (fun cs b=>hsel j oj cs b hoj) hy h1
      have hfree' : ∀ k ok,ops[k]? = some ok → k ≠ i → (listed.setIfInBounds j true).getD k true = false →
          (∀ e ∈ ok.after,Region.binds md e = true → e.on ≠ i) → oi.apart ops ok = true:=fun k ok hk hki hun hno=>by
        refine hfree k ok hk hki ?_ hno
        by_cases hjk:j = k
        · subst hjk; exact hjun
        · rw [getD_set_ne true hjk] at hun; exact hun
      have hnl:¬ jK md ops j = true:=fun hl=>by
        rcases hnf with hnf | hno
        rotate_left
        · rw [hno j (Array.getElem?_eq_some_iff.1 hoj).1] at hl; cases hl
        unfold jK at hl
        rw [hoj] at hl
        simp only [Bool.and_eq_true,List.all_eq_true,List.mem_range] at hl
        replace hl:=hl.2
        have hlt:=(Array.getElem?_eq_some_iff.1 hi).1
        have:=hl i hlt
        rw [hi] at this
        simp only [hnf,Bool.false_or,Bool.or_eq_true,beq_iff_eq,Ne.symm hji,false_or,Array.any_eq_true',Bool.and_eq_true] at this
        rcases this with ⟨e,he,hb,ho⟩ | ⟨e,he,hb,ho⟩
        · exact hnot e he hb ho
        · obtain ⟨_,oi',hoi',halli⟩:=mem_ready.1 hr
          rw [hi] at hoi'
          obtain rfl:=Option.some.inj hoi'
          have h1:=halli e he hb
          rw [ho] at h1
          have h0:=hjun
          rcases Nat.lt_or_ge j listed.size with h' | h'
          · simp [h'] at h0 h1; rw [h0] at h1; cases h1
          · simp [Array.getElem?_eq_none h'] at h1
      refine OpX.mono (fun a' w' h3=>⟨h3.2.1,ih (listed.setIfInBounds j true) a' w' hfree' (ready_mono hr (Ne.symm hji)) h3.1 (h3.2.1.elim id fun h=>h.elim (fun hk=>hSK _ _ hk hS) fun hl=>absurd hl hnl) ?_⟩) h2
      rw [Array.setIfInBounds_comm _ _ hji]
      exact h3.2.2
theorem lP {i:Nat} {oi:Oper} {v:Value} (hi:ops[i]? = some oi)
    (hsel:∀ (j:Nat) (o:Oper) cs b,ops[j]? = some o → o.op ≠ .select cs b) :
    ∀ (fuel:Nat) (listed:Array Bool) (a:Act) (w:World),
      (∀ j oj,ops[j]? = some oj → j ≠ i → listed.getD j true = false → (∀ e ∈ oj.after,Region.binds md e = true → e.on ≠ i) → oi.apart ops oj = true) →
      i ∈ Region.ready md ops listed → gZ P ops (fun _=>True) oi v a →
      qZ J md ops Q S fuel (listed.setIfInBounds i true) (a.put oi.dst v) w → qZ J md ops Q S (fuel + 1) listed a w:=by
  intro fuel
  induction fuel with
  | zero =>
    intro listed a w _ hr hy H
    refine ⟨fun h=>(by rw [h] at hr; cases hr),fun j hj=>?_⟩
    by_cases hji:j = i
    · subst hji; exact hy.opX hi trivial ⟨.inr (.inl (sO.rfl w)),H⟩
    · have:=ready_mono hj hji
      rw [H.1] at this
      cases this
  | succ fuel ih =>
    intro listed a w hfree hr hy H
    refine ⟨fun h=>(by rw [h] at hr; cases hr),fun j hj=>?_⟩
    by_cases hji:j = i
    · subst hji; exact hy.opX hi trivial ⟨.inr (.inl (sO.rfl w)),H⟩
    · have h1:=H.2 j (ready_mono hj hji)
      obtain ⟨hjun,oj,hoj,hall⟩:=mem_ready.1 hj
      have hnot:∀ e ∈ oj.after,Region.binds md e = true → e.on ≠ i:=fun e he hb heq=>by
        have h1:=hall e he hb
        have h0:=(mem_ready.1 hr).1
        rw [heq] at h1
        rcases Nat.lt_or_ge i listed.size with h' | h'
        · simp [h'] at h0 h1; rw [h0] at h1; cases h1
        · simp [Array.getElem?_eq_none h'] at h1
      have h2:=xE hoj (hfree j oj hoj hji hjun hnot) (fun cs b=>hsel i oi cs b hi) (fun cs b=>hsel j oj cs b hoj) hy h1
      have hfree' : ∀ k ok,ops[k]? = some ok → k ≠ i → (listed.setIfInBounds j true).getD k true = false →
          (∀ e ∈ ok.after,Region.binds md e = true → e.on ≠ i) → oi.apart ops ok = true:=fun k ok hk hki hun hno=>by
        refine hfree k ok hk hki ?_ hno
        by_cases hjk:j = k
        · subst hjk; exact hjun
        · rw [getD_set_ne true hjk] at hun; exact hun
      refine OpX.mono (fun a' w' h3=>⟨h3.2.1,ih (listed.setIfInBounds j true) a' w' hfree' (ready_mono hr (Ne.symm hji)) h3.1 ?_⟩) h2
      rw [Array.setIfInBounds_comm _ _ hji]
      exact h3.2.2
theorem wX {i:Nat} {oi:Oper} {v:Value} {fuel:Nat} {listed:Array Bool} {a:Act} {w:World} (hSK:∀ w w',sO w w' → S w → S w') (hi:ops[i]? = some oi) (hnf:lF oi.op = false ∨ ∀ j,j < ops.size → jK md ops j = false)
    (hs:Region.noSelect ops = true) (hf:Region.free md ops listed i = true) (hr:(Region.ready md ops listed).contains i = true)
    (hy:gZ P ops S oi v a) (hS:S w) (h:qZ J md ops Q S fuel (listed.setIfInBounds i true) (a.put oi.dst v) w):qZ J md ops Q S (fuel + 1) listed a w :=
  aBl hSK hi hnf (Region.noSelect_spec hs) fuel listed a w (Region.free_spec hi hf) (by simpa using hr) hy hS h
theorem anyX_done {listed:Array Bool} {a:Act} {w:World} (hr:Region.ready md ops listed = []) (h:Q .normal a w):∀ fuel,qZ J md ops Q S fuel listed a w
  | 0=>⟨hr,h⟩
  | _ + 1=>⟨fun _=>h,fun i hi=>by rw [hr] at hi; cases hi⟩
theorem uV {id:Nat} {a:Act} {w:World} (hm:P.follows .mixedOrders = true)
    (h:qZ J .any ops Q S ops.size (Array.replicate ops.size false) a w.drew):WX J (.region id ops true) Q a w :=
  sZ fun t=>by
    simp only [Region.schedule,hm,Bool.true_or,if_true]
    exact aBk ops.size t _ a _ h
end
section
variable {P:Program} {J:eM P} {w0:World} {N:Nat} {ops:List Oper} {Q:HQ} {H:Heap → Prop}
theorem keepH {w0:World} {H:Heap → Prop}:∀ w w',sO w w' → (fY w0 w∧H w.heap) → (fY w0 w' ∧ H w'.heap):=fun _ _ k h=>⟨h.1.trans k.2,k.1 ▸ h.2⟩
def HA (J:eM P) (w0:World) (N:Nat) (ops:List Oper) (H:Heap → Prop) (fuel:Nat) (listed:List Bool) (Q:HQ) (s:Env) (h:Heap):Prop :=
  ∀ a w,Rep N a s → fY w0 w → w.heap = h → qZ J .any ops.toArray (aAE w0 N Q) (fun w=>fY w0 w∧H w.heap) fuel listed.toArray a w
variable {L:SL} {r:Env} {h:Heap} {fuel:Nat} {listed:List Bool}
theorem pI {id:Nat} (hm:P.follows .mixedOrders = true) (hx:HA J w0 N ops H ops.length (List.replicate ops.length false) Q (aH L r) h) :
    HW J w0 N (.region id ops.toArray true) Q (aH L r) h:=by
  intro a w hr hs hh
  refine uV (S:=fun w=>fY w0 w∧H w.heap) hm ?_
  have:=hx a w.drew hr hs.drew hh
  simpa using this
theorem xV (hr:Region.ready .any ops.toArray listed.toArray = []) (hq:Q .normal (aH L r) h):HA J w0 N ops H fuel listed Q (aH L r) h :=
  fun _ _ hrep hs hh=>anyX_done hr ⟨_,hrep,hs,hh ▸ hq⟩ fuel
def fB (ops:List Oper) (listed:List Bool) (i:Nat):Bool :=
  Region.noSelect ops.toArray && Region.free .any ops.toArray listed.toArray i && (Region.ready .any ops.toArray listed.toArray).contains i
def aAX (ops:List Oper):Bool:=(List.range ops.length).all fun j=>!jK .any ops.toArray j
def kJ (ops:List Oper) (listed:List Bool) (i:Nat):Bool :=
  fB ops listed i && (match ops[i]? with | some o=>!lF o.op || aAX ops | none=>false)
theorem zJ {o:Op} {ops:List Oper} (h:(!lF o || aAX ops) = true):lF o = false ∨ ∀ j,j < ops.toArray.size → jK .any ops.toArray j = false:=by
  simp only [Bool.or_eq_true,Bool.not_eq_true',aAX,List.all_eq_true,List.mem_range] at h
  exact h.imp id fun h j hj=>h j (by simpa using hj)
variable {i:Nat} {d:Option Nat} {op:Op} {ty:TypeId} {ps:String} {af:Array Edge} {g:Option (Nat × Bool)}
theorem aBK {v:Value} (hi:ops[i]? = some { dst:=d,op:=op,type:=ty,pos:=ps,after:=af,guard:=none }) (hok:kJ ops listed i = true) (hH:H h)
    (hy:∀ h',H h' → Y P (aH L r) h' op ty v) (hd:dOk N d = true) (hn:HA J w0 N ops H fuel (listed.set i true) Q (aH (mE L d v) r) h):HA J w0 N ops H (fuel + 1) listed Q (aH L r) h:=by
  intro a w hr hs hh
  simp only [kJ,fB,hi,Bool.and_eq_true] at hok
  refine wX (keepH (w0:=w0) (H:=H)) (i:=i) (v:=v) (by simpa using hi) (zJ hok.2) hok.1.1.1 hok.1.1.2 hok.1.2 (.inl ⟨by simp [Region.wanted],fun w' hS=>?_⟩) ⟨hs,hh ▸ hH⟩ ?_
  · rw [hr.ev]; exact hy _ hS.2 ps af none d w' rfl
  · have:=hn _ w (rep_sput hr hd v) hs hh
    simpa using this
theorem aAh {v:Value} {j dj:Nat} {want:Bool} (hi:ops[i]? = some { dst:=d,op:=op,type:=ty,pos:=ps,after:=af,guard:=some (j,want) }) (hok:kJ ops listed i = true) (hH:H h)
    (hj:(ops[j]?).bind (·.dst) = some dj) (ht:aH L r dj = .bool want)
    (hy:∀ h',H h' → Y P (aH L r) h' op ty v) (hd:dOk N d = true) (hn:HA J w0 N ops H fuel (listed.set i true) Q (aH (mE L d v) r) h):HA J w0 N ops H (fuel + 1) listed Q (aH L r) h:=by
  intro a w hr hs hh
  simp only [kJ,fB,hi,Bool.and_eq_true] at hok
  refine wX (keepH (w0:=w0) (H:=H)) (i:=i) (v:=v) (by simpa using hi) (zJ hok.2) hok.1.1.1 hok.1.1.2 hok.1.2 (.inl ⟨by simp [Region.wanted,gL hr (ops:=ops.toArray) (by simpa using hj) ht],fun w' hS=>?_⟩) ⟨hs,hh ▸ hH⟩ ?_
  · rw [hr.ev]; exact hy _ hS.2 ps af _ d w' rfl
  · have:=hn _ w (rep_sput hr hd v) hs hh
    simpa using this
theorem aAg {v:Value} (hi:ops[i]? = some { dst:=d,op:=op,type:=ty,pos:=ps,after:=af,guard:=none }) (hok:fB ops listed i = true)
    (hy:∀ h',Y P (aH L r) h' op ty v) (hd:dOk N d = true) (hn:HA J w0 N ops H fuel (listed.set i true) Q (aH (mE L d v) r) h):HA J w0 N ops H (fuel + 1) listed Q (aH L r) h:=by
  intro a w hr hs hh
  simp only [fB,Bool.and_eq_true] at hok
  refine lP (i:=i) (v:=v) (by simpa using hi) (Region.noSelect_spec hok.1.1) fuel _ _ _ (Region.free_spec (by simpa using hi) hok.1.2) (by simpa using hok.2) (.inl ⟨by simp [Region.wanted],fun w' _=>?_⟩) ?_
  · rw [hr.ev]; exact hy _ ps af none d w' rfl
  · have:=hn _ w (rep_sput hr hd v) hs hh
    simpa using this
theorem wQ {v:Value} {j dj:Nat} {want:Bool} (hi:ops[i]? = some { dst:=d,op:=op,type:=ty,pos:=ps,after:=af,guard:=some (j,want) }) (hok:fB ops listed i = true)
    (hj:(ops[j]?).bind (·.dst) = some dj) (ht:aH L r dj = .bool want)
    (hy:∀ h',Y P (aH L r) h' op ty v) (hd:dOk N d = true) (hn:HA J w0 N ops H fuel (listed.set i true) Q (aH (mE L d v) r) h):HA J w0 N ops H (fuel + 1) listed Q (aH L r) h:=by
  intro a w hr hs hh
  simp only [fB,Bool.and_eq_true] at hok
  refine lP (i:=i) (v:=v) (by simpa using hi) (Region.noSelect_spec hok.1.1) fuel _ _ _ (Region.free_spec (by simpa using hi) hok.1.2) (by simpa using hok.2) (.inl ⟨by simp [Region.wanted,gL hr (ops:=ops.toArray) (by simpa using hj) ht],fun w' _=>?_⟩) ?_
  · rw [hr.ev]; exact hy _ ps af _ d w' rfl
  · have:=hn _ w (rep_sput hr hd v) hs hh
    simpa using this
theorem aA7 {j dj:Nat} {want t:Bool} (hi:ops[i]? = some { dst:=d,op:=op,type:=ty,pos:=ps,after:=af,guard:=some (j,want) }) (hok:fB ops listed i = true)
    (hj:(ops[j]?).bind (·.dst) = some dj) (ht:aH L r dj = .bool t) (hne:t ≠ want)
    (hd:dOk N d = true) (hn:HA J w0 N ops H fuel (listed.set i true) Q (aH (mE L d undef) r) h):HA J w0 N ops H (fuel + 1) listed Q (aH L r) h:=by
  intro a w hr hs hh
  simp only [fB,Bool.and_eq_true] at hok
  refine lP (i:=i) (v:=undef) (by simpa using hi) (Region.noSelect_spec hok.1.1) fuel _ _ _ (Region.free_spec (by simpa using hi) hok.1.2) (by simpa using hok.2) (.inr ⟨?_,rfl⟩) ?_
  · simp only [Region.wanted,gL hr (ops:=ops.toArray) (by simpa using hj) ht]
    cases t <;> cases want <;> simp_all
  · have:=hn _ w (rep_sput hr hd undef) hs hh
    simpa using this
theorem aDg {j dj:Nat} {want:Bool} (hi:ops[i]? = some { dst:=d,op:=op,type:=ty,pos:=ps,after:=af,guard:=some (j,want) }) (hok:fB ops listed i = true)
    (hj:(ops[j]?).bind (·.dst) = some dj) (ht:aH L r dj = undef) (hyu:∀ (a:Act),Rep N a (aH L r) → yielded ops.toArray a.tmps j = none) (hd:dOk N d = true) (hn:HA J w0 N ops H fuel (listed.set i true) Q (aH (mE L d undef) r) h):HA J w0 N ops H (fuel + 1) listed Q (aH L r) h:=by
  intro a w hr hs hh
  simp only [fB,Bool.and_eq_true] at hok
  refine lP (i:=i) (v:=undef) (by simpa using hi) (Region.noSelect_spec hok.1.1) fuel _ _ _ (Region.free_spec (by simpa using hi) hok.1.2) (by simpa using hok.2) (.inr ⟨?_,rfl⟩) ?_
  · simp only [Region.wanted,hyu a hr]
    rfl
  · have:=hn _ w (rep_sput hr hd undef) hs hh
    simpa using this
def lK (J:eM P) (w0:World) (N:Nat) (ops:List Oper) (H:Heap → Prop) (fuel:Nat) (listed:List Bool) (Q:HQ) (s:Env) (h:Heap) (i:Nat):Prop :=
  ∀ a w,Rep N a s → fY w0 w → w.heap = h → OpX J ops.toArray i (fun a' w'=>((fY w0 w' ∧ H w'.heap) ∨ sO w w' ∨ jK .any ops.toArray i = true)∧qZ J .any ops.toArray (aAE w0 N Q) (fun w=>fY w0 w∧H w.heap) fuel (listed.toArray.setIfInBounds i true) a' w') a w
theorem aA8 {rs:List Nat} (hr:Region.ready .any ops.toArray listed.toArray = rs) (hne:rs ≠ []) (hx:∀ i ∈ rs,lK J w0 N ops H fuel listed Q (aH L r) h i):HA J w0 N ops H (fuel + 1) listed Q (aH L r) h :=
  fun a w hrep hs hh=>⟨fun h0=>absurd (hr ▸ h0) hne,fun i hi=>hx i (hr ▸ hi) a w hrep hs hh⟩
theorem rH (hr:Region.ready .any ops.toArray listed.toArray = [i]) (hx:lK J w0 N ops H fuel listed Q (aH L r) h i):HA J w0 N ops H (fuel + 1) listed Q (aH L r) h :=
  aA8 hr (by simp) (by simpa using hx)
theorem aDb {R:Value → Heap → Prop} (hi:ops[i]? = some { dst:=d,op:=op,type:=ty,pos:=ps,after:=af,guard:=none }) (he:E J (aH L r) h op ty R) (hd:dOk N d = true)
    (hn:∀ v h',R v h' → H h' ∧ HA J w0 N ops H fuel (listed.set i true) Q (aH (mE L d v) r) h'):lK J w0 N ops H fuel listed Q (aH L r) h i:=by
  intro a w hr hs hh
  unfold OpX
  have hi' : ops.toArray[i]? = some { dst:=d,op:=op,type:=ty,pos:=ps,after:=af,guard:=none }:=by simpa using hi
  simp only [hi',Region.wanted,if_true]
  obtain ⟨v,w',e1,e2,e3,e4⟩:=he ps af none d w hh
  rw [← hr.ev] at e1 e3
  refine ⟨e3,?_⟩
  have hs':=hs.trans e2
  have hh':=hn v _ e4
  have hnext:=hh'.2 _ w' (rep_sput hr hd v) hs' rfl
  rcases e1 with e1 | ⟨e1,rfl⟩ <;> rw [e1] <;> exact ⟨.inl ⟨hs',hh'.1⟩,by simpa using hnext⟩
theorem aCi {R:Value → Heap → Prop} (hi:ops[i]? = some { dst:=d,op:=op,type:=ty,pos:=ps,after:=af,guard:=none }) (he:E J (aH L r) h op ty R) (hd:dOk N d = true)
    (hn:∀ v h',R v h' → Q .normal (aH (mE L d v) r) h') (hl:jK .any ops.toArray i = true) (hr0:Region.ready .any ops.toArray (listed.set i true).toArray = []):lK J w0 N ops H fuel listed Q (aH L r) h i:=by
  intro a w hr hs hh
  unfold OpX
  have hi' : ops.toArray[i]? = some { dst:=d,op:=op,type:=ty,pos:=ps,after:=af,guard:=none }:=by simpa using hi
  simp only [hi',Region.wanted,if_true]
  obtain ⟨v,w',e1,e2,e3,e4⟩:=he ps af none d w hh
  rw [← hr.ev] at e1 e3
  refine ⟨e3,?_⟩
  have hs':=hs.trans e2
  have hh':=hn v _ e4
  rcases e1 with e1 | ⟨e1,rfl⟩ <;> rw [e1] <;> exact ⟨.inr (.inr hl),anyX_done (by simpa using hr0) ⟨_,rep_sput hr hd _,hs',hh'⟩ _⟩
theorem hone_ef {R:Value → Heap → Prop} (hi:ops[i]? = some { dst:=d,op:=op,type:=ty,pos:=ps,after:=af,guard:=none }) (he:E J (aH L r) h op ty R) (hd:dOk N d = true)
    (hl:jK .any ops.toArray i = true) (hn:∀ v h',R v h' → HA J w0 N ops H fuel (listed.set i true) Q (aH (mE L d v) r) h'):lK J w0 N ops H fuel listed Q (aH L r) h i:=by
  intro a w hr hs hh
  unfold OpX
  have hi' : ops.toArray[i]? = some { dst:=d,op:=op,type:=ty,pos:=ps,after:=af,guard:=none }:=by simpa using hi
  simp only [hi',Region.wanted,if_true]
  obtain ⟨v,w',e1,e2,e3,e4⟩:=he ps af none d w hh
  rw [← hr.ev] at e1 e3
  refine ⟨e3,?_⟩
  have hs':=hs.trans e2
  have hnext:=hn v _ e4 _ w' (rep_sput hr hd v) hs' rfl
  rcases e1 with e1 | ⟨e1,rfl⟩ <;> rw [e1] <;> exact ⟨.inr (.inr hl),by simpa using hnext⟩
theorem hone_cf {f:FuncId} {args:Array Value} {Post:Value → Heap → Prop} (hi:ops[i]? = some { dst:=d,op:=op,type:=ty,pos:=ps,after:=af,guard:=none }) (he:Ent J (aH L r) h op ty f args) (hc:HC J w0 f args h Post) (hd:dOk N d = true)
    (hl:jK .any ops.toArray i = true) (hn:∀ v h',Post v h' → HA J w0 N ops H fuel (listed.set i true) Q (aH (mE L d v) r) h'):lK J w0 N ops H fuel listed Q (aH L r) h i:=by
  intro a w hr hs hh
  unfold OpX
  have hi' : ops.toArray[i]? = some { dst:=d,op:=op,type:=ty,pos:=ps,after:=af,guard:=none }:=by simpa using hi
  simp only [hi',Region.wanted,if_true]
  obtain ⟨e1,e3⟩:=he ps af none d w hh
  rw [← hr.ev] at e1 e3
  refine ⟨e3,?_⟩
  rw [e1]
  refine (hc w hs hh).mono fun v w'' hp=>?_
  have hnext:=hn v _ hp.2 _ w'' (rep_sput hr hd v) hp.1 rfl
  exact ⟨.inr (.inr hl),by simpa using hnext⟩
theorem cV {R:Value → Heap → Prop} (i:Nat) (hi:ops[i]? = some { dst:=none,op:=op,type:=ty,pos:=ps,after:=af,guard:=none }) (he:E J (aH L r) h op ty R) (hn:∀ v h',R v h' → HA J w0 N ops H fuel (listed.set i true) Q (aH L r) h')
    (hr:Region.ready .any ops.toArray listed.toArray = [i]:=by kernel_rfl) (hl:jK .any ops.toArray i = true:=by kernel_rfl):HA J w0 N ops H (fuel + 1) listed Q (aH L r) h:=rH hr (hone_ef hi he rfl hl hn)
theorem hf_c {f:FuncId} {args:Array Value} {Post:Value → Heap → Prop} {dn:Nat} (i:Nat) (hi:ops[i]? = some { dst:=some dn,op:=op,type:=ty,pos:=ps,after:=af,guard:=none }) (he:Ent J (aH L r) h op ty f args) (hc:HC J w0 f args h Post) (hn:∀ v h',Post v h' → HA J w0 N ops H fuel (listed.set i true) Q (aH ((dn,v) :: L) r) h')
    (hr:Region.ready .any ops.toArray listed.toArray = [i]:=by kernel_rfl) (hl:jK .any ops.toArray i = true:=by kernel_rfl) (hd:Nat.blt dn N = true:=by rfl):HA J w0 N ops H (fuel + 1) listed Q (aH L r) h:=rH hr (hone_cf hi he hc hd hl hn)
theorem bD (hq:Q .normal (aH L r) h) (hr:Region.ready .any ops.toArray listed.toArray = []:=by kernel_rfl):HA J w0 N ops H fuel listed Q (aH L r) h:=xV hr hq
theorem aA6 {f:FuncId} {args:Array Value} {Post:Value → Heap → Prop} (hi:ops[i]? = some { dst:=d,op:=op,type:=ty,pos:=ps,after:=af,guard:=none }) (he:Ent J (aH L r) h op ty f args) (hc:HC J w0 f args h Post) (hd:dOk N d = true)
    (hn:∀ v h',Post v h' → H h' ∧ HA J w0 N ops H fuel (listed.set i true) Q (aH (mE L d v) r) h'):lK J w0 N ops H fuel listed Q (aH L r) h i:=by
  intro a w hr hs hh
  unfold OpX
  have hi' : ops.toArray[i]? = some { dst:=d,op:=op,type:=ty,pos:=ps,after:=af,guard:=none }:=by simpa using hi
  simp only [hi',Region.wanted,if_true]
  obtain ⟨e1,e3⟩:=he ps af none d w hh
  rw [← hr.ev] at e1 e3
  refine ⟨e3,?_⟩
  rw [e1]
  refine (hc w hs hh).mono fun v w'' hp=>?_
  have hh':=hn v _ hp.2
  have hnext:=hh'.2 _ w'' (rep_sput hr hd v) hp.1 rfl
  exact ⟨.inl ⟨hp.1,hh'.1⟩,by simpa using hnext⟩
theorem xT {j dj:Nat} {want:Bool} {f:FuncId} {args:Array Value} {Post:Value → Heap → Prop} (hi:ops[i]? = some { dst:=d,op:=op,type:=ty,pos:=ps,after:=af,guard:=some (j,want) })
    (hj:(ops[j]?).bind (·.dst) = some dj) (ht:aH L r dj = .bool want) (he:Ent J (aH L r) h op ty f args) (hc:HC J w0 f args h Post) (hd:dOk N d = true)
    (hn:∀ v h',Post v h' → H h' ∧ HA J w0 N ops H fuel (listed.set i true) Q (aH (mE L d v) r) h'):lK J w0 N ops H fuel listed Q (aH L r) h i:=by
  intro a w hr hs hh
  unfold OpX
  have hi' : ops.toArray[i]? = some { dst:=d,op:=op,type:=ty,pos:=ps,after:=af,guard:=some (j,want) }:=by simpa using hi
  simp only [hi',Region.wanted,gL hr (ops:=ops.toArray) (by simpa using hj) ht,beq_self_eq_true,if_true]
  obtain ⟨e1,e3⟩:=he ps af _ d w hh
  rw [← hr.ev] at e1 e3
  refine ⟨e3,?_⟩
  rw [e1]
  refine (hc w hs hh).mono fun v w'' hp=>?_
  have hh':=hn v _ hp.2
  have hnext:=hh'.2 _ w'' (rep_sput hr hd v) hp.1 rfl
  exact ⟨.inl ⟨hp.1,hh'.1⟩,by simpa using hnext⟩
end
end
section
open Go.Conc
abbrev Str:=List UInt8
abbrev vs (l:Str):Value:=.string ⟨l.toArray⟩
abbrev vi (n:Int):Value:=.int .i64 n
abbrev vb (b:Bool):Value:=.bool b
def hcell (h:Heap) (a:Addr):Option Value :=
  match h[a.block]? with
  | some (.cells c _ _)=>if a.spot.isSome then none else c[a.off]?
  | _=>none
theorem eR (w:World) (a:Addr):w.cell? a = hcell w.heap a:=rfl
theorem mD (l:Str):(⟨l.toArray⟩:ByteArray).toList = l:=by
  rw [ByteArray.toList_eq]
theorem kN (l:Str):(⟨l.toArray⟩:ByteArray).size = l.length:=by simp [ByteArray.size]
theorem qT {α:Type} [BEq α] [LawfulBEq α] [DecidableEq α] (a b:α):(a == b) = decide (a = b):=by
  rw [Bool.eq_iff_iff]; simp
class sN (P:Program) (t:TypeId):Prop where h:P.underlying t = some .string
class qY (P:Program) (t:TypeId) (k:outParam IntKind):Prop where h:P.underlying t = some (.int k)
class fA (P:Program) (t:TypeId) (e:outParam TypeId):Prop where h:P.underlying t = some (.slice e)
class eG (P:Program) (t:TypeId) (n:outParam Nat):Prop where h:(P.info? t).map (·.size) = some n
class oL (P:Program) (t:TypeId):Prop where h:∃ d,P.underlying t = some d
section
variable {P:Program} {s:Env} {h:Heap} {ty:TypeId}
theorem jB {n:Int} (h1 : -9223372036854775808 ≤ n) (h2:n ≤ 9223372036854775807):IntKind.i64.wrap n = n:=IntWalk.i64_in _ ⟨h1,h2⟩
theorem y_move {x:Operand} {v:Value} (hx:ev s x = v:=by (simp only [ev,aH,reduceIte,Nat.reduceEqDiff,reduceCtorEq] <;> rfl)):Y P s h (.move x) ty v:=fun _ _ _ _ _ _=>by simp [execOp,hx]
theorem aC {x:Operand} {v:Value} (hx:ev s x = v:=by (simp only [ev,aH,reduceIte,Nat.reduceEqDiff,reduceCtorEq] <;> rfl)):Y P s h (.assign x) ty v:=fun _ _ _ _ _ _=>by simp [execOp,hx]
theorem aCz {c a b:Operand} {t:Bool} {v:Value} (h1:t = true → ev s a = v) (h2:t = false → ev s b = v) (hc:ev s c = .bool t:=by (simp only [ev,aH,reduceIte,Nat.reduceEqDiff,reduceCtorEq] <;> rfl)):Y P s h (.pick c a b) ty v:=fun _ _ _ _ _ _=>by
  cases t <;> simp_all [execOp,asBool]
theorem aL {x:Operand} {i:Nat} {vs:Array Value} {v:Value} (hx:ev s x = .tuple vs:=by (simp only [ev,aH,reduceIte,Nat.reduceEqDiff,reduceCtorEq] <;> rfl)) (hv:vs[i]? = some v:=by rfl):Y P s h (.extract x i) ty v:=fun _ _ _ _ _ _=>by
  simp [execOp,hx,Instr.extract,hv]
theorem dG {x:Operand} {t xt:TypeId} {b:Bool} (hx:ev s x = .bool b:=by (simp only [ev,aH,reduceIte,Nat.reduceEqDiff,reduceCtorEq] <;> rfl)):Y P s h (.unOp .not t x) xt (.bool !b):=fun _ _ _ _ _ _=>by
  simp [execOp,hx,Op.unary]
theorem aBr {x:Operand} {t xt:TypeId} {n:Int} (hx:ev s x = vi n:=by (simp only [ev,aH,reduceIte,Nat.reduceEqDiff,reduceCtorEq] <;> rfl)) (h1 : -9223372036854775808 ≤ 0 - n:=by omega) (h2:0 - n ≤ 9223372036854775807:=by omega):Y P s h (.unOp .neg t x) xt (vi (-n)):=fun _ _ _ _ _ _=>by
  simp [execOp,hx,Op.unary,Op.intArith]
  exact IntWalk.i64_in _ (by omega)
section ints
variable {x y:Operand} {t yt:TypeId} {k:IntKind} {a b:Int}
theorem dB (hx:ev s x = .int k a:=by (simp only [ev,aH,reduceIte,Nat.reduceEqDiff,reduceCtorEq] <;> rfl)) (hy:ev s y = .int k b:=by (simp only [ev,aH,reduceIte,Nat.reduceEqDiff,reduceCtorEq] <;> rfl)):Y P s h (.binOp .lss t x y yt) ty (.bool (decide (a < b))):=fun _ _ _ _ _ _=>by
  simp [execOp,hx,hy,eqGuard,binOp,Op.intCmp]
theorem y_leq (hx:ev s x = .int k a:=by (simp only [ev,aH,reduceIte,Nat.reduceEqDiff,reduceCtorEq] <;> rfl)) (hy:ev s y = .int k b:=by (simp only [ev,aH,reduceIte,Nat.reduceEqDiff,reduceCtorEq] <;> rfl)):Y P s h (.binOp .leq t x y yt) ty (.bool (decide (a ≤ b))):=fun _ _ _ _ _ _=>by
  simp [execOp,hx,hy,eqGuard,binOp,Op.intCmp]
theorem cU (hx:ev s x = .int k a:=by (simp only [ev,aH,reduceIte,Nat.reduceEqDiff,reduceCtorEq] <;> rfl)) (hy:ev s y = .int k b:=by (simp only [ev,aH,reduceIte,Nat.reduceEqDiff,reduceCtorEq] <;> rfl)):Y P s h (.binOp .gtr t x y yt) ty (.bool (decide (b < a))):=fun _ _ _ _ _ _=>by
  simp [execOp,hx,hy,eqGuard,binOp,Op.intCmp]
theorem y_geq (hx:ev s x = .int k a:=by (simp only [ev,aH,reduceIte,Nat.reduceEqDiff,reduceCtorEq] <;> rfl)) (hy:ev s y = .int k b:=by (simp only [ev,aH,reduceIte,Nat.reduceEqDiff,reduceCtorEq] <;> rfl)):Y P s h (.binOp .geq t x y yt) ty (.bool (decide (b ≤ a))):=fun _ _ _ _ _ _=>by
  simp [execOp,hx,hy,eqGuard,binOp,Op.intCmp]
theorem bM (hx:ev s x = .int k a:=by (simp only [ev,aH,reduceIte,Nat.reduceEqDiff,reduceCtorEq] <;> rfl)) (hy:ev s y = .int k b:=by (simp only [ev,aH,reduceIte,Nat.reduceEqDiff,reduceCtorEq] <;> rfl)):Y P s h (.binOp .eql t x y yt) ty (.bool (decide (a = b))):=fun _ _ _ _ _ _=>by
  simp [execOp,hx,hy,eqGuard,binOp,Op.intCmp,qT]
theorem fS (hx:ev s x = .int k a:=by (simp only [ev,aH,reduceIte,Nat.reduceEqDiff,reduceCtorEq] <;> rfl)) (hy:ev s y = .int k b:=by (simp only [ev,aH,reduceIte,Nat.reduceEqDiff,reduceCtorEq] <;> rfl)):Y P s h (.binOp .neq t x y yt) ty (.bool (!decide (a = b))):=fun _ _ _ _ _ _=>by
  simp [execOp,hx,hy,eqGuard,binOp,Op.intCmp,bne,qT]
theorem bI (hx:ev s x = .int k a:=by (simp only [ev,aH,reduceIte,Nat.reduceEqDiff,reduceCtorEq] <;> rfl)) (hy:ev s y = .int k b:=by (simp only [ev,aH,reduceIte,Nat.reduceEqDiff,reduceCtorEq] <;> rfl)) (hw:k.wrap (a + b) = a + b:=by exact jB (by omega) (by omega)):Y P s h (.binOp .add t x y yt) ty (.int k (a + b)):=fun _ _ _ _ _ _=>by
  simp [execOp,hx,hy,eqGuard,binOp,Op.intArith,hw]
theorem dQ (hx:ev s x = .int k a:=by (simp only [ev,aH,reduceIte,Nat.reduceEqDiff,reduceCtorEq] <;> rfl)) (hy:ev s y = .int k b:=by (simp only [ev,aH,reduceIte,Nat.reduceEqDiff,reduceCtorEq] <;> rfl)) (hw:k.wrap (a - b) = a - b:=by exact jB (by omega) (by omega)):Y P s h (.binOp .sub t x y yt) ty (.int k (a - b)):=fun _ _ _ _ _ _=>by
  simp [execOp,hx,hy,eqGuard,binOp,Op.intArith,hw]
theorem hG (hx:ev s x = .int k a:=by (simp only [ev,aH,reduceIte,Nat.reduceEqDiff,reduceCtorEq] <;> rfl)) (hy:ev s y = .int k b:=by (simp only [ev,aH,reduceIte,Nat.reduceEqDiff,reduceCtorEq] <;> rfl)) (hw:k.wrap (a * b) = a * b:=by exact jB (by omega) (by omega)):Y P s h (.binOp .mul t x y yt) ty (.int k (a * b)):=fun _ _ _ _ _ _=>by
  simp [execOp,hx,hy,eqGuard,binOp,Op.intArith,hw]
theorem y_quo (hx:ev s x = .int k a:=by (simp only [ev,aH,reduceIte,Nat.reduceEqDiff,reduceCtorEq] <;> rfl)) (hy:ev s y = .int k b:=by (simp only [ev,aH,reduceIte,Nat.reduceEqDiff,reduceCtorEq] <;> rfl)) (hb:b ≠ 0:=by omega):Y P s h (.binOp .quo t x y yt) ty (.int k (k.wrap (a.tdiv b))):=fun _ _ _ _ _ _=>by
  simp [execOp,hx,hy,eqGuard,binOp,Op.intDiv,hb]
theorem pE (hx:ev s x = .int k a:=by (simp only [ev,aH,reduceIte,Nat.reduceEqDiff,reduceCtorEq] <;> rfl)) (hy:ev s y = .int k b:=by (simp only [ev,aH,reduceIte,Nat.reduceEqDiff,reduceCtorEq] <;> rfl)) (hb:b ≠ 0:=by omega):Y P s h (.binOp .rem t x y yt) ty (.int k (a.tmod b)):=fun _ _ _ _ _ _=>by
  simp [execOp,hx,hy,eqGuard,binOp,Op.intDiv,hb]
end ints
section strings
variable {x y:Operand} {t yt:TypeId} {a b:Str}
theorem y_seql (hx:ev s x = vs a:=by (simp only [ev,aH,reduceIte,Nat.reduceEqDiff,reduceCtorEq] <;> rfl)) (hy:ev s y = vs b:=by (simp only [ev,aH,reduceIte,Nat.reduceEqDiff,reduceCtorEq] <;> rfl)):Y P s h (.binOp .eql t x y yt) ty (.bool (decide (a = b))):=fun _ _ _ _ _ _=>by
  simp [execOp,hx,hy,eqGuard,binOp,Op.stringOp,mD,qT]
theorem jO (hx:ev s x = vs a:=by (simp only [ev,aH,reduceIte,Nat.reduceEqDiff,reduceCtorEq] <;> rfl)) (hy:ev s y = vs b:=by (simp only [ev,aH,reduceIte,Nat.reduceEqDiff,reduceCtorEq] <;> rfl)):Y P s h (.binOp .neq t x y yt) ty (.bool (!decide (a = b))):=fun _ _ _ _ _ _=>by
  simp [execOp,hx,hy,eqGuard,binOp,Op.stringOp,mD,qT]
theorem aAF (hx:ev s x = vs a:=by (simp only [ev,aH,reduceIte,Nat.reduceEqDiff,reduceCtorEq] <;> rfl)) (hy:ev s y = vs b:=by (simp only [ev,aH,reduceIte,Nat.reduceEqDiff,reduceCtorEq] <;> rfl)):Y P s h (.binOp .lss t x y yt) ty (.bool (Op.bytesLess a b)):=fun _ _ _ _ _ _=>by
  simp [execOp,hx,hy,eqGuard,binOp,Op.stringOp,mD]
theorem rA (hx:ev s x = vs a:=by (simp only [ev,aH,reduceIte,Nat.reduceEqDiff,reduceCtorEq] <;> rfl)) (hy:ev s y = vs b:=by (simp only [ev,aH,reduceIte,Nat.reduceEqDiff,reduceCtorEq] <;> rfl)):Y P s h (.binOp .geq t x y yt) ty (.bool (!Op.bytesLess a b)):=fun _ _ _ _ _ _=>by
  simp [execOp,hx,hy,eqGuard,binOp,Op.stringOp,mD]
theorem aAG (hx:ev s x = vs a:=by (simp only [ev,aH,reduceIte,Nat.reduceEqDiff,reduceCtorEq] <;> rfl)) (hy:ev s y = vs b:=by (simp only [ev,aH,reduceIte,Nat.reduceEqDiff,reduceCtorEq] <;> rfl)):Y P s h (.binOp .leq t x y yt) ty (.bool (Op.bytesLess a b || decide (a = b))):=fun _ _ _ _ _ _=>by
  simp [execOp,hx,hy,eqGuard,binOp,Op.stringOp,mD,qT]
theorem dX (hx:ev s x = vs a:=by (simp only [ev,aH,reduceIte,Nat.reduceEqDiff,reduceCtorEq] <;> rfl)) (hy:ev s y = vs b:=by (simp only [ev,aH,reduceIte,Nat.reduceEqDiff,reduceCtorEq] <;> rfl)) (hl:a.length + b.length ≤ 9223372036854775807:=by first | omega | (simp only [List.length_append,List.length_cons,List.length_nil,List.length_take,List.length_drop]; omega)):Y P s h (.binOp .add t x y yt) ty (vs (a ++ b)):=fun _ _ _ _ _ _=>by
  have hn:¬ (((a.length + b.length:Nat):Int) > IntKind.i64.max):=by
    have:IntKind.i64.max = 9223372036854775807:=by decide
    rw [this]; omega
  have he:(⟨a.toArray⟩:ByteArray) ++ ⟨b.toArray⟩ = ⟨(a ++ b).toArray⟩:=by
    apply ByteArray.ext; simp
  simp only [execOp,hx,hy,eqGuard,binOp,Op.stringOp,kN,hn,he,if_false]
  simp
theorem y_len_str [ht:sN P t] (hx:ev s x = vs a:=by (simp only [ev,aH,reduceIte,Nat.reduceEqDiff,reduceCtorEq] <;> rfl)):Y P s h (.call { callee:=.builtin .len,args:=#[x],argTypes:=#[t] }) ty (vi a.length):=fun _ _ _ _ _ _=>by
  simp [execOp,resolve,invoke,builtin,Builtin.len_,hx,ht.h,run_underlying,goInt,kN]
theorem cL [ht:sN P t] {k:IntKind} {i:Int} {c:UInt8} (hc:a[i.toNat]? = some c) (hx:ev s x = vs a:=by (simp only [ev,aH,reduceIte,Nat.reduceEqDiff,reduceCtorEq] <;> rfl)) (hy:ev s y = .int k i:=by (simp only [ev,aH,reduceIte,Nat.reduceEqDiff,reduceCtorEq] <;> rfl)) (hi:0 ≤ i:=by omega):Y P s h (.index t x y) ty (.int .u8 c.toNat):=fun _ _ _ _ _ _=>by
  have hg:(⟨a.toArray⟩:ByteArray)[i.toNat]? = some c:=by
    have hlt:=(List.getElem?_eq_some_iff.1 hc).1
    rw [getElem?_pos (h:=by rw [kN]; exact hlt)]
    have:=(List.getElem?_eq_some_iff.1 hc).2
    refine congrArg some ?_
    show a.toArray[i.toNat] = c
    simpa using this
  simp [execOp,Instr.index,hx,hy,ht.h,run_underlying,asIntOf,hi,hg]
end strings
section reads
variable {x y:Operand} {t e:TypeId}
theorem kB {A:Option Addr} {n c:Nat} [ht:fA P t e] (hx:ev s x = .slice A n c:=by (simp only [ev,aH,reduceIte,Nat.reduceEqDiff,reduceCtorEq] <;> rfl)):Y P s h (.call { callee:=.builtin .len,args:=#[x],argTypes:=#[t] }) ty (vi n):=fun _ _ _ _ _ _=>by
  simp [execOp,resolve,invoke,builtin,Builtin.len_,hx,ht.h,run_underlying,goInt]
theorem rQ {a:Addr} {n c sz:Nat} {k:IntKind} {i:Int} [ht:fA P t e] [hz:eG P e sz] (hx:ev s x = .slice (some a) n c:=by (simp only [ev,aH,reduceIte,Nat.reduceEqDiff,reduceCtorEq] <;> rfl)) (hy:ev s y = .int k i:=by (simp only [ev,aH,reduceIte,Nat.reduceEqDiff,reduceCtorEq] <;> rfl)) (h0:0 ≤ i) (h1:i < n) :
    Y P s h (.indexAddr t x y) ty (.pointer (some (a.add (i.toNat * sz)))):=fun _ _ _ _ _ _=>by
  obtain ⟨info,hi,hs⟩:=Option.map_eq_some_iff.1 hz.h
  simp [execOp,Instr.indexAt,hx,hy,ht.h,run_underlying,asIntOf,h0,h1,sizeOf,typeInfo,hi,hs]
class dP (P:Program) (t:TypeId) (i:Nat) (off:outParam Nat):Prop where
  h:∃ fs f,P.underlying t = some (.struct fs)∧fs[i]? = some f∧f.offset = off∧∃ n,(P.info? f.type).map (·.size) = some n∧n ≠ 0
theorem y_fieldAddr {a:Addr} {i off:Nat} [hf:dP P t i off] (hx:ev s x = .pointer (some a):=by (simp only [ev,aH,reduceIte,Nat.reduceEqDiff,reduceCtorEq] <;> rfl)) :
    Y P s h (.fieldAddr t x i) ty (.pointer (some (a.add off))):=fun _ _ _ _ _ _=>by
  obtain ⟨fs,f,h1,h2,rfl,n,h3,h4⟩:=hf.h
  obtain ⟨info,hi,hs⟩:=Option.map_eq_some_iff.1 h3
  have hne:¬ info.size = 0:=by rw [hs]; exact h4
  simp [execOp,Instr.fieldAt,hx,h1,run_underlying,h2,Instr.sureAddr,fieldPlace,sizeOf,typeInfo,hi,hne]
end reads
end
end
section
open Go.Conc
def Mod (S:Nat → Prop) (h h' : Heap):Prop:=h.size ≤ h'.size∧∀ b,b < h.size → ¬ S b → h'[b]? = h[b]?
def Le (h h' : Heap):Prop:=h.size ≤ h'.size∧∀ b,b < h.size → h'[b]? = h[b]?
theorem Le.refl (h:Heap):Le h h:=⟨Nat.le_refl _,fun _ _=>rfl⟩
theorem Le.trans {a b c:Heap} (h:Le a b) (k:Le b c):Le a c:=⟨Nat.le_trans h.1 k.1,fun x hx=>(k.2 x (Nat.lt_of_lt_of_le hx h.1)).trans (h.2 x hx)⟩
theorem Le.mod {S:Nat → Prop} {h h' : Heap} (k:Le h h'):Mod S h h':=⟨k.1,fun b hb _=>k.2 b hb⟩
theorem Mod.refl {S:Nat → Prop} (h:Heap):Mod S h h:=⟨Nat.le_refl _,fun _ _ _=>rfl⟩
theorem Mod.trans {S:Nat → Prop} {a b c:Heap} (h:Mod S a b) (k:Mod S b c):Mod S a c:=⟨Nat.le_trans h.1 k.1,fun x hx hs=>(k.2 x (Nat.lt_of_lt_of_le hx h.1) hs).trans (h.2 x hx hs)⟩
theorem Mod.mono {S S' : Nat → Prop} {h h' : Heap} (k:Mod S h h') (hs:∀ b,b < h.size → S b → S' b):Mod S' h h':=⟨k.1,fun b hb hn=>k.2 b hb fun hS=>hn (hs b hb hS)⟩
theorem Mod.after {S:Nat → Prop} {a b c:Heap} (h:Le a b) (k:Mod S b c) (hs:∀ x,S x → a.size ≤ x):Le a c :=
  ⟨Nat.le_trans h.1 k.1,fun x hx=>(k.2 x (Nat.lt_of_lt_of_le hx h.1) fun hS=>by have:=hs x hS; omega).trans (h.2 x hx)⟩
theorem mW (h:Heap) (o:Obj):Le h (h.push o):=⟨by simp,fun b hb=>by rw [Array.getElem?_push_lt hb]; simp [hb]⟩
def Blk (h:Heap) (b:Nat) (cs:List Value) (T:TypeId):Prop:=h[b]? = some (.cells cs.toArray T (0,0))
theorem Blk.lt {h:Heap} {b:Nat} {cs:List Value} {T:TypeId} (k:Blk h b cs T):b < h.size:=by
  rcases Nat.lt_or_ge b h.size with hb | hb
  · exact hb
  · unfold Blk at k; rw [Array.getElem?_eq_none hb] at k; cases k
theorem Blk.le {h h' : Heap} {b:Nat} {cs:List Value} {T:TypeId} (k:Blk h b cs T) (hl:Le h h'):Blk h' b cs T:=(hl.2 b k.lt).trans k
theorem Blk.mod {S:Nat → Prop} {h h' : Heap} {b:Nat} {cs:List Value} {T:TypeId} (k:Blk h b cs T) (hm:Mod S h h') (hs:¬ S b):Blk h' b cs T:=(hm.2 b k.lt hs).trans k
theorem Blk.at {h:Heap} {b off:Nat} {cs:List Value} {T:TypeId} {a:Addr} {v:Value} (k:Blk h b cs T) (ha:a = ⟨b,off,none⟩) (hv:cs[off]? = some v):hcell h a = some v:=by
  subst ha
  unfold hcell
  rw [show h[(⟨b,off,none⟩:Addr).block]? = _ from k]
  simpa using hv
theorem Blk.new (h:Heap) (cs:List Value) (T:TypeId):Blk (h.push (.cells cs.toArray T (0,0))) h.size cs T:=by simp [Blk]
theorem aAf {h:Heap} {a:Addr} {v:Value} (k:hcell h a = some v):a.block < h.size:=by
  rcases Nat.lt_or_ge a.block h.size with hb | hb
  · exact hb
  · unfold hcell at k; rw [Array.getElem?_eq_none hb] at k; cases k
theorem aDe {h h' : Heap} {a:Addr} (hb:h'[a.block]? = h[a.block]?):hcell h' a = hcell h a:=by unfold hcell; rw [hb]
theorem aCj {S:Nat → Prop} {h h' : Heap} {a:Addr} {v:Value} (hm:Mod S h h') (hs:¬ S a.block) (k:hcell h a = some v):hcell h' a = some v:=(aDe (hm.2 _ (aAf k) hs)).trans k
theorem mN (a:Addr) (n:Nat):(a.add n).block = a.block:=by unfold Addr.add; split <;> rfl
theorem jZ (a:Addr) (i j:Nat):(a.add i).add j = a.add (i + j):=by
  unfold Addr.add
  by_cases hi:i = 0 <;> by_cases hj:j = 0 <;> simp [hi,hj,Nat.add_assoc]
class Flat (α:Type) where
  n:Nat
  enc:α → List Value
  len:∀ x,(enc x).length = n
  pos:0 < n
instance :Flat Int:=⟨1,fun x=>[vi x],fun _=>rfl,by decide⟩
instance :Flat Str:=⟨1,fun x=>[vs x],fun _=>rfl,by decide⟩
instance :Flat UInt8:=⟨1,fun x=>[.int .u8 x.toNat],fun _=>rfl,by decide⟩
def elA (v:Value) (off:Nat):Addr:=match v with | .slice (some a) _ _=>a.add off | _=>default
def RdF {α:Type} [Flat α] (h:Heap) (X:Nat → Prop) (v:Value) (l:List α):Prop :=
  ∃ (A:Option Addr) (cap:Nat),v = .slice A l.length cap∧l.length ≤ cap∧cap ≤ maxLen ∧
    ∀ (i:Nat) (x:α),l[i]? = some x → ∃ a,A = some a∧X a.block∧∀ (j:Nat) (u:Value),(Flat.enc x)[j]? = some u → hcell h ((a.add (i * Flat.n α)).add j) = some u
section
variable {α:Type} [Flat α] {h h' : Heap} {X:Nat → Prop} {v:Value} {l:List α}
theorem RdF.nil (h:Heap) (X:Nat → Prop):RdF h X (.slice none 0 0) ([]:List α):=⟨none,0,rfl,Nat.le_refl _,Nat.zero_le _,fun i x hx=>by simp at hx⟩
theorem RdF.form (k:RdF h X v l):∃ (A:Option Addr) (cap:Nat),v = .slice A l.length cap:=by obtain ⟨A,cap,h1,_⟩:=k; exact ⟨A,cap,h1⟩
theorem RdF.mod {S:Nat → Prop} (k:RdF h X v l) (hm:Mod S h h') (hs:∀ b,X b → ¬ S b):RdF h' X v l:=by
  obtain ⟨A,cap,h1,h2,h3,h4⟩:=k
  exact ⟨A,cap,h1,h2,h3,fun i x hx=>by obtain ⟨a,e,hX,hc⟩:=h4 i x hx; exact ⟨a,e,hX,fun j u hu=>aCj hm (by rw [mN,mN]; exact hs _ hX) (hc j u hu)⟩⟩
theorem RdF.weak {Y:Nat → Prop} (k:RdF h X v l) (hs:∀ b,X b → Y b):RdF h Y v l:=by
  obtain ⟨A,cap,h1,h2,h3,h4⟩:=k
  exact ⟨A,cap,h1,h2,h3,fun i x hx=>by obtain ⟨a,e,hX,hc⟩:=h4 i x hx; exact ⟨a,e,hs _ hX,hc⟩⟩
theorem RdF.cell (k:RdF h X v l) {i j:Nat} {x:α} {u:Value} (hi:l[i]? = some x) (hj:(Flat.enc x)[j]? = some u):hcell h ((elA v (i * Flat.n α)).add j) = some u:=by
  obtain ⟨A,cap,rfl,h2,h3,h4⟩:=k
  obtain ⟨a,rfl,hX,hc⟩:=h4 i x hi
  exact hc j u hj
theorem RdF.take (k:RdF h X v l) {m:Nat} (hm:m ≤ l.length):∃ A cap,v = .slice A l.length cap∧RdF h X (.slice A m cap) (l.take m):=by
  obtain ⟨A,cap,h1,h2,h3,h4⟩:=k
  refine ⟨A,cap,h1,A,cap,by rw [List.length_take,Nat.min_eq_left hm],by rw [List.length_take]; omega,h3,fun i x hx=>h4 i x ?_⟩
  rw [List.getElem?_take] at hx
  split at hx
  · exact hx
  · cases hx
theorem RdF.drop (k:RdF h X v l) {m:Nat} (hm:m ≤ l.length):∃ A cap,v = .slice A l.length cap∧RdF h X (.slice (if cap = m then A else A.map (·.add (m * Flat.n α))) (l.length - m) (cap - m)) (l.drop m):=by
  obtain ⟨A,cap,h1,h2,h3,h4⟩:=k
  refine ⟨A,cap,h1,_,cap - m,by rw [List.length_drop],by rw [List.length_drop]; omega,by omega,fun i x hx=>?_⟩
  rw [List.getElem?_drop] at hx
  obtain ⟨a,rfl,hX,hc⟩:=h4 _ x hx
  have hlt:=(List.getElem?_eq_some_iff.1 hx).1
  rw [if_neg (by omega)]
  refine ⟨a.add (m * Flat.n α),rfl,by rw [mN]; exact hX,fun j u hu=>?_⟩
  rw [jZ a,show m * Flat.n α + i * Flat.n α = (m + i) * Flat.n α by rw [Nat.add_mul]]
  exact hc j u hu
end
section
variable {P:Program} {J:eM P} {s:Env} {h:Heap} {ty:TypeId} {x y:Operand} {t e:TypeId}
def oneT (P:Program) (t:TypeId):Bool:=match P.underlying t with | some (.struct _) | some (.array _ _) | none=>false | _=>true
theorem lU {t:TypeId} (ht:oneT P t = true) (w:World):(isAgg t).run P w = .ok false w:=by
  unfold oneT at ht
  cases hu:P.underlying t with
  | none=>simp [hu] at ht
  | some d=>rw [hu] at ht; cases d <;> simp [isAgg,run_underlying hu] at ht ⊢
def aggT (P:Program) (t:TypeId) (n:Nat):Bool:=(match P.underlying t with | some (.struct _) | some (.array _ _)=>true | _=>false) && (P.info? t).map (·.size) == some n
theorem wZ {t:TypeId} {n:Nat} (ht:aggT P t n = true):(∀ w,(isAgg t).run P w = .ok true w)∧∃ i,P.info? t = some i∧i.size = n:=by
  simp only [aggT,Bool.and_eq_true,beq_iff_eq] at ht
  refine ⟨fun w=>?_,Option.map_eq_some_iff.1 ht.2⟩
  have h1:=ht.1
  cases hu:P.underlying t with
  | none=>simp [hu] at h1
  | some d=>rw [hu] at h1; cases d <;> simp [isAgg,run_underlying hu] at h1 ⊢
class rN (P:Program) (t:TypeId):Prop where h:oneT P t = true
class oO (P:Program) (t:TypeId) (n:outParam Nat):Prop where h:aggT P t n = true
theorem y_load {a:Addr} {v:Value} [ht:rN P t] (hc:hcell h a = some v) (hx:ev s x = .pointer (some a):=by (simp only [ev,aH,reduceIte,Nat.reduceEqDiff,reduceCtorEq] <;> rfl)):Y P s h (.load t x) ty v:=by
  intro ps af g d w hh
  have hc' : w.cell? a = some v:=by rw [eR,hh]; exact hc
  simp [execOp,hx,Instr.loadAt,loadVar,Instr.sureAddr,lU ht.h,hc',Event.mute]
theorem gG {a:Addr} {w:World}:∀ (n i:Nat) (cs:List Value) (acc:Array Value),cs.length = n → (∀ j v,cs[j]? = some v → w.cell? (a.add (i + j)) = some v) →
    (loadCellsFrom a i n acc).run P w = .ok (acc ++ cs.toArray) w∧∀ es:Array Event,(∀ e ∈ es,e.mute = false∧e.write = false) → ∀ e ∈ (loadCellsFrom a i n acc).events P w es,e.mute = false∧e.write = false
  | 0,i,cs,acc,hl,hc=>by
    obtain rfl:=List.length_eq_zero_iff.1 hl
    simp [loadCellsFrom]
  | n + 1,i,[],acc,hl,hc=>by simp at hl
  | n + 1,i,v :: cs,acc,hl,hc=>by
    have h0:=hc 0 v rfl
    obtain ⟨r1,r2⟩:=gG (a:=a) (w:=w) n (i + 1) cs (acc.push v) (by simpa using hl) fun j u hu=>by
      rw [show i + 1 + j = i + (j + 1) by omega]; exact hc (j + 1) u hu
    simp only [Nat.add_zero] at h0
    refine ⟨?_,fun es hes=>?_⟩
    · simp [loadCellsFrom,h0,r1]
    · simp only [loadCellsFrom,Sem.events_bind,run_load,h0,events_load]
      refine r2 _ fun e he=>?_
      rcases Array.mem_push.1 he with h' | rfl
      · exact hes e h'
      · simp [Event.mute]
theorem sP {a:Addr} {n:Nat} {cs:List Value} [ht:oO P t n] (hl:cs.length = n) (hc:∀ j v,cs[j]? = some v → hcell h (a.add j) = some v) (hx:ev s x = .pointer (some a):=by (simp only [ev,aH,reduceIte,Nat.reduceEqDiff,reduceCtorEq] <;> rfl)):Y P s h (.load t x) ty (.agg cs.toArray):=by
  intro ps af g d w hh
  obtain ⟨h1,i,hi,hz⟩:=wZ ht.h
  obtain ⟨r1,r2⟩:=gG (P:=P) (a:=a) (w:=w) n 0 cs #[] hl fun j v hj=>by rw [Nat.zero_add,eR,hh]; exact hc j v hj
  have hs:(sizeOf t).run P w = .ok n w:=by simp [sizeOf,typeInfo,hi,hz]
  refine ⟨?_,fun e he=>?_⟩
  · simp [execOp,hx,Instr.loadAt,loadVar,Instr.sureAddr,h1,hs,loadCells,r1]
  · simp [execOp,hx,Instr.loadAt,loadVar,Instr.sureAddr,h1,hs,loadCells] at he
    exact r2 #[] (by simp) e he
theorem qG {t:TypeId} {z:Value} (hz:(P.info? t).bind (·.zero) = some z) (w:World):(zeroValue t).run P w = .ok z w:=by
  obtain ⟨i,hi,hz⟩:=Option.bind_eq_some_iff.1 hz
  simp [zeroValue,typeInfo,hi,hz]
def uS (h:Heap) (cs:List Value) (T:TypeId) (v:Value) (h' : Heap):Prop:=∃ b,v = .pointer (some ⟨b,0,none⟩)∧b = h.size∧h'.size = h.size + 1∧Le h h' ∧ Blk h' b cs T
theorem rZ (h:Heap) (cs:List Value) (T:TypeId):uS h cs T (.pointer (some ⟨h.size,0,none⟩)) (h.push (.cells cs.toArray T (0,0))):=⟨h.size,rfl,rfl,by simp,mW h _,Blk.new h cs T⟩
theorem cW {cs:List Value} {v:Value} (hx:ev s x = v:=by (simp only [ev,aH,reduceIte,Nat.reduceEqDiff,reduceCtorEq] <;> rfl)) (hv:v.cells = cs.toArray:=by rfl):E J s h (.box t x) ty (uS h cs t):=by
  intro ps af g d w hh
  subst hh
  refine ⟨_,{ w with heap:=w.heap.push (.cells cs.toArray t (0,0)) },.inl ?_,⟨rfl,rfl,rfl⟩,?_,rZ w.heap cs t⟩
  · simp [execOp,Instr.box,newVar,newRow,hx,hv]
  · simp [execOp,Instr.box,newVar,newRow]
class hI (P:Program) (t:TypeId) (cs:outParam (List Value)):Prop where h:∃ z,(P.info? t).bind (·.zero) = some z∧z.cells = cs.toArray
theorem aY {cs:List Value} [hzt:hI P t cs]:E J s h (.alloc t) ty (uS h cs t):=by
  intro ps af g d w hh
  subst hh
  obtain ⟨z,hz,hv⟩:=hzt.h
  refine ⟨_,{ w with heap:=w.heap.push (.cells cs.toArray t (0,0)) },.inl ?_,⟨rfl,rfl,rfl⟩,?_,rZ w.heap cs t⟩
  · simp [execOp,Instr.alloc,newVar,newRow,qG hz,hv]
  · simp [execOp,Instr.alloc,newVar,newRow,qG hz]
def fQ (h:Heap) (b:Nat) (cs:List Value) (T:TypeId) (h' : Heap):Prop:=h'.size = h.size∧Mod (· = b) h h' ∧ Blk h' b cs T
theorem xM {w:World} {b off:Nat} {cs:List Value} {T:TypeId} {v:Value} (hb:Blk w.heap b cs T):fQ w.heap b (cs.set off v) T (w.setCell ⟨b,off,none⟩ v).heap:=by
  have e:(w.setCell ⟨b,off,none⟩ v).heap = w.heap.setIfInBounds b (.cells (cs.set off v).toArray T (0,0)):=by
    unfold World.setCell
    apply Array.ext_getElem?
    intro i
    simp only [Array.getElem?_modify,Array.getElem?_setIfInBounds]
    by_cases hi:b = i
    · subst hi
      have:=hb.lt
      rw [if_pos rfl,if_pos rfl,if_pos this,show w.heap[b]? = _ from hb]
      simp
    · rw [if_neg hi,if_neg hi]
  rw [e]
  refine ⟨by simp,⟨by simp,fun i _ hi=>?_⟩,?_⟩
  · rw [Array.getElem?_setIfInBounds,if_neg fun hb=>hi hb.symm]
  · unfold Blk; rw [Array.getElem?_setIfInBounds,if_pos rfl,if_pos hb.lt]
theorem gN {b off:Nat} {T:TypeId}:∀ (vs:List Value) (i:Nat) (w:World) (cs:List Value),Blk w.heap b cs T → off + i + vs.length ≤ cs.length → (∀ v ∈ vs,v.oneCell' = true) →
    ∃ w',(storeCells ⟨b,off,none⟩ vs i).run P w = .ok () w' ∧ fY w w' ∧ fQ w.heap b (cs.take (off + i) ++ vs ++ cs.drop (off + i + vs.length)) T w'.heap ∧
      ∀ es:Array Event,(∀ e ∈ es,e.mute = false) → ∀ e ∈ (storeCells ⟨b,off,none⟩ vs i).events P w es,e.mute = false
  | [],i,w,cs,hb,hl,hv=>by
    refine ⟨w,by simp [storeCells],⟨rfl,rfl,rfl⟩,⟨rfl,Mod.refl _,?_⟩,fun es hes e he=>hes e (by simpa [storeCells] using he)⟩
    have:cs.take (off + i) ++ [] ++ cs.drop (off + i + ([]:List Value).length) = cs:=by simp
    rw [this]; exact hb
  | v :: vs,i,w,cs,hb,hl,hv=>by
    have hadd:(⟨b,off,none⟩:Addr).add i = ⟨b,off + i,none⟩:=by
      unfold Addr.add; split
      · rename_i h; subst h; rfl
      · rfl
    have hlt:off + i < cs.length:=by simp at hl; omega
    have hcell:w.cell? ⟨b,off + i,none⟩ = some cs[off + i]:=by
      rw [eR]; exact hb.at rfl (List.getElem?_eq_getElem hlt)
    have hfr:w.frozen? ⟨b,off + i,none⟩ = false:=by
      unfold World.frozen?
      rw [show w.heap[(⟨b,off + i,none⟩:Addr).block]? = _ from hb]
      simp
    obtain ⟨z1,z2,z3⟩:=xM (off:=off + i) (v:=v) hb
    obtain ⟨w',r1,r2,⟨q1,q2,q3⟩,r4⟩:=gN (off:=off) vs (i + 1) (w.setCell ⟨b,off + i,none⟩ v) (cs.set (off + i) v) z3 (by simp at hl ⊢; omega) fun u hu=>hv u (List.mem_cons_of_mem _ hu)
    have h1:v.oneCell' = true:=hv v List.mem_cons_self
    refine ⟨w',?_,⟨r2.os,r2.output,r2.tape⟩,⟨q1.trans z1,z2.trans q2,?_⟩,?_⟩
    · simp only [storeCells,hadd]
      have:=run_store P w ⟨b,off + i,none⟩ v .plain h1
      simp [this,hcell,hfr,r1]
    · have:cs.take (off + i) ++ v :: vs ++ cs.drop (off + i + (v :: vs).length) = (cs.set (off + i) v).take (off + (i + 1)) ++ vs ++ (cs.set (off + i) v).drop (off + (i + 1) + vs.length):=by
        rw [List.take_set,List.drop_set,show off + (i + 1) = off + i + 1 by omega,List.take_succ_eq_append_getElem hlt,if_pos (by omega)]
        rw [List.set_append_right _ _ (by simp; omega)]
        simp [Nat.min_eq_left (Nat.le_of_lt hlt),Nat.add_assoc,Nat.add_comm 1]
        <;> omega
      rw [this]; exact q3
    · intro es hes e he
      simp only [storeCells,hadd,Sem.events_bind] at he
      have:=run_store P w ⟨b,off + i,none⟩ v .plain h1
      rw [this] at he
      simp only [hcell,hfr] at he
      refine r4 _ ?_ e (by simpa using he)
      intro e' he'
      rw [events_store (a:=⟨b,off + i,none⟩) (v:=v) (m:=.plain) (hv:=h1)] at he'
      simp only [hcell,hfr] at he'
      rcases Array.mem_push.1 (by simpa using he') with h' | rfl
      · exact hes e' h'
      · rfl
theorem oT {t:TypeId} {k:Nat} {w:World} (hz:(P.info? t).map (·.size) = some k):(sizeOf t).run P w = .ok k w:=by
  obtain ⟨i,hi,hz⟩:=Option.map_eq_some_iff.1 hz
  simp [sizeOf,typeInfo,hi,hz]
theorem aK (hJ:∀ l,J.wr l) {b off n:Nat} {cs us:List Value} {T:TypeId} {v:Value} {p:Addr} [hz:eG P t n] (hb:Blk h b cs T) (hp:p = ⟨b,off,none⟩:=by rfl) (hx:ev s x = .pointer (some p):=by (simp only [ev,aH,reduceIte,Nat.reduceEqDiff,reduceCtorEq] <;> rfl)) (hy:ev s y = v:=by (simp only [ev,aH,reduceIte,Nat.reduceEqDiff,reduceCtorEq] <;> rfl)) (hv:v.cells = us.toArray:=by rfl) (hn:us.length = n:=by rfl)
    (ho:us.all (·.oneCell') = true:=by rfl) (hl:Nat.ble (off + n) cs.length = true:=by rfl):E J s h (.store t x y) ty (fun u h'=>u = undef∧fQ h b (cs.take off ++ us ++ cs.drop (off + n)) T h'):=by
  intro ps af g d w hh
  subst hh
  subst hp
  have hl':=Nat.le_of_ble_eq_true hl
  obtain ⟨w',r1,r2,r3,r4⟩:=gN (P:=P) (off:=off) us 0 w cs hb (by omega) (by simpa using ho)
  refine ⟨undef,w',.inr ⟨?_,rfl⟩,r2,fun e he=>⟨?_,fun _=>hJ _⟩,rfl,by simpa [hn] using r3⟩
  · simp [execOp,Instr.storeAt,hx,hy,Instr.sureAddr,storeVar,oT hz.h,hv,hn,r1]
  · simp [execOp,Instr.storeAt,hx,hy,Instr.sureAddr,storeVar,oT hz.h,hv,hn] at he
    exact r4 #[] (by simp) e he
end
end
section
open Go.Conc
section
variable {P:Program} {J:eM P} {s:Env} {h:Heap} {ty:TypeId} {x y:Operand} {t e:TypeId}
def uN (P:Program) (f:FuncId):Bool:=match P.funcs[f]? with | some fn=>!(fn.name == "runtime.NumGoroutine") && fn.body.isSome | none=>false
class bS (P:Program) (f:FuncId):Prop where h:uN P f = true
theorem aDn {f:FuncId} {xz:List Operand} {ats:Array TypeId} [hf:bS P f] :
    Ent J s h (.call { callee:=.value (.func f),args:=xz.toArray,argTypes:=ats }) ty f (xz.map (ev s)).toArray:=by
  intro ps af g d w hh
  have hf:=hf.h
  unfold uN at hf
  cases hfn:P.funcs[f]? with
  | none=>simp [hfn] at hf
  | some fn =>
    simp only [hfn,Bool.and_eq_true,Bool.not_eq_true'] at hf
    have hne:¬ fn.name = "runtime.NumGoroutine":=by simpa using hf.1
    have hbn:¬ fn.body = none:=fun e=>by rw [e] at hf; simp at hf
    have e1:execOp (ev s) { dst:=d,op:=.call { callee:=.value (.func f),args:=xz.toArray,argTypes:=ats },type:=ty,pos:=ps,after:=af,guard:=g } = callFunc f (xz.map (ev s)).toArray:=by
      simp [execOp,resolve,Deferred.ofValue,ev,invoke]
    rw [e1]
    refine ⟨by simp [callFunc,hfn,hne,hbn],fun e he=>?_⟩
    simp [callFunc,hfn,hne,hbn] at he
theorem pX (l:Str) (a b:Nat):(⟨l.toArray⟩:ByteArray).extract a b = ⟨((l.take b).drop a).toArray⟩:=by
  apply ByteArray.ext
  simp [ByteArray.data_extract,List.extract,List.drop_take]
theorem hQ {l:Str} {lo:Int} {k:IntKind} {z:Operand} [ht:sN P t] (hx:ev s x = vs l:=by (simp only [ev,aH,reduceIte,Nat.reduceEqDiff,reduceCtorEq] <;> rfl)) (hz:ev s z = .int k lo:=by (simp only [ev,aH,reduceIte,Nat.reduceEqDiff,reduceCtorEq] <;> rfl)) (h0:0 ≤ lo:=by omega) (h1:lo ≤ l.length:=by omega):Y P s h (.slice t x (some z) none none) ty (vs (l.drop lo.toNat)):=fun _ _ _ _ _ _=>by
  simp [execOp,Instr.sliceAt,ht.h,run_underlying,hx,hz,Instr.slice,Instr.sliceBounds,Instr.sliceBound,asIntOf,h0,h1,kN,pX]
theorem iY {l:Str} {hi:Int} {k:IntKind} {z:Operand} [ht:sN P t] (hx:ev s x = vs l:=by (simp only [ev,aH,reduceIte,Nat.reduceEqDiff,reduceCtorEq] <;> rfl)) (hz:ev s z = .int k hi:=by (simp only [ev,aH,reduceIte,Nat.reduceEqDiff,reduceCtorEq] <;> rfl)) (h0:0 ≤ hi:=by omega) (h1:hi ≤ l.length:=by omega):Y P s h (.slice t x none (some z) none) ty (vs (l.take hi.toNat)):=fun _ _ _ _ _ _=>by
  simp [execOp,Instr.sliceAt,ht.h,run_underlying,hx,hz,Instr.slice,Instr.sliceBounds,Instr.sliceBound,asIntOf,h0,h1,kN,pX]
theorem yK {l:Str} {lo hi:Int} {k k' : IntKind} {z z' : Operand} [ht:sN P t] (hx:ev s x = vs l:=by (simp only [ev,aH,reduceIte,Nat.reduceEqDiff,reduceCtorEq] <;> rfl)) (hz:ev s z = .int k lo:=by (simp only [ev,aH,reduceIte,Nat.reduceEqDiff,reduceCtorEq] <;> rfl)) (hz' : ev s z' = .int k' hi:=by (simp only [ev,aH,reduceIte,Nat.reduceEqDiff,reduceCtorEq] <;> rfl)) (h0:0 ≤ lo:=by omega) (h1:lo ≤ hi:=by omega) (h2:hi ≤ l.length:=by omega) :
    Y P s h (.slice t x (some z) (some z') none) ty (vs ((l.take hi.toNat).drop lo.toNat)):=fun _ _ _ _ _ _=>by
  have h3:0 ≤ hi:=by omega
  have h5:¬ (max hi 0 < lo):=by omega
  simp [execOp,Instr.sliceAt,ht.h,run_underlying,hx,hz,hz',Instr.slice,Instr.sliceBounds,Instr.sliceBound,asIntOf,h0,h3,h2,h5,kN,pX]
theorem jP {k k' : IntKind} {n:Int} {src:TypeId} [hs:oL P src] [ht:qY P t k] (hx:ev s x = .int k' n:=by (simp only [ev,aH,reduceIte,Nat.reduceEqDiff,reduceCtorEq] <;> rfl)):Y P s h (.convert src t x) ty (.int k (k.wrap n)):=fun _ _ _ _ _ _=>by
  obtain ⟨d,hs⟩:=hs.h
  simp [execOp,convert,run_underlying hs,run_underlying ht.h,hx,Conv.intToInt]
theorem y_nilCheck {a:Addr} (hx:ev s x = .pointer (some a):=by (simp only [ev,aH,reduceIte,Nat.reduceEqDiff,reduceCtorEq] <;> rfl)):Y P s h (.nilCheck x) ty (.pointer (some a)):=fun _ _ _ _ _ _=>by
  simp [execOp,hx]
def cutLo (sz n:Nat):Value → Value
  | .slice A len cap=>.slice (if cap = n then A else A.map (·.add (n * sz))) (len - n) (cap - n)
  | v=>v
def cutHi (n:Nat):Value → Value
  | .slice A _ cap=>.slice A n cap
  | v=>v
theorem RdF.cutLo {α:Type} [Flat α] {X:Nat → Prop} {v:Value} {l:List α} {n:Nat} (k:RdF h X v l) (hn:n ≤ l.length):RdF h X (cutLo (Flat.n α) n v) (l.drop n):=by
  obtain ⟨A,cap,rfl,hd⟩:=k.drop hn
  exact hd
theorem RdF.cutHi {α:Type} [Flat α] {X:Nat → Prop} {v:Value} {l:List α} {n:Nat} (k:RdF h X v l) (hn:n ≤ l.length):RdF h X (cutHi n v) (l.take n):=by
  obtain ⟨A,cap,rfl,hd⟩:=k.take hn
  exact hd
def tS (cs:List Value) (off:Nat) (us:List Value):List Value:=cs.take off ++ us ++ cs.drop (off + us.length)
theorem wU:∀ (us:List Value) (k:Nat) (off:Nat) (cs:Array Value),off + k + us.length ≤ cs.size →
    ((us.zipIdx k).foldl (fun (cs:Array Value) (x:Value × Nat)=>cs.setIfInBounds (off + x.2) x.1) cs) = (tS cs.toList (off + k) us).toArray
  | [],k,off,cs,h=>by simp [tS]
  | u :: us,k,off,cs,h=>by
    simp only [List.zipIdx_cons,List.foldl_cons]
    rw [wU us (k + 1) off _ (by simp at h ⊢; omega)]
    congr 1
    simp only [tS,Array.toList_setIfInBounds,List.length_cons] at h ⊢
    have hlt:off + k < cs.toList.length:=by rw [Array.length_toList]; omega
    rw [List.take_set,List.drop_set,show off + (k + 1) = off + k + 1 by omega,List.take_succ_eq_append_getElem hlt,if_pos (by omega)]
    rw [List.set_append_right _ _ (by rw [List.length_take]; omega)]
    have hmin:min (off + k) cs.toList.length = off + k:=Nat.min_eq_left (Nat.le_of_lt hlt)
    simp only [List.length_take,hmin,Nat.sub_self,List.set_cons_zero,List.append_assoc,List.cons_append,List.nil_append]
    rw [show off + k + 1 + us.length = off + k + (us.length + 1) by omega]
def sG (pl:Nat → Option (Nat × Nat)) (cs:List Value):List (Nat × Value) → Option (List Value)
  | []=>some cs
  | (i,v) :: rest=>match pl i with
    | none=>none
    | some (off,size)=>if v.cells.toList.length = size then (if Nat.ble (off + size) cs.length then sG pl (tS cs off v.cells.toList) rest else none) else none
theorem xZ:∀ (parts:List (Nat × Value)) (pl:Nat → Option (Nat × Nat)) (cs us:List Value),sG pl cs parts = some us → Instr.fill pl cs.toArray parts = some us.toArray
  | [],pl,cs,us,h=>by simp [sG] at h; simp [Instr.fill,h]
  | (i,v) :: rest,pl,cs,us,h=>by
    simp only [sG] at h
    simp only [Instr.fill]
    cases hp:pl i with
    | none=>simp [hp] at h
    | some x =>
      obtain ⟨off,size⟩:=x
      simp only [hp] at h ⊢
      split at h
      · rename_i hs
        split at h
        · rename_i hb
          have hb':=Nat.le_of_ble_eq_true hb
          have hsz:v.cells.size = size:=by simpa using hs
          rw [if_neg (by simp [hsz]; omega)]
          have:=wU v.cells.toList 0 off cs.toArray (by simp; omega)
          rw [show v.cells.zipIdx.foldl (fun cs (x:Value × Nat)=>cs.setIfInBounds (off + x.2) x.1) cs.toArray = (tS cs off v.cells.toList).toArray by
            rw [← Array.foldl_toList,Array.toList_zipIdx]; simpa using this]
          exact xZ rest pl _ us h
        · cases h
      · cases h
class gK (P:Program) (t:TypeId) (pl:outParam (List (Nat × Nat))) (zs:outParam (List Value)):Prop where
  h:∃ fs z,P.underlying t = some (.struct fs)∧(fs.toList.map fun f=>(f.offset,(P.info? f.type).map (·.size))) = pl.map (fun x=>(x.1,some x.2))∧(P.info? t).bind (·.zero) = some z∧z.cells = zs.toArray
theorem aAQ {fs:List Field} {pl:List (Nat × Nat)} (hf:(fs.map fun f=>(f.offset,(P.info? f.type).map (·.size))) = pl.map (fun x=>(x.1,some x.2))) (w:World) :
    (fs.mapM fun f=>Prod.mk f.offset <$> sizeOf f.type:Sem (List (Nat × Nat))).run P w = .ok pl w∧∀ es,(fs.mapM fun f=>Prod.mk f.offset <$> sizeOf f.type:Sem (List (Nat × Nat))).events P w es = es:=by
  induction fs generalizing pl with
  | nil=>cases pl with
    | nil=>simp
    | cons _ _=>simp at hf
  | cons f fs ih =>
    cases pl with
    | nil=>simp at hf
    | cons p pl =>
      simp only [List.map_cons,List.cons.injEq,Prod.mk.injEq] at hf
      obtain ⟨⟨h1,h2⟩,h3⟩:=hf
      obtain ⟨info,hi,hs⟩:=Option.map_eq_some_iff.1 h2
      obtain ⟨i1,i2⟩:=ih h3
      obtain ⟨p1,p2⟩:=p
      simp only at h1 hs
      subst h1
      subst hs
      have hsz:∀ w,(sizeOf f.type).run P w = .ok info.size w:=fun w=>by simp [sizeOf,typeInfo,hi]
      refine ⟨?_,fun es=>?_⟩
      · rw [List.mapM_cons]; simp only [Sem.run_bind,Sem.run_map,hsz,Sem.run_pure,Result.andThen,i1]
      · rw [List.mapM_cons]; simp only [Sem.events_bind,Sem.events_map,Sem.run_map,events_sizeOf,hsz,Sem.run_bind,Sem.run_pure,Result.andThen,Result.evThen,Sem.events_pure,i1,i2]
theorem y_build {pl:List (Nat × Nat)} {zs us:List Value} {ps:List (Nat × Operand)} {vals:List (Nat × Value)} [hst:gK P t pl zs] (hv:ps.map (fun p=>(p.1,ev s p.2)) = vals) (hu:sG (pl[·]?) zs vals = some us):Y P s h (.build t ps.toArray) ty (.agg us.toArray):=by
  intro _ _ _ _ w hh
  obtain ⟨fs,z,h1,h2,h3,h4⟩:=hst.h
  obtain ⟨r1,r2⟩:=aAQ (P:=P) h2 w
  have hm:(fs.mapM fun f=>Prod.mk f.offset <$> sizeOf f.type:Sem (Array (Nat × Nat))) = (List.toArray <$> (fs.toList.mapM fun f=>Prod.mk f.offset <$> sizeOf f.type)):=by
    rw [Array.mapM_eq_mapM_toList]
  have hf:=xZ vals (fun i=>pl[i]?) zs us hu
  have hz:=qG (P:=P) h3 w
  constructor
  · simp only [execOp,Instr.build]
    simp [hz,h4,run_underlying h1,hm,r1,hv,hf]
  · intro e he
    simp [execOp,Instr.build,hz,h4,run_underlying h1,hm,r1,r2,hv,hf] at he
end
section
variable {P:Program} {J:eM P} {w0:World} {N:Nat} {Q:HQ} {h:Heap} {ops:Array Oper} {k:Nat} {rest:List Oper} {L:SL} {r:Env} {dn:Nat} {op:Op} {ty:TypeId} {ps:String} {af:Array Edge}
theorem dY {f:FuncId} {args:Array Value} {v0:Value} (he:Ent J (aH L r) h op ty f args) (hc:HC J w0 f args h fun v h'=>v = v0∧h' = h) (hn:HS J w0 N ops (k + 1) rest Q (aH ((dn,v0) :: L) r) h) (hd:Nat.blt dn N = true:=by rfl) :
    HS J w0 N ops k ({ dst:=some dn,op:=op,type:=ty,pos:=ps,after:=af,guard:=none } :: rest) Q (aH L r) h:=bL he hc (by rintro v h' ⟨rfl,rfl⟩; exact hn) hd
theorem gH {j dj:Nat} {want t:Bool} {f:FuncId} {args:Array Value} {v0:Value} (hw:t = want) (he:Ent J (aH L r) h op ty f args) (hc:HC J w0 f args h fun v h'=>v = v0∧h' = h) (hn:HS J w0 N ops (k + 1) rest Q (aH ((dn,v0) :: L) r) h)
    (hj:(ops[j]?).bind (·.dst) = some dj:=by rfl) (ht:aH L r dj = .bool t:=by (simp only [aH,reduceIte,Nat.reduceEqDiff,reduceCtorEq] <;> rfl)) (hd:Nat.blt dn N = true:=by rfl) :
    HS J w0 N ops k ({ dst:=some dn,op:=op,type:=ty,pos:=ps,after:=af,guard:=some (j,want) } :: rest) Q (aH L r) h:=iR hw he hc (by rintro v h' ⟨rfl,rfl⟩; exact hn) hj ht hd
end
end
section
open Go.Conc
def encs {α:Type} [Flat α] (l:List α):List Value:=l.flatMap Flat.enc
theorem gP {α:Type} [Flat α]:∀ l:List α,(encs l).length = l.length * Flat.n α
  | []=>by simp [encs]
  | x :: l=>by
    have:=gP l
    simp only [encs,List.flatMap_cons,List.length_append,Flat.len,List.length_cons,Nat.succ_mul] at this ⊢
    omega
theorem oD {α:Type} [Flat α] (l m:List α):encs (l ++ m) = encs l ++ encs m:=by simp [encs]
theorem qR {α:Type} [Flat α]:∀ (l:List α) (i j:Nat) (x:α) (u:Value),l[i]? = some x → (Flat.enc x)[j]? = some u → (encs l)[i * Flat.n α + j]? = some u
  | [],i,j,x,u,h1,h2=>by simp at h1
  | y :: l,0,j,x,u,h1,h2=>by
    simp only [List.getElem?_cons_zero,Option.some.injEq] at h1
    subst h1
    simp only [encs,List.flatMap_cons,Nat.zero_mul,Nat.zero_add]
    rw [List.getElem?_append_left (List.getElem?_eq_some_iff.1 h2).1]
    exact h2
  | y :: l,i + 1,j,x,u,h1,h2=>by
    have:=qR l i j x u (by simpa using h1) h2
    simp only [encs,List.flatMap_cons] at this ⊢
    rw [List.getElem?_append_right (by rw [Flat.len,Nat.succ_mul]; omega),Flat.len,Nat.succ_mul]
    rw [show i * Flat.n α + Flat.n α + j - Flat.n α = i * Flat.n α + j by omega]
    exact this
def Own {α:Type} [Flat α] (h:Heap) (B:Nat) (v:Value) (l:List α) (E:TypeId):Prop :=
  (v = .slice none 0 0∧l = []) ∨ ∃ b cap rest,v = .slice (some ⟨b,0,none⟩) l.length cap∧B ≤ b∧Blk h b (encs l ++ rest) E∧l.length ≤ cap∧cap ≤ maxLen∧rest.length = (cap - l.length) * Flat.n α
def vblk (v:Value) (b:Nat):Prop:=∃ o n c,v = .slice (some ⟨b,o,none⟩) n c
section
variable {α:Type} [Flat α] {h h' : Heap} {B:Nat} {v:Value} {l:List α} {E:TypeId}
theorem Own.nil (h:Heap) (B:Nat) (E:TypeId):Own h B (.slice none 0 0) ([]:List α) E:=.inl ⟨rfl,rfl⟩
theorem Own.le (k:Own h B v l E) (hl:Le h h'):Own h' B v l E:=by
  rcases k with k | ⟨b,cap,rest,h1,h2,h3,h4⟩
  · exact .inl k
  · exact .inr ⟨b,cap,rest,h1,h2,h3.le hl,h4⟩
theorem Own.mod {S:Nat → Prop} (k:Own h B v l E) (hm:Mod S h h') (hs:∀ b,vblk v b → ¬ S b):Own h' B v l E:=by
  rcases k with k | ⟨b,cap,rest,h1,h2,h3,h4⟩
  · exact .inl k
  · exact .inr ⟨b,cap,rest,h1,h2,h3.mod hm (hs b ⟨0,_,_,h1⟩),h4⟩
theorem Own.weak {B' : Nat} (k:Own h B v l E) (hB:B' ≤ B):Own h B' v l E:=by
  rcases k with k | ⟨b,cap,rest,h1,h2,h4⟩
  · exact .inl k
  · exact .inr ⟨b,cap,rest,h1,Nat.le_trans hB h2,h4⟩
theorem Own.blk (k:Own h B v l E) {b:Nat} (hb:vblk v b):B ≤ b∧b < h.size∧∃ cs,Blk h b cs E:=by
  obtain ⟨o,n,c,rfl⟩:=hb
  rcases k with ⟨k,_⟩ | ⟨b',cap,rest,h1,h2,h3,h4⟩
  · cases k
  · simp only [Value.slice.injEq,Option.some.injEq,Addr.mk.injEq] at h1
    obtain ⟨⟨rfl,_⟩,_⟩:=h1
    exact ⟨h2,h3.lt,_,h3⟩
theorem Own.ne (k:Own h B v l E) {c:Nat} {cs:List Value} {T:TypeId} (hc:Blk h c cs T) (hT:T ≠ E):¬ vblk v c:=fun hv=>by
  obtain ⟨_,_,cs',hb⟩:=k.blk hv
  unfold Blk at hc hb
  rw [hc] at hb
  simp only [Option.some.injEq,Obj.cells.injEq] at hb
  exact hT hb.2.1
theorem Own.rd (k:Own h B v l E):RdF h (fun b=>B ≤ b∧b < h.size) v l:=by
  rcases k with ⟨rfl,rfl⟩ | ⟨b,cap,rest,rfl,h2,h3,h4,h5,h6⟩
  · exact RdF.nil _ _
  · refine ⟨_,cap,rfl,h4,h5,fun i x hx=>⟨_,rfl,⟨h2,h3.lt⟩,fun j u hu=>?_⟩⟩
    refine h3.at (off:=i * Flat.n α + j) ?_ ?_
    · rw [jZ]; unfold Addr.add; split
      · rename_i h0; rw [h0]
      · simp
    · have:=qR l i j x u hx hu
      rw [List.getElem?_append_left (List.getElem?_eq_some_iff.1 this).1]
      exact this
theorem Own.rdX (k:Own h B v l E):RdF h (vblk v) v l:=by
  rcases k with ⟨rfl,rfl⟩ | ⟨b,cap,rest,rfl,h2,h3,h4,h5,h6⟩
  · exact RdF.nil _ _
  · refine ⟨_,cap,rfl,h4,h5,fun i x hx=>⟨_,rfl,⟨0,_,_,rfl⟩,fun j u hu=>?_⟩⟩
    refine h3.at (off:=i * Flat.n α + j) ?_ ?_
    · rw [jZ]; unfold Addr.add; split
      · rename_i h0; rw [h0]
      · simp
    · have:=qR l i j x u hx hu
      rw [List.getElem?_append_left (List.getElem?_eq_some_iff.1 this).1]
      exact this
end
section
variable {P:Program} {J:eM P} {s:Env} {h:Heap} {ty:TypeId} {x y:Operand} {t e:TypeId}
class lJ (P:Program) (e:TypeId) (n:outParam Nat):Prop where h:(P.info? e).map (·.bytes) = some n
theorem wR (newLen:Nat):∀ (r c:Nat),c ≤ 2 * newLen + 200 → Builtin.growBy newLen r c ≤ 2 * newLen + 200
  | 0,c,h=>h
  | r + 1,c,h=>by
    unfold Builtin.growBy
    split
    · exact h
    · exact wR newLen r _ (by omega)
theorem sJ {need cap:Nat} (h:cap < need):Builtin.nextslicecap need cap ≤ 2 * need + 200:=by
  unfold Builtin.nextslicecap
  split
  · omega
  · split
    · omega
    · exact wR _ _ _ (by omega)
theorem uG {α:Type} [Flat α] {X:Nat → Prop} {v:Value} {l:List α} {w:World} {sz n:Nat} (hr:RdF w.heap X v l) (hz:sz = Flat.n α) (hn:n = l.length) :
    (Builtin.firstCells sz n v).run P w = .ok (encs l).toArray w∧∀ es:Array Event,(∀ e ∈ es,e.mute = false∧e.write = false) → ∀ e ∈ (Builtin.firstCells sz n v).events P w es,e.mute = false∧e.write = false:=by
  subst hz
  subst hn
  obtain ⟨A,cap,rfl,h2,h3,h4⟩:=hr
  cases A with
  | none =>
    have:l = []:=by
      cases l with
      | nil=>rfl
      | cons a l=>obtain ⟨_,h,_⟩:=h4 0 a rfl; cases h
    subst this
    simp [Builtin.firstCells,encs]
  | some a =>
    simp only [Builtin.firstCells,loadCells]
    have:=gG (P:=P) (a:=a) (w:=w) (l.length * Flat.n α) 0 (encs l) #[] (gP l) fun j u hj=>by
      rw [Nat.zero_add,eR]
      have hlt:j < l.length * Flat.n α:=by rw [← gP]; exact (List.getElem?_eq_some_iff.1 hj).1
      have hpos:0 < Flat.n α:=by
        rcases Nat.eq_zero_or_pos (Flat.n α) with h0 | h0
        · rw [h0] at hlt; omega
        · exact h0
      have hi:j / Flat.n α < l.length:=Nat.div_lt_of_lt_mul (by rw [Nat.mul_comm]; exact hlt)
      obtain ⟨a',e1,hX,hc⟩:=h4 (j / Flat.n α) l[j / Flat.n α] (List.getElem?_eq_getElem hi)
      obtain rfl:=Option.some.inj e1
      have hlen:j % Flat.n α < (Flat.enc l[j / Flat.n α]).length:=by rw [Flat.len]; exact Nat.mod_lt _ hpos
      have h6:=hc (j % Flat.n α) _ (List.getElem?_eq_getElem hlen)
      have h7:=qR l (j / Flat.n α) (j % Flat.n α) _ _ (List.getElem?_eq_getElem hi) (List.getElem?_eq_getElem hlen)
      have h8:j / Flat.n α * Flat.n α + j % Flat.n α = j:=by rw [Nat.mul_comm]; exact Nat.div_add_mod j _
      rw [h8] at h7
      rw [h7] at hj
      obtain rfl:=Option.some.inj hj
      rw [jZ,h8] at h6
      exact h6
    simpa using this
end
end
section
open Go.Conc
section
variable {P:Program} {J:eM P} {s:Env} {h:Heap} {ty:TypeId} {x y:Operand} {t t2 e e2:TypeId}
theorem yJ {e:TypeId} {zs:List Value} (hz:hI P e zs):∃ z,(∀ w,(zeroValue e).run P w = .ok z w)∧z.cells = zs.toArray:=by
  obtain ⟨z,h1,h2⟩:=hz.h
  exact ⟨z,fun w=>qG h1 w,h2⟩
theorem sW (z:Array Value) (n:Nat):(Builtin.zeroCells z n).size = n * z.size:=by simp [Builtin.zeroCells]
def App {α:Type} [Flat α] (h:Heap) (B:Nat) (v:Value) (l:List α) (E:TypeId) (v' : Value) (h' : Heap):Prop:=Own h' B v' l E∧Mod (vblk v) h h' ∧ ∀ b,vblk v' b → vblk v b ∨ h.size ≤ b
def kI (es:Array Event):Prop:=∀ e ∈ es,e.mute = false∧e.write = false
theorem kI.nil:kI #[]:=fun e he=>by simp at he
structure Src (P:Program) (w:World) (sz:Nat) (t2:TypeId) (v2:Value) (n:Nat) (us:List Value):Prop where
  t:∃ d,P.underlying t2 = some d∧∀ k,d ≠ .int k
  len:∀ w,(Builtin.lenOf v2).run P w = .ok n w∧∀ es,(Builtin.lenOf v2).events P w es = es
  size:us.length = n * sz
  get:∀ w',w'.heap = w.heap → (Builtin.firstCells sz n v2).run P w' = .ok us.toArray w' ∧ ∀ es:Array Event,kI es → kI ((Builtin.firstCells sz n v2).events P w' es)
theorem Src.slice {α:Type} [Flat α] {X:Nat → Prop} {v:Value} {l:List α} {w:World} [ht:fA P t2 e2] (hr:RdF w.heap X v l):Src P w (Flat.n α) t2 v l.length (encs l):=by
  obtain ⟨A,cap,hv⟩:=hr.form
  refine ⟨⟨_,ht.h,by simp⟩,fun w=>by rw [hv]; simp [Builtin.lenOf],gP l,fun w' hh=>?_⟩
  exact uG (hh ▸ hr) rfl rfl
theorem Src.str {l:Str} {w:World} [ht:sN P t2]:Src P w 1 t2 (vs l) l.length (encs l):=by
  refine ⟨⟨_,ht.h,by simp⟩,fun w=>by simp [Builtin.lenOf,kN],by rw [gP]; rfl,fun w' hh=>?_⟩
  have he:l.map (fun b=>Value.int IntKind.u8 (b.toNat:Int)) = encs l:=by
    clear hh w' w
    induction l with
    | nil=>rfl
    | cons a l ih=>rw [List.map_cons,ih]; rfl
  refine ⟨by simp [Builtin.firstCells,ByteArray.data_extract]; exact he,fun es hes=>by simpa [Builtin.firstCells] using hes⟩
theorem vF (n:Nat) (w:World):kI ((askRoom n).events P w #[]):=by
  unfold askRoom
  split
  · intro e he
    simp at he
    subst he
    exact ⟨rfl,rfl⟩
  · simpa using kI.nil
theorem uQ {v2:Value} {B bytes sz n n2 c:Nat} {A:Option Addr} {zs olds us:List Value} {w:World} [ht:fA P t e] [hz:eG P e sz] [hby:lJ P e bytes] [hzt:hI P e zs]
    (hs:Src P w sz t2 v2 n2 us) (ho:A = none∧n = 0∧c = 0∧olds = [] ∨ ∃ b rest,A = some ⟨b,0,none⟩∧Blk w.heap b (olds ++ rest) e∧rest.length = (c - n) * sz∧B ≤ b) (hol:olds.length = n * sz) (hnc:n ≤ c) (hcm:c ≤ maxLen)
    (hB:B ≤ w.heap.size) (hlen:n + n2 ≤ 8589934592) (hbl:bytes ≤ 4096) (hzl:zs.length = sz) (ho1:∀ u ∈ us,u.oneCell' = true) :
    ∃ A' c' w',(Builtin.append_ #[t,t2] ty #[.slice A n c,v2]).run P w = .ok (.slice A' (n + n2) c') w' ∧ fY w w' ∧ (n + n2 ≤ c' ∧ c' ≤ maxLen) ∧
      (A' = none∧n + n2 = 0∧c' = 0 ∨ ∃ b rest,A' = some ⟨b,0,none⟩∧Blk w'.heap b (olds ++ us ++ rest) e∧rest.length = (c' - (n + n2)) * sz∧B ≤ b∧(b < w.heap.size → A = some ⟨b,0,none⟩)) ∧
      Mod (vblk (.slice A n c)) w.heap w'.heap∧∀ e' ∈ (Builtin.append_ #[t,t2] ty #[.slice A n c,v2]).events P w #[],e'.mute = false:=by
  obtain ⟨info,hi,hsz0⟩:=Option.map_eq_some_iff.1 hz.h
  have hb1:info.bytes = bytes:=by
    obtain ⟨info',hi',hs'⟩:=Option.map_eq_some_iff.1 hby.h
    rw [hi] at hi'; rw [← Option.some.inj hi'] at hs'; exact hs'
  have hsz:∀ w,(sizeOf e).run P w = .ok sz w:=fun w=>by simp [sizeOf,typeInfo,hi,hsz0]
  have htyp:∀ w,(typeInfo e).run P w = .ok info w:=fun w=>by simp [typeInfo,hi]
  obtain ⟨d2,hd2,hd2'⟩:=hs.t
  have hzero:(match d2 with | .int _=>true | _=>false) = false:=by
    cases d2 <;> first | rfl | exact absurd rfl (hd2' _)
  by_cases h0:n + n2 ≤ c
  · obtain ⟨g1,g2⟩:=hs.get w rfl
    rcases ho with ⟨rfl,rfl,rfl,rfl⟩ | ⟨b,rest,rfl,hb,hr,hBb⟩
    · obtain rfl:n2 = 0:=by omega
      refine ⟨none,0,w,?_,⟨rfl,rfl,rfl⟩,⟨by omega,by omega⟩,.inl ⟨rfl,rfl,rfl⟩,Mod.refl _,fun e' he'=>?_⟩
      · simp [Builtin.append_,run_underlying ht.h,run_underlying hd2,hsz,(hs.len w).1,g1,hzero]
      · have:=g2 #[] kI.nil e'
        simp [Builtin.append_,run_underlying ht.h,run_underlying hd2,hsz,(hs.len w).1,(hs.len w).2,g1,hzero] at he'
        exact (this he').1
    · have husl:=hs.size
      have hcs:c * sz = n * sz + (c - n) * sz:=by rw [← Nat.add_mul]; congr 1; omega
      have hc2:(c - n) * sz = n2 * sz + (c - (n + n2)) * sz:=by rw [← Nat.add_mul]; congr 1; omega
      have hadd:(⟨b,0,none⟩:Addr).add (n * sz) = ⟨b,n * sz,none⟩:=by
        unfold Addr.add; split
        · rename_i h; rw [h]
        · simp
      obtain ⟨w',r1,r2,⟨r3,r4,r5⟩,r6⟩:=gN (P:=P) (off:=n * sz) us 0 w (olds ++ rest) hb (by rw [List.length_append]; omega) ho1
      refine ⟨some ⟨b,0,none⟩,c,w',?_,r2,⟨h0,hcm⟩,.inr ⟨b,rest.drop (n2 * sz),rfl,?_,?_,hBb,fun _=>rfl⟩,r4.mono (fun x _ hx=>⟨0,n,c,by rw [hx]⟩),fun e' he'=>?_⟩
      · simp [Builtin.append_,run_underlying ht.h,run_underlying hd2,hsz,(hs.len w).1,g1,hzero,h0,hadd,r1]
      · have:(olds ++ rest).take (n * sz + 0) ++ us ++ (olds ++ rest).drop (n * sz + 0 + us.length) = olds ++ us ++ rest.drop (n2 * sz):=by
          rw [Nat.add_zero,← hol,List.take_left,husl]
          congr 1
          rw [List.drop_append]; simp
        rw [this] at r5; exact r5
      · rw [List.length_drop]; omega
      · have hq:=g2 #[] kI.nil
        simp [Builtin.append_,run_underlying ht.h,run_underlying hd2,hsz,(hs.len w).1,(hs.len w).2,g1,hzero,h0,hadd,r1] at he'
        exact r6 _ (fun e he=>(hq e he).1) e' he'
  · have hfit:¬ (2 ^ 48 < Builtin.nextslicecap (n + n2) c * info.bytes):=by
      have h1:=sJ (need:=n + n2) (cap:=c) (by omega)
      have h2:Builtin.nextslicecap (n + n2) c * info.bytes ≤ (2 * (n + n2) + 200) * 4096:=Nat.mul_le_mul h1 (by omega)
      omega
    have hmax:IntKind.i64.max = 9223372036854775807:=by decide
    have h63:¬ (9223372036854775807 < (n:Int) + (n2:Int)):=by omega
    have hfc:∀ w',w'.heap = w.heap → (Builtin.firstCells sz n (.slice A n c)).run P w' = .ok olds.toArray w' ∧ ∀ es:Array Event,kI es → kI ((Builtin.firstCells sz n (.slice A n c)).events P w' es):=by
      intro w' hw'
      rcases ho with ⟨rfl,rfl,rfl,rfl⟩ | ⟨b,rest,rfl,hb,hr,hBb⟩
      · exact ⟨by simp [Builtin.firstCells],fun es hes=>by simpa [Builtin.firstCells] using hes⟩
      · have:=gG (P:=P) (a:=⟨b,0,none⟩) (w:=w') (n * sz) 0 olds #[] hol fun j u hj=>by
          rw [eR,hw',Nat.zero_add]
          refine hb.at (off:=j) ?_ ?_
          · unfold Addr.add; split
            · rename_i h; rw [h]
            · simp
          · rw [List.getElem?_append_left (List.getElem?_eq_some_iff.1 hj).1]; exact hj
        simpa [Builtin.firstCells,loadCells,kI] using this
    obtain ⟨z,hz1,hz2⟩:=yJ hzt (P:=P)
    have hzs:z.cells.size = sz:=by rw [hz2]; simpa using hzl
    obtain ⟨f1,f2⟩:=hfc w.drew rfl
    obtain ⟨g1,g2⟩:=hs.get w.drew rfl
    have hq:(Question.appendCap (n + n2) c e).forced = false:=rfl
    have hg:n + n2 ≤ grownCap w (n + n2) c e:=by simp [grownCap,Question.cut]
    have hg2:grownCap w (n + n2) c e ≤ maxLen:=by
      have hm:0 < 2 ^ 63 - (n + n2):=by omega
      have:=Nat.mod_lt (w.tape w.drawn (.appendCap (n + n2) c e)) hm
      simp only [grownCap,Question.cut,maxLen]
      omega
    refine ⟨some ⟨w.heap.size,0,none⟩,grownCap w (n + n2) c e,(w.drew.alloc (.cells (olds.toArray ++ us.toArray ++ Builtin.zeroCells z.cells (grownCap w (n + n2) c e - (n + n2))) e)),?_,⟨rfl,rfl,rfl⟩,⟨hg,hg2⟩,.inr ⟨w.heap.size,(Builtin.zeroCells z.cells (grownCap w (n + n2) c e - (n + n2))).toList,rfl,?_,?_,hB,fun hlt=>?_⟩,?_,fun e' he'=>?_⟩
    · simp [Builtin.append_,run_underlying ht.h,run_underlying hd2,hsz,htyp,(hs.len w).1,g1,f1,hzero,h0,h63,hfit,hq,hz1,newRow,grownCap]
      rw [← List.append_toArray,Array.append_assoc]
    · have:=Blk.new w.heap (olds ++ us ++ (Builtin.zeroCells z.cells (grownCap w (n + n2) c e - (n + n2))).toList) e
      rw [show (olds ++ us ++ (Builtin.zeroCells z.cells (grownCap w (n + n2) c e - (n + n2))).toList).toArray = olds.toArray ++ us.toArray ++ Builtin.zeroCells z.cells (grownCap w (n + n2) c e - (n + n2)) by apply Array.ext'; simp] at this
      exact this
    · rw [Array.length_toList,sW,hzs]
    · omega
    · exact (mW _ _).mod
    · have q1:=f2 #[] kI.nil
      simp [Builtin.append_,run_underlying ht.h,run_underlying hd2,hsz,htyp,(hs.len w).1,(hs.len w).2,g1,f1,hzero,h0,h63,hfit,hq,hz1,newRow] at he'
      exact (g2 _ (f2 _ (vF _ _)) e' he').1
theorem uM {α:Type} [Flat α] (h:∀ x:α,∀ u ∈ Flat.enc x,u.oneCell' = true) (l:List α):∀ u ∈ encs l,u.oneCell' = true:=by
  intro u hu
  obtain ⟨x,_,hx⟩:=List.mem_flatMap.1 hu
  exact h x u hx
class oM (α:Type) [Flat α]:Prop where h:∀ x:α,∀ u ∈ Flat.enc x,u.oneCell' = true
instance :oM Str:=⟨fun x u hu=>by simp [Flat.enc] at hu; subst hu; rfl⟩
instance :oM UInt8:=⟨fun x u hu=>by simp [Flat.enc] at hu; subst hu; rfl⟩
theorem bW {α:Type} [Flat α] [oM α] (hJ:∀ l,J.wr l) {v v2:Value} {l l2:List α} {B bytes:Nat} {X:Nat → Prop} {zs:List Value} [ht:fA P t e] [ht2:fA P t2 e2] [hz:eG P e (Flat.n α)] [hby:lJ P e bytes] [hzt:hI P e zs]
    (ho:Own h B v l e) (hr:RdF h X v2 l2) (hB:B ≤ h.size) (hlen:l.length + l2.length ≤ 8589934592) (hx:ev s x = v:=by (simp only [ev,aH,reduceIte,Nat.reduceEqDiff,reduceCtorEq] <;> rfl)) (hy:ev s y = v2:=by (simp only [ev,aH,reduceIte,Nat.reduceEqDiff,reduceCtorEq] <;> rfl))
    (hbl:Nat.ble bytes 4096 = true:=by rfl) (hzl:zs.length = Flat.n α:=by rfl):E J s h (.call { callee:=.builtin .append,args:=#[x,y],argTypes:=#[t,t2] }) ty (fun v' h'=>App h B v (l ++ l2) e v' h'):=by
  intro ps af g d w hh
  subst hh
  obtain ⟨A,n,c,rfl,o1,o2,o3,rfl,o5⟩:∃ A n c,v = .slice A n c∧(A = none∧n = 0∧c = 0∧encs l = [] ∨ ∃ b rest,A = some ⟨b,0,none⟩∧Blk w.heap b (encs l ++ rest) e∧rest.length = (c - n) * Flat.n α∧B ≤ b)∧n ≤ c∧c ≤ maxLen∧n = l.length∧(A = none → l = []):=by
    rcases ho with ⟨rfl,rfl⟩ | ⟨b,cap,rest,rfl,h2,h3,h4,h5,h6⟩
    · exact ⟨none,0,0,rfl,.inl ⟨rfl,rfl,rfl,rfl⟩,by omega,by simp,rfl,fun _=>rfl⟩
    · exact ⟨_,_,_,rfl,.inr ⟨b,rest,rfl,h3,h6,h2⟩,h4,h5,rfl,fun h=>by cases h⟩
  obtain ⟨A',c',w',r1,r2,⟨r3,r3'⟩,r4,r5,r6⟩:=uQ (P:=P) (ty:=ty) (t:=t) (Src.slice hr (t2:=t2)) o1 (gP l) o2 o3 hB hlen (Nat.le_of_ble_eq_true hbl) hzl (uM oM.h l2)
  refine ⟨.slice A' (l.length + l2.length) c',w',.inl ?_,r2,fun e' he'=>⟨?_,fun _=>hJ _⟩,?_,r5,?_⟩
  · simp [execOp,resolve,invoke,builtin,hx,hy,r1]
  · simp [execOp,resolve,invoke,builtin,hx,hy,r1] at he'
    exact r6 _ he'
  · rcases r4 with ⟨rfl,q1,rfl⟩ | ⟨b,rest,rfl,q1,q2,q3,q4⟩
    · have e1:l = []:=List.length_eq_zero_iff.1 (by omega)
      have e2:l2 = []:=List.length_eq_zero_iff.1 (by omega)
      subst e1; subst e2
      exact .inl ⟨rfl,rfl⟩
    · exact .inr ⟨b,c',rest,by rw [List.length_append],q3,by rw [oD]; exact q1,by rw [List.length_append]; exact r3,r3',by rw [List.length_append]; exact q2⟩
  · rintro b ⟨o,n',c'',hb⟩
    simp only [Value.slice.injEq] at hb
    obtain ⟨rfl,_,_⟩:=hb
    rcases r4 with ⟨q,_⟩ | ⟨b',rest,hb',q1,q2,q3,q4⟩
    · cases q
    · simp only [Option.some.injEq,Addr.mk.injEq] at hb'
      obtain ⟨rfl,rfl,_⟩:=hb'
      by_cases hlt:b < w.heap.size
      · exact .inl ⟨0,_,_,by rw [q4 hlt]⟩
      · exact .inr (by omega)
end
end
section
open Go.Conc
def Rd {α:Type} [Flat α] (h:Heap) (O:Nat → Prop) (v:Value) (l:List α):Prop:=RdF h (fun b=>b < h.size∧¬ O b) v l
section
variable {α:Type} [Flat α] {h h' : Heap} {O O' S:Nat → Prop} {v:Value} {l:List α} {B:Nat} {E:TypeId}
theorem RdF.lt (k:RdF h S v l):RdF h (fun b=>b < h.size∧S b) v l:=by
  obtain ⟨A,cap,h1,h2,h3,h4⟩:=k
  refine ⟨A,cap,h1,h2,h3,fun i x hx=>?_⟩
  obtain ⟨a,e,hX,hc⟩:=h4 i x hx
  refine ⟨a,e,⟨?_,hX⟩,hc⟩
  have hlt:0 < (Flat.enc x).length:=by rw [Flat.len]; exact Flat.pos
  have:=aAf (hc 0 _ (List.getElem?_eq_getElem hlt))
  rwa [mN,mN] at this
theorem Rd.mod (k:Rd h O v l) (hm:Mod S h h') (hs:∀ b,b < h.size → S b → O b) (ho:∀ b,b < h.size → O' b → O b):Rd h' O' v l :=
  (RdF.mod k hm fun b hb hS=>hb.2 (hs b hb.1 hS)).weak fun b hb=>⟨Nat.lt_of_lt_of_le hb.1 hm.1,fun hO=>hb.2 (ho b hb.1 hO)⟩
theorem Rd.le (k:Rd h O v l) (hl:Le h h') (ho:∀ b,b < h.size → O' b → O b):Rd h' O' v l:=Rd.mod k (S:=fun _=>False) hl.mod (fun _ _=>False.elim) ho
theorem Own.out (k:Own h B v l E) (ho:∀ b,vblk v b → ¬ O b):Rd h O v l:=k.rdX.weak fun b hb=>⟨(k.blk hb).2.1,ho b hb⟩
theorem RdF.cell1 {X:Nat → Prop} (k:RdF h X v l) {i:Nat} {x:α} {u:Value} (hi:l[i]? = some x) (hj:Flat.enc x = [u]):hcell h (elA v (i * Flat.n α)) = some u:=by
  have:=k.cell hi (j:=0) (u:=u) (by rw [hj]; rfl)
  simpa [Addr.add] using this
theorem Own.cutHi (k:Own h B v l E) {n:Nat} (hn:n ≤ l.length):Own h B (cutHi n v) (l.take n) E:=by
  rcases k with ⟨rfl,rfl⟩ | ⟨b,cap,rest,rfl,h2,h3,h4,h5,h6⟩
  · obtain rfl:n = 0:=by simpa using hn
    exact .inl ⟨rfl,rfl⟩
  · refine .inr ⟨b,cap,encs (l.drop n) ++ rest,?_,h2,?_,?_,h5,?_⟩
    · rw [List.length_take,Nat.min_eq_left hn]; rfl
    · rw [← List.append_assoc,← oD,List.take_append_drop]; exact h3
    · rw [List.length_take,Nat.min_eq_left hn]; omega
    · rw [List.length_append,gP,h6,List.length_drop,List.length_take,Nat.min_eq_left hn,← Nat.add_mul]; congr 1; omega
end
section
variable {P:Program} {J:eM P} {s:Env} {h:Heap} {ty:TypeId} {x y:Operand} {t e:TypeId}
theorem y_pickT {c a b:Operand} {t:Bool} {v:Value} (g:t = true) (h1:ev s a = v:=by (simp only [ev,aH,reduceIte,Nat.reduceEqDiff,reduceCtorEq] <;> rfl)) (hc:ev s c = .bool t:=by (simp only [ev,aH,reduceIte,Nat.reduceEqDiff,reduceCtorEq] <;> rfl)):Y P s h (.pick c a b) ty v :=
  aCz (t:=t) (fun _=>h1) (fun e=>by rw [g] at e; cases e) hc
theorem aR {c a b:Operand} {t:Bool} {v:Value} (g:t = false) (h1:ev s b = v:=by (simp only [ev,aH,reduceIte,Nat.reduceEqDiff,reduceCtorEq] <;> rfl)) (hc:ev s c = .bool t:=by (simp only [ev,aH,reduceIte,Nat.reduceEqDiff,reduceCtorEq] <;> rfl)):Y P s h (.pick c a b) ty v :=
  aCz (t:=t) (fun e=>by rw [g] at e; cases e) (fun _=>h1) hc
theorem bV {a:Str} [ht:sN P t] {k:IntKind} {i:Nat} {c:UInt8} (hc:a[i]? = some c) (hx:ev s x = vs a:=by (simp only [ev,aH,reduceIte,Nat.reduceEqDiff,reduceCtorEq] <;> rfl)) (hy:ev s y = .int k i:=by (simp only [ev,aH,reduceIte,Nat.reduceEqDiff,reduceCtorEq] <;> rfl)):Y P s h (.index t x y) ty (.int .u8 c.toNat) :=
  cL (i:=i) hc hx hy (by omega)
theorem y_loadEl {α:Type} [Flat α] {X:Nat → Prop} {v:Value} {l:List α} {i:Nat} {z:α} [ht:oO P t (Flat.n α)] (hr:RdF h X v l) (hi:l[i]? = some z) (hx:ev s x = .pointer (some (elA v (i * Flat.n α))):=by (simp only [ev,aH,reduceIte,Nat.reduceEqDiff,reduceCtorEq] <;> rfl)):Y P s h (.load t x) ty (.agg (Flat.enc z).toArray) :=
  sP (Flat.len z) (fun _ _ hj=>hr.cell hi hj) hx
theorem y_loadB {a:Addr} {b n:Nat} {cs:List Value} {T:TypeId} [ht:oO P t n] (k:Blk h b cs T) (off:Nat) (us:List Value) (ha:a = ⟨b,off,none⟩:=by rfl) (hu:us = (cs.drop off).take n:=by rfl) (hn:us.length = n:=by rfl) (hx:ev s x = .pointer (some a):=by (simp only [ev,aH,reduceIte,Nat.reduceEqDiff,reduceCtorEq] <;> rfl)):Y P s h (.load t x) ty (.agg us.toArray):=by
  refine sP hn (fun j v hj=>?_) hx
  subst ha
  refine k.at (off:=off + j) ?_ ?_
  · unfold Addr.add; split
    · rename_i h; rw [h]; rfl
    · rfl
  · rw [hu,List.getElem?_take] at hj
    split at hj
    · rw [List.getElem?_drop] at hj; exact hj
    · cases hj
theorem aAo {n:Nat}:∀ (vals:List Value) (k:Nat) (done rest:List Value),(∀ v ∈ vals,v.cells.toList.length = n) → done.length = k * n → rest.length = vals.length * n →
    sG (fun i=>some (i * n,n)) (done ++ rest) ((vals.zipIdx k).map fun p=>(p.2,p.1)) = some (done ++ vals.flatMap (·.cells.toList))
  | [],k,done,rest,hv,hd,hr=>by
    obtain rfl:rest = []:=List.length_eq_zero_iff.1 (by simpa using hr)
    simp [sG]
  | v :: vals,k,done,rest,hv,hd,hr=>by
    have h1:=hv v List.mem_cons_self
    rw [List.length_cons,Nat.succ_mul] at hr
    simp only [List.zipIdx_cons,List.map_cons,sG,h1,if_true]
    rw [if_pos (Nat.ble_eq_true_of_le (by rw [List.length_append,hd,hr]; omega))]
    have e1:tS (done ++ rest) (k * n) v.cells.toList = (done ++ v.cells.toList) ++ rest.drop n:=by
      unfold tS
      rw [← hd,List.take_left,h1,← List.drop_drop,List.drop_left]
    rw [e1,aAo vals (k + 1) _ _ (fun u hu=>hv u (List.mem_cons_of_mem _ hu)) (by rw [List.length_append,hd,h1,Nat.succ_mul]) (by rw [List.length_drop,hr]; omega)]
    simp
theorem bA {α:Type} [Flat α] {l:List α} {vals:List Value} {ps:List (Nat × Operand)} {len:Nat} {zs:List Value} [ht:fA P t e] [hz:eG P e (Flat.n α)] [hzt:hI P e zs]
    (hv' : ps.map (fun p=>ev s p.2) = vals:=by (simp only [List.map_cons,List.map_nil,ev,aH,reduceIte,Nat.reduceEqDiff,reduceCtorEq] <;> rfl)) (hi' : ps.map (·.1) = List.range len:=by rfl) (hl:vals.length = len:=by rfl) (hb:Nat.ble (len * Flat.n α) 16777216 = true:=by rfl) (hc:vals.map (·.cells.toList) = l.map Flat.enc:=by rfl) :
    E J s h (.buildSlice t len ps.toArray) ty (fun v' h'=>Le h h' ∧ Own h' h.size v' l e∧h'.size = h.size + 1):=by
  intro ps' af g d w hh
  subst hh
  obtain ⟨info,hi,hs⟩:=Option.map_eq_some_iff.1 hz.h
  obtain ⟨z,z1,z2⟩:=yJ hzt (P:=P)
  have hb':=Nat.le_of_ble_eq_true hb
  have hv:ps.map (fun p=>(p.1,ev s p.2)) = (vals.zipIdx.map fun p=>(p.2,p.1)):=by
    have hpl:ps.length = vals.length:=by rw [← hv',List.length_map]
    apply List.ext_getElem
    · simp [hpl]
    · intro n h1 h2
      have a1:n < ps.length:=by simpa using h1
      have b1:ps[n].1 = n:=by
        have:=List.getElem_map (fun p:Nat × Operand=>p.1) (l:=ps) (i:=n) (h:=by simpa using a1)
        rw [← this]; simp [hi']
      have b2:ev s ps[n].2 = vals[n]'(hpl ▸ a1):=by
        have:=List.getElem_map (fun p:Nat × Operand=>ev s p.2) (l:=ps) (i:=n) (h:=by simpa using a1)
        rw [← this]; simp [hv']
      simp [b1,b2]
  have hll:l.length = len:=by rw [← hl,← List.length_map (f:=Flat.enc),← hc,List.length_map]
  have hcl:∀ v ∈ vals,v.cells.toList.length = Flat.n α:=fun v hv=>by
    have:v.cells.toList ∈ l.map Flat.enc:=hc ▸ List.mem_map.2 ⟨v,hv,rfl⟩
    obtain ⟨x,_,hx⟩:=List.mem_map.1 this
    rw [← hx,Flat.len]
  have hfl:vals.flatMap (·.cells.toList) = encs l:=by rw [List.flatMap_def,hc,encs,List.flatMap_def]
  have hf:∀ zz:List Value,zz.length = len * Flat.n α → Instr.fill (fun i=>some (i * Flat.n α,Flat.n α)) zz.toArray (ps.map (fun p=>(p.1,ev s p.2))) = some (encs l).toArray:=fun zz hzz=>by
    refine xZ _ _ _ _ ?_
    rw [hv,← hfl]
    have:=aAo vals 0 [] zz hcl (by simp) (by rw [hzz,hl])
    simpa using this
  have hZ:∀ Z:Array Value,Z.size = len * Flat.n α → Instr.fill (fun i=>some (i * Flat.n α,Flat.n α)) Z (ps.map (fun p=>(p.1,ev s p.2))) = some (encs l).toArray:=fun Z hZ=>hf Z.toList (by simpa using hZ)
  have hnb:¬ (2 ^ 24 < len * Flat.n α):=by omega
  refine ⟨.slice (some ⟨w.heap.size,0,none⟩) l.length l.length,{ w with heap:=w.heap.push (.cells (encs l).toArray e (0,0)) },.inl ?_,⟨rfl,rfl,rfl⟩,?_,mW _ _,.inr ⟨w.heap.size,l.length,[],rfl,Nat.le_refl _,?_,Nat.le_refl _,?_,by simp⟩,by simp⟩
  · by_cases h0:len * Flat.n α = 0
    · simp [execOp,Instr.buildSlice,ht.h,run_underlying,sizeOf,typeInfo,hi,hs,newRow,h0,hnb]
      rw [hZ _ (by simp [h0])]
      simp [hll]
    · simp [execOp,Instr.buildSlice,ht.h,run_underlying,sizeOf,typeInfo,hi,hs,newRow,h0,hnb,z1]
      rw [hZ _ (by simp)]
      simp [hll]
  · by_cases h0:len * Flat.n α = 0
    · simp [execOp,Instr.buildSlice,ht.h,run_underlying,sizeOf,typeInfo,hi,hs,newRow,h0,hnb]
      rw [hZ _ (by simp [h0])]
      simp
    · simp [execOp,Instr.buildSlice,ht.h,run_underlying,sizeOf,typeInfo,hi,hs,newRow,h0,hnb,z1]
      rw [hZ _ (by simp)]
      simp
  · simpa using Blk.new w.heap (encs l) e
  · have:l.length ≤ len * Flat.n α:=by rw [hll]; exact Nat.le_mul_of_pos_right _ Flat.pos
    simp only [maxLen]; omega
inductive uR (P:Program) (s:Env) (h:Heap):ResultVar → Value → Prop
  | tmp {q:Tmp} {v:Value} (hq:s q = v):uR P s h (.tmp q) v
  | agg {q:Tmp} {t:TypeId} {b:Nat} {cs:List Value} {T:TypeId} (ht:aggT P t cs.length = true) (hb:Blk h b cs T) (hq:s q = .pointer (some ⟨b,0,none⟩)):uR P s h (.cell q t) (.agg cs.toArray)
  | one {q:Tmp} {t:TypeId} {b:Nat} {v:Value} {T:TypeId} (ht:oneT P t = true) (hb:Blk h b [v] T) (hq:s q = .pointer (some ⟨b,0,none⟩)):uR P s h (.cell q t) v
inductive rM (P:Program) (s:Env) (h:Heap):List ResultVar → List Value → Prop
  | nil:rM P s h [] []
  | cons {r:ResultVar} {v:Value} {rs:List ResultVar} {vs:List Value} (hr:uR P s h r v) (hs:rM P s h rs vs):rM P s h (r :: rs) (v :: vs)
def oneOf:List Value → Value
  | [v]=>v
  | vs=>.tuple vs.toArray
def jV (tmps:Array Value):ResultVar → Sem Value
  | .tmp t=>pure (tmps.getD t undef)
  | .cell a t=>do loadVar t (← asAddr (tmps.getD a undef))
theorem aA9 {tmps:Array Value} {r:ResultVar} {v:Value} {w:World} (hs:∀ t,tmps.getD t undef = s t) (hk:uR P s w.heap r v) :
    (jV tmps r).run P w = .ok v w∧∀ es,kI es → kI ((jV tmps r).events P w es):=by
  cases hk with
  | tmp hq=>exact ⟨by simp [jV,hs,hq],fun es he=>by simpa [jV] using he⟩
  | @agg q t b cs T ht hb hq =>
    obtain ⟨h1,i,hi,hz⟩:=wZ ht
    have hsz:(sizeOf t).run P w = .ok cs.length w:=by simp [sizeOf,typeInfo,hi,hz]
    have:=gG (P:=P) (a:=⟨b,0,none⟩) (w:=w) cs.length 0 cs #[] rfl fun j u hj=>by
      rw [eR,Nat.zero_add]
      refine hb.at (off:=j) ?_ hj
      unfold Addr.add; split
      · rename_i h; rw [h]
      · simp
    have ha:(asAddr (.pointer (some ⟨b,0,none⟩))).run P w = .ok ⟨b,0,none⟩ w:=by simp [asAddr]
    refine ⟨by simp [jV,hs,hq,ha,loadVar,h1,hsz,loadCells,this.1],fun es he=>?_⟩
    simp [jV,hs,hq,asAddr,loadVar,h1,hsz,loadCells]
    exact this.2 es he
  | @one q t b v T ht hb hq =>
    have h1:=lU ht
    have hc:w.cell? ⟨b,0,none⟩ = some v:=by rw [eR]; exact hb.at (off:=0) rfl rfl
    refine ⟨by simp [jV,hs,hq,asAddr,loadVar,h1,hc],fun es he=>?_⟩
    simp [jV,hs,hq,asAddr,loadVar,h1,hc]
    intro e hm
    rcases Array.mem_push.1 hm with h' | rfl
    · exact he e h'
    · exact ⟨rfl,rfl⟩
theorem uE {tmps:Array Value} {w:World} (hs:∀ t,tmps.getD t undef = s t):∀ {rs:List ResultVar} {vs:List Value},rM P s w.heap rs vs →
    (rs.mapM (jV tmps)).run P w = .ok vs w∧∀ es,kI es → kI ((rs.mapM (jV tmps)).events P w es)
  | _,_,.nil=>by simp
  | _,_,.cons hr hk=>by
    obtain ⟨r1,r2⟩:=aA9 hs hr
    obtain ⟨i1,i2⟩:=uE hs hk
    refine ⟨by rw [List.mapM_cons]; simp [r1,i1],fun es he=>?_⟩
    rw [List.mapM_cons]
    simp [r1,i1]
    exact i2 _ (r2 _ he)
theorem aQ {wr:Loc → Prop} {fn:Func} {rs:List ResultVar} {vals:List Value} {Post:Value → Heap → Prop} (hr:fn.results = rs.toArray) (hk:rM P s h rs vals) (hp:Post (oneOf vals) h):uU P wr fn Post .ret s h:=by
  intro tmps w hs hh
  subst hh
  obtain ⟨r1,r2⟩:=uE hs hk
  have e:results fn tmps = (do let vs ← (rs.toArray.mapM (jV tmps)); pure (if h:vs.size = 1 then vs[0] else .tuple vs)):=by
    rw [← hr]; rfl
  have e2:(rs.toArray.mapM (jV tmps):Sem (Array Value)) = List.toArray <$> rs.mapM (jV tmps):=by simp
  refine ⟨oneOf vals,?_,fun ev he=>?_,hp⟩
  · rw [e,e2]
    simp [r1]
    by_cases h1:vals.length = 1
    · obtain ⟨a,rfl⟩:=List.length_eq_one_iff.1 h1
      rfl
    · rw [dif_neg h1]
      unfold oneOf
      split
      · exact absurd rfl h1
      · rfl
  · rw [e,e2] at he
    simp [r1] at he
    have:=r2 #[] kI.nil ev he
    exact ⟨this.1,fun h=>by rw [this.2] at h; cases h⟩
end
section
variable {P:Program} {J:eM P} {w0:World} {N:Nat} {Q:HQ} {h:Heap} {ops:Array Oper} {k:Nat} {rest:List Oper} {L:SL} {r:Env}
theorem bF {c:Operand} {x y:Code} {t:Bool} (h1:t = true → HW J w0 N x Q (aH L r) h) (h2:t = false → HW J w0 N y Q (aH L r) h) (hc:ev (aH L r) c = .bool t:=by (simp only [ev,aH,reduceIte,Nat.reduceEqDiff,reduceCtorEq] <;> rfl)):HW J w0 N (.cond c x y) Q (aH L r) h:=wN hc h1 h2
theorem aF {c:Code} {L' : SL} (hA:eY (aH L r) L') (hn:∀ r,HW J w0 N c Q (aH L' r) h):HW J w0 N c Q (aH L r) h:=by
  have:=hn (aH L r)
  rwa [← iK hA] at this
theorem neT {b:Bool} (g:b = true):b ≠ false:=fun e=>by rw [g] at e; cases e
theorem neF {b:Bool} (g:b = false):b ≠ true:=fun e=>by rw [g] at e; cases e
theorem aG {s:Env} {ty:TypeId} {f:FuncId} {xz:List Operand} {ats:Array TypeId} {vals:List Value} [hf:bS P f] (hv:xz.map (ev s) = vals:=by (simp only [List.map_cons,List.map_nil,ev,aH,reduceIte,Nat.reduceEqDiff,reduceCtorEq] <;> rfl)) :
    Ent J s h (.call { callee:=.value (.func f),args:=xz.toArray,argTypes:=ats }) ty f vals.toArray:=hv ▸ aDn
theorem aU {q:Tmp} {v:Value} (hq:aH L r q = v:=by (simp only [aH,reduceIte,Nat.reduceEqDiff,reduceCtorEq] <;> rfl)):uR P (aH L r) h (.tmp q) v:=.tmp hq
theorem bT {q:Tmp} {t:TypeId} {b:Nat} {cs:List Value} {T:TypeId} [ht:oO P t cs.length] (hb:Blk h b cs T) (hq:aH L r q = .pointer (some ⟨b,0,none⟩):=by (simp only [aH,reduceIte,Nat.reduceEqDiff,reduceCtorEq] <;> rfl)):uR P (aH L r) h (.cell q t) (.agg cs.toArray):=.agg ht.h hb hq
theorem lQ {a:Act} {s:Env} (hr:Rep N a s) {j dj:Nat} (hj:(ops[j]?).bind (·.dst) = some dj) (ht:s dj = undef):yielded ops a.tmps j = none:=by
  unfold yielded
  rw [hj]
  have:=hr.2.1 dj
  rw [ht,Array.getD_eq_getD_getElem?] at this
  simp only [Option.bind_some]
  cases hx:a.tmps[dj]? with
  | none=>rfl
  | some x=>rw [hx] at this; simp only [Option.getD_some] at this; subst this; rfl
theorem bZ {dn:Nat} {op:Op} {ty:TypeId} {ps:String} {af:Array Edge} {j dj:Nat} {want:Bool} (hn:HS J w0 N ops (k + 1) rest Q (aH ((dn,undef) :: L) r) h)
    (hj:(ops[j]?).bind (·.dst) = some dj:=by rfl) (ht:aH L r dj = undef:=by (simp only [aH,reduceIte,Nat.reduceEqDiff,reduceCtorEq] <;> rfl)) (hd:Nat.blt dn N = true:=by rfl) :
    HS J w0 N ops k ({ dst:=some dn,op:=op,type:=ty,pos:=ps,after:=af,guard:=some (j,want) } :: rest) Q (aH L r) h:=by
  intro hx a w hr hs hh
  obtain ⟨h0,htl⟩:=nB hx
  rw [List.length_cons,range'_cons]
  refine lR h0 ?_ (hn htl _ _ (rep_sput hr (d:=some dn) hd undef) hs hh)
  have:=lQ hr hj ht
  simp only [Region.wanted,this]
  rfl
theorem cT {X:Type} (L:X → SL) (F:X → Heap → Prop) {x:Code} {s:Env} (hx:HW J w0 N x (uT (fun s' h'=>∃ g,eY s' (L g)∧F g h') Q) s h)
    (hn:∀ g r h',F g h' → Q .normal (aH (L g) r) h'):HW J w0 N x Q s h :=
  hx.mono fun e s' h' q=>by
    cases e with
    | normal=>obtain ⟨g,hA,hF⟩:=q; have:=hn g s' h' hF; rw [← iK hA] at this; exact this
    | _=>exact q
theorem gA {next:Env → Heap → Prop} {s:Env} (q:Q .ret s h):uT next Q .ret s h:=q
theorem fJ {id:Nat} {s:Env} (q:Q .ret s h):yH id Q .ret s h:=q
end
end
section
open Go.Conc
section
variable {P:Program} {J:eM P} {ops:Array Oper} {Q:Exit → Act → World → Prop} {md:Region.Mode} {S S' : World → Prop}
theorem wY (hS:∀ w,S' w → S w):∀ (fuel:Nat) (listed:Array Bool) (a:Act) (w:World),qZ J md ops Q S' fuel listed a w → qZ J md ops Q S fuel listed a w
  | 0,_,_,_,h=>h
  | fuel + 1,_,_,_,h=>⟨h.1,fun i hi=>OpX.mono (fun _ _ x=>⟨x.1.imp (hS _) id,wY hS fuel _ _ _ x.2⟩) (h.2 i hi)⟩
end
section
variable {P:Program} {J:eM P} {w0:World} {N:Nat} {ops:List Oper} {Q:HQ} {H H' : Heap → Prop} {L:SL} {r:Env} {s:Env} {h:Heap} {fuel:Nat} {listed:List Bool} {i:Nat} {dn:Nat} {op:Op} {ty:TypeId} {ps:String} {af:Array Edge}
theorem HA.mono (k:HA J w0 N ops H' fuel listed Q s h) (hH:∀ h,H' h → H h):HA J w0 N ops H fuel listed Q s h :=
  fun a w hr hs hh=>wY (fun w x=>⟨x.1,hH _ x.2⟩) _ _ _ _ (k a w hr hs hh)
def HA1 (J:eM P) (w0:World) (N:Nat) (ops:List Oper) (fuel:Nat) (listed:List Bool) (Q:HQ) (s:Env) (h:Heap):Prop:=HA J w0 N ops (fun h'=>h = h') fuel listed Q s h
def HA2 (J:eM P) (w0:World) (N:Nat) (ops:List Oper) (S:Nat → Prop) (fuel:Nat) (listed:List Bool) (Q:HQ) (s:Env) (h:Heap):Prop:=HA J w0 N ops (fun h'=>Mod S h h') fuel listed Q s h
theorem qO {id:Nat} (n:Nat) (hm:P.follows .mixedOrders = true) (hx:HA1 J w0 N ops n (List.replicate n false) Q (aH L r) h) (hn:ops.length = n:=by rfl):HW J w0 N (.region id ops.toArray true) Q (aH L r) h:=by
  subst hn; exact pI hm hx
theorem bH {id:Nat} (n:Nat) (S:Nat → Prop) (hm:P.follows .mixedOrders = true) (hx:HA2 J w0 N ops S n (List.replicate n false) Q (aH L r) h) (hn:ops.length = n:=by rfl):HW J w0 N (.region id ops.toArray true) Q (aH L r) h:=by
  subst hn; exact pI hm hx
theorem fN (hq:Q .normal (aH L r) h) (hr:Region.ready .any ops.toArray listed.toArray = []:=by kernel_rfl):HA1 J w0 N ops fuel listed Q (aH L r) h:=xV hr hq
theorem cN {S:Nat → Prop} (hq:Q .normal (aH L r) h) (hr:Region.ready .any ops.toArray listed.toArray = []:=by kernel_rfl):HA2 J w0 N ops S fuel listed Q (aH L r) h:=xV hr hq
theorem cZ {v:Value} (i:Nat) (hi:ops[i]? = some { dst:=some dn,op:=op,type:=ty,pos:=ps,after:=af,guard:=none }) (hy:Y P (aH L r) h op ty v) (hn:HA1 J w0 N ops fuel (listed.set i true) Q (aH ((dn,v) :: L) r) h)
    (hok:kJ ops listed i = true:=by kernel_rfl) (hd:Nat.blt dn N = true:=by rfl):HA1 J w0 N ops (fuel + 1) listed Q (aH L r) h :=
  aBK hi hok rfl (fun h' e=>e ▸ hy) hd hn
theorem bP {v:Value} {j dj:Nat} {want t:Bool} (i:Nat) (hi:ops[i]? = some { dst:=some dn,op:=op,type:=ty,pos:=ps,after:=af,guard:=some (j,want) }) (hw:t = want) (hy:Y P (aH L r) h op ty v) (hn:HA1 J w0 N ops fuel (listed.set i true) Q (aH ((dn,v) :: L) r) h)
    (hj:(ops[j]?).bind (·.dst) = some dj:=by rfl) (ht:aH L r dj = .bool t:=by (simp only [aH,reduceIte,Nat.reduceEqDiff,reduceCtorEq] <;> rfl))
    (hok:kJ ops listed i = true:=by kernel_rfl) (hd:Nat.blt dn N = true:=by rfl):HA1 J w0 N ops (fuel + 1) listed Q (aH L r) h :=
  aAh hi hok rfl hj (hw ▸ ht) (fun h' e=>e ▸ hy) hd hn
theorem bK {j dj:Nat} {want t:Bool} (i:Nat) (hi:ops[i]? = some { dst:=some dn,op:=op,type:=ty,pos:=ps,after:=af,guard:=some (j,want) }) (hne:t ≠ want) (hn:HA1 J w0 N ops fuel (listed.set i true) Q (aH ((dn,undef) :: L) r) h)
    (hj:(ops[j]?).bind (·.dst) = some dj:=by rfl) (ht:aH L r dj = .bool t:=by (simp only [aH,reduceIte,Nat.reduceEqDiff,reduceCtorEq] <;> rfl))
    (hok:fB ops listed i = true:=by kernel_rfl) (hd:Nat.blt dn N = true:=by rfl):HA1 J w0 N ops (fuel + 1) listed Q (aH L r) h :=
  aA7 hi hok hj ht hne hd hn
theorem rI {f:FuncId} {args:Array Value} {v0:Value} (i:Nat) (hi:ops[i]? = some { dst:=some dn,op:=op,type:=ty,pos:=ps,after:=af,guard:=none }) (he:Ent J (aH L r) h op ty f args) (hc:HC J w0 f args h fun v h'=>v = v0∧h' = h)
    (hn:HA1 J w0 N ops fuel (listed.set i true) Q (aH ((dn,v0) :: L) r) h) (hr:Region.ready .any ops.toArray listed.toArray = [i]:=by kernel_rfl) (hd:Nat.blt dn N = true:=by rfl):HA1 J w0 N ops (fuel + 1) listed Q (aH L r) h :=
  rH hr (aA6 hi he hc hd (by rintro v h' ⟨rfl,rfl⟩; exact ⟨rfl,hn⟩))
theorem aBL {j dj:Nat} {want t:Bool} {f:FuncId} {args:Array Value} {v0:Value} (i:Nat) (hi:ops[i]? = some { dst:=some dn,op:=op,type:=ty,pos:=ps,after:=af,guard:=some (j,want) }) (hw:t = want) (he:Ent J (aH L r) h op ty f args) (hc:HC J w0 f args h fun v h'=>v = v0∧h' = h)
    (hn:HA1 J w0 N ops fuel (listed.set i true) Q (aH ((dn,v0) :: L) r) h) (hj:(ops[j]?).bind (·.dst) = some dj:=by rfl) (ht:aH L r dj = .bool t:=by (simp only [aH,reduceIte,Nat.reduceEqDiff,reduceCtorEq] <;> rfl))
    (hr:Region.ready .any ops.toArray listed.toArray = [i]:=by kernel_rfl) (hd:Nat.blt dn N = true:=by rfl):HA1 J w0 N ops (fuel + 1) listed Q (aH L r) h :=
  rH hr (xT hi hj (hw ▸ ht) he hc hd (by rintro v h' ⟨rfl,rfl⟩; exact ⟨rfl,hn⟩))
theorem bG {v:Value} (i:Nat) (hi:ops[i]? = some { dst:=some dn,op:=op,type:=ty,pos:=ps,after:=af,guard:=none }) (hy:∀ h',Y P (aH L r) h' op ty v) (hn:HA J w0 N ops H fuel (listed.set i true) Q (aH ((dn,v) :: L) r) h)
    (hok:fB ops listed i = true:=by kernel_rfl) (hd:Nat.blt dn N = true:=by rfl):HA J w0 N ops H (fuel + 1) listed Q (aH L r) h :=
  aAg hi hok hy hd hn
theorem hf_gp {v:Value} {j dj:Nat} {want t:Bool} (i:Nat) (hi:ops[i]? = some { dst:=some dn,op:=op,type:=ty,pos:=ps,after:=af,guard:=some (j,want) }) (hw:t = want) (hy:∀ h',Y P (aH L r) h' op ty v) (hn:HA J w0 N ops H fuel (listed.set i true) Q (aH ((dn,v) :: L) r) h)
    (hj:(ops[j]?).bind (·.dst) = some dj:=by rfl) (ht:aH L r dj = .bool t:=by (simp only [aH,reduceIte,Nat.reduceEqDiff,reduceCtorEq] <;> rfl))
    (hok:fB ops listed i = true:=by kernel_rfl) (hd:Nat.blt dn N = true:=by rfl):HA J w0 N ops H (fuel + 1) listed Q (aH L r) h :=
  wQ hi hok hj (hw ▸ ht) hy hd hn
theorem hf_no {j dj:Nat} {want t:Bool} (i:Nat) (hi:ops[i]? = some { dst:=some dn,op:=op,type:=ty,pos:=ps,after:=af,guard:=some (j,want) }) (hne:t ≠ want) (hn:HA J w0 N ops H fuel (listed.set i true) Q (aH ((dn,undef) :: L) r) h)
    (hj:(ops[j]?).bind (·.dst) = some dj:=by rfl) (ht:aH L r dj = .bool t:=by (simp only [aH,reduceIte,Nat.reduceEqDiff,reduceCtorEq] <;> rfl))
    (hok:fB ops listed i = true:=by kernel_rfl) (hd:Nat.blt dn N = true:=by rfl):HA J w0 N ops H (fuel + 1) listed Q (aH L r) h :=
  aA7 hi hok hj ht hne hd hn
theorem bU {j dj:Nat} {want:Bool} (i:Nat) (hi:ops[i]? = some { dst:=some dn,op:=op,type:=ty,pos:=ps,after:=af,guard:=some (j,want) }) (hn:HA1 J w0 N ops fuel (listed.set i true) Q (aH ((dn,undef) :: L) r) h)
    (hj:(ops[j]?).bind (·.dst) = some dj:=by rfl) (ht:aH L r dj = undef:=by (simp only [aH,reduceIte,Nat.reduceEqDiff,reduceCtorEq] <;> rfl))
    (hok:fB ops listed i = true:=by kernel_rfl) (hd:Nat.blt dn N = true:=by rfl):HA1 J w0 N ops (fuel + 1) listed Q (aH L r) h :=
  aDg hi hok hj ht (fun a hr=>lQ hr (ops:=ops.toArray) (by simpa using hj) ht) hd hn
section two
variable {S:Nat → Prop}
theorem ha2_y {v:Value} (i:Nat) (hi:ops[i]? = some { dst:=some dn,op:=op,type:=ty,pos:=ps,after:=af,guard:=none }) (hy:∀ h',Mod S h h' → Y P (aH L r) h' op ty v) (hn:HA2 J w0 N ops S fuel (listed.set i true) Q (aH ((dn,v) :: L) r) h)
    (hok:kJ ops listed i = true:=by kernel_rfl) (hd:Nat.blt dn N = true:=by rfl):HA2 J w0 N ops S (fuel + 1) listed Q (aH L r) h :=
  aBK hi hok (Mod.refl _) hy hd hn
theorem ha2_gy {v:Value} {j dj:Nat} {want t:Bool} (i:Nat) (hi:ops[i]? = some { dst:=some dn,op:=op,type:=ty,pos:=ps,after:=af,guard:=some (j,want) }) (hw:t = want) (hy:∀ h',Mod S h h' → Y P (aH L r) h' op ty v) (hn:HA2 J w0 N ops S fuel (listed.set i true) Q (aH ((dn,v) :: L) r) h)
    (hj:(ops[j]?).bind (·.dst) = some dj:=by rfl) (ht:aH L r dj = .bool t:=by (simp only [aH,reduceIte,Nat.reduceEqDiff,reduceCtorEq] <;> rfl))
    (hok:kJ ops listed i = true:=by kernel_rfl) (hd:Nat.blt dn N = true:=by rfl):HA2 J w0 N ops S (fuel + 1) listed Q (aH L r) h :=
  aAh hi hok (Mod.refl _) hj (hw ▸ ht) hy hd hn
theorem ha2_p {v:Value} (i:Nat) (hi:ops[i]? = some { dst:=some dn,op:=op,type:=ty,pos:=ps,after:=af,guard:=none }) (hy:∀ h',Y P (aH L r) h' op ty v) (hn:HA2 J w0 N ops S fuel (listed.set i true) Q (aH ((dn,v) :: L) r) h)
    (hok:fB ops listed i = true:=by kernel_rfl) (hd:Nat.blt dn N = true:=by rfl):HA2 J w0 N ops S (fuel + 1) listed Q (aH L r) h :=
  aAg hi hok hy hd hn
theorem ha2_gp {v:Value} {j dj:Nat} {want t:Bool} (i:Nat) (hi:ops[i]? = some { dst:=some dn,op:=op,type:=ty,pos:=ps,after:=af,guard:=some (j,want) }) (hw:t = want) (hy:∀ h',Y P (aH L r) h' op ty v) (hn:HA2 J w0 N ops S fuel (listed.set i true) Q (aH ((dn,v) :: L) r) h)
    (hj:(ops[j]?).bind (·.dst) = some dj:=by rfl) (ht:aH L r dj = .bool t:=by (simp only [aH,reduceIte,Nat.reduceEqDiff,reduceCtorEq] <;> rfl))
    (hok:fB ops listed i = true:=by kernel_rfl) (hd:Nat.blt dn N = true:=by rfl):HA2 J w0 N ops S (fuel + 1) listed Q (aH L r) h :=
  wQ hi hok hj (hw ▸ ht) hy hd hn
theorem bR {j dj:Nat} {want t:Bool} (i:Nat) (hi:ops[i]? = some { dst:=some dn,op:=op,type:=ty,pos:=ps,after:=af,guard:=some (j,want) }) (hne:t ≠ want) (hn:HA2 J w0 N ops S fuel (listed.set i true) Q (aH ((dn,undef) :: L) r) h)
    (hj:(ops[j]?).bind (·.dst) = some dj:=by rfl) (ht:aH L r dj = .bool t:=by (simp only [aH,reduceIte,Nat.reduceEqDiff,reduceCtorEq] <;> rfl))
    (hok:fB ops listed i = true:=by kernel_rfl) (hd:Nat.blt dn N = true:=by rfl):HA2 J w0 N ops S (fuel + 1) listed Q (aH L r) h :=
  aA7 hi hok hj ht hne hd hn
theorem jU {j dj:Nat} {want:Bool} (i:Nat) (hi:ops[i]? = some { dst:=some dn,op:=op,type:=ty,pos:=ps,after:=af,guard:=some (j,want) }) (hn:HA2 J w0 N ops S fuel (listed.set i true) Q (aH ((dn,undef) :: L) r) h)
    (hj:(ops[j]?).bind (·.dst) = some dj:=by rfl) (ht:aH L r dj = undef:=by (simp only [aH,reduceIte,Nat.reduceEqDiff,reduceCtorEq] <;> rfl))
    (hok:fB ops listed i = true:=by kernel_rfl) (hd:Nat.blt dn N = true:=by rfl):HA2 J w0 N ops S (fuel + 1) listed Q (aH L r) h :=
  aDg hi hok hj ht (fun a hr=>lQ hr (ops:=ops.toArray) (by simpa using hj) ht) hd hn
theorem aW (i:Nat) (hx:lK J w0 N ops (fun h'=>Mod S h h') fuel listed Q (aH L r) h i) (hr:Region.ready .any ops.toArray listed.toArray = [i]:=by kernel_rfl):HA2 J w0 N ops S (fuel + 1) listed Q (aH L r) h:=rH hr hx
theorem dU (i j:Nat) (hx:lK J w0 N ops (fun h'=>Mod S h h') fuel listed Q (aH L r) h i) (hy:lK J w0 N ops (fun h'=>Mod S h h') fuel listed Q (aH L r) h j) (hr:Region.ready .any ops.toArray listed.toArray = [i,j]:=by kernel_rfl):HA2 J w0 N ops S (fuel + 1) listed Q (aH L r) h :=
  aA8 hr (by simp) (by intro k hk; simp at hk; rcases hk with rfl | rfl <;> assumption)
theorem aAi (i j k:Nat) (hx:lK J w0 N ops (fun h'=>Mod S h h') fuel listed Q (aH L r) h i) (hy:lK J w0 N ops (fun h'=>Mod S h h') fuel listed Q (aH L r) h j) (hz:lK J w0 N ops (fun h'=>Mod S h h') fuel listed Q (aH L r) h k) (hr:Region.ready .any ops.toArray listed.toArray = [i,j,k]:=by kernel_rfl):HA2 J w0 N ops S (fuel + 1) listed Q (aH L r) h :=
  aA8 hr (by simp) (by intro n hn; simp at hn; rcases hn with rfl | rfl | rfl <;> assumption)
theorem ho_cp {f:FuncId} {args:Array Value} {v0:Value} (hi:ops[i]? = some { dst:=some dn,op:=op,type:=ty,pos:=ps,after:=af,guard:=none }) (he:Ent J (aH L r) h op ty f args) (hc:HC J w0 f args h fun v h'=>v = v0∧h' = h) (hn:HA2 J w0 N ops S fuel (listed.set i true) Q (aH ((dn,v0) :: L) r) h) (hd:Nat.blt dn N = true:=by rfl) :
    lK J w0 N ops (fun h'=>Mod S h h') fuel listed Q (aH L r) h i :=
  aA6 hi he hc hd (by rintro v h' ⟨rfl,rfl⟩; exact ⟨Mod.refl _,hn⟩)
theorem aDc {j dj:Nat} {want t:Bool} {f:FuncId} {args:Array Value} {v0:Value} (hi:ops[i]? = some { dst:=some dn,op:=op,type:=ty,pos:=ps,after:=af,guard:=some (j,want) }) (hw:t = want) (he:Ent J (aH L r) h op ty f args) (hc:HC J w0 f args h fun v h'=>v = v0∧h' = h) (hn:HA2 J w0 N ops S fuel (listed.set i true) Q (aH ((dn,v0) :: L) r) h)
    (hj:(ops[j]?).bind (·.dst) = some dj:=by rfl) (ht:aH L r dj = .bool t:=by (simp only [aH,reduceIte,Nat.reduceEqDiff,reduceCtorEq] <;> rfl)) (hd:Nat.blt dn N = true:=by rfl) :
    lK J w0 N ops (fun h'=>Mod S h h') fuel listed Q (aH L r) h i :=
  xT hi hj (hw ▸ ht) he hc hd (by rintro v h' ⟨rfl,rfl⟩; exact ⟨Mod.refl _,hn⟩)
theorem cB {R:Value → Heap → Prop} (hi:ops[i]? = some { dst:=some dn,op:=op,type:=ty,pos:=ps,after:=af,guard:=none }) (he:E J (aH L r) h op ty R) (hn:∀ v h',R v h' → Mod S h h' ∧ HA2 J w0 N ops S fuel (listed.set i true) Q (aH ((dn,v) :: L) r) h') (hd:Nat.blt dn N = true:=by rfl) :
    lK J w0 N ops (fun h'=>Mod S h h') fuel listed Q (aH L r) h i :=
  aDb hi he hd fun v h' hR=>⟨(hn v h' hR).1,HA.mono (hn v h' hR).2 fun _ hm=>(hn v h' hR).1.trans hm⟩
theorem cY {R:Value → Heap → Prop} (hi:ops[i]? = some { dst:=none,op:=op,type:=ty,pos:=ps,after:=af,guard:=none }) (he:E J (aH L r) h op ty R) (hn:∀ v h',R v h' → Mod S h h' ∧ HA2 J w0 N ops S fuel (listed.set i true) Q (aH L r) h') :
    lK J w0 N ops (fun h'=>Mod S h h') fuel listed Q (aH L r) h i :=
  aDb hi he rfl fun v h' hR=>⟨(hn v h' hR).1,HA.mono (hn v h' hR).2 fun _ hm=>(hn v h' hR).1.trans hm⟩
theorem lN {R:Value → Heap → Prop} (hi:ops[i]? = some { dst:=none,op:=op,type:=ty,pos:=ps,after:=af,guard:=none }) (he:E J (aH L r) h op ty R) (hn:∀ v h',R v h' → Q .normal (aH L r) h')
    (hl:jK .any ops.toArray i = true:=by kernel_rfl) (hr0:Region.ready .any ops.toArray (listed.set i true).toArray = []:=by kernel_rfl):lK J w0 N ops (fun h'=>Mod S h h') fuel listed Q (aH L r) h i :=
  aCi hi he rfl hn hl hr0
theorem cC {f:FuncId} {args:Array Value} {Post:Value → Heap → Prop} (hi:ops[i]? = some { dst:=some dn,op:=op,type:=ty,pos:=ps,after:=af,guard:=none }) (he:Ent J (aH L r) h op ty f args) (hc:HC J w0 f args h Post) (hn:∀ v h',Post v h' → Mod S h h' ∧ HA2 J w0 N ops S fuel (listed.set i true) Q (aH ((dn,v) :: L) r) h') (hd:Nat.blt dn N = true:=by rfl) :
    lK J w0 N ops (fun h'=>Mod S h h') fuel listed Q (aH L r) h i :=
  aA6 hi he hc hd fun v h' hR=>⟨(hn v h' hR).1,HA.mono (hn v h' hR).2 fun _ hm=>(hn v h' hR).1.trans hm⟩
theorem aBH {j dj:Nat} {want t:Bool} {f:FuncId} {args:Array Value} {Post:Value → Heap → Prop} (hi:ops[i]? = some { dst:=some dn,op:=op,type:=ty,pos:=ps,after:=af,guard:=some (j,want) }) (hw:t = want) (he:Ent J (aH L r) h op ty f args) (hc:HC J w0 f args h Post) (hn:∀ v h',Post v h' → Mod S h h' ∧ HA2 J w0 N ops S fuel (listed.set i true) Q (aH ((dn,v) :: L) r) h')
    (hj:(ops[j]?).bind (·.dst) = some dj:=by rfl) (ht:aH L r dj = .bool t:=by (simp only [aH,reduceIte,Nat.reduceEqDiff,reduceCtorEq] <;> rfl)) (hd:Nat.blt dn N = true:=by rfl) :
    lK J w0 N ops (fun h'=>Mod S h h') fuel listed Q (aH L r) h i :=
  xT hi hj (hw ▸ ht) he hc hd fun v h' hR=>⟨(hn v h' hR).1,HA.mono (hn v h' hR).2 fun _ hm=>(hn v h' hR).1.trans hm⟩
end two
end
end
section
open Go.Conc
structure Row where
  key:Str
  num:Int
  deriving DecidableEq
structure Ver where
  key:Str
  num:Int
  fr:Int
  to:Int
  deriving DecidableEq
structure Write where
  key:Str
  num:Int
  gone:Bool
  deriving DecidableEq
structure Ask where
  kind:Int
  key:Str
  hi:Str
  num:Int
  deriving DecidableEq
structure Named where
  name:Str
  ask:Ask
  deriving DecidableEq
structure Letter where
  sign:Str
  body:Str
  deriving DecidableEq
structure cD where
  now:Int
  list:List Ver
  deriving DecidableEq
structure kU where
  at' : Int
  writes:List Write
  deriving DecidableEq
structure iX where
  on:Bool
  bad:Bool
  work:kU
  deriving DecidableEq
structure cS where
  seat:iX
  names:List Named
  skip:Bool
  gone:Bool
  inn:Str
  deriving DecidableEq
abbrev encAsk (a:Ask):List Value:=[vi a.kind,vs a.key,vs a.hi,vi a.num]
instance :Flat Row:=⟨2,fun x=>[vs x.key,vi x.num],fun _=>rfl,by decide⟩
instance :Flat Ver:=⟨4,fun x=>[vs x.key,vi x.num,vi x.fr,vi x.to],fun _=>rfl,by decide⟩
instance :Flat Write:=⟨3,fun x=>[vs x.key,vi x.num,vb x.gone],fun _=>rfl,by decide⟩
instance :Flat Named:=⟨5,fun x=>vs x.name :: encAsk x.ask,fun _=>rfl,by decide⟩
instance :Flat Letter:=⟨2,fun x=>[vs x.sign,vs x.body],fun _=>rfl,by decide⟩
instance :oM Row:=⟨fun x u hu=>by simp [Flat.enc] at hu; rcases hu with rfl | rfl <;> rfl⟩
instance :oM Ver:=⟨fun x u hu=>by simp [Flat.enc] at hu; rcases hu with rfl | rfl | rfl | rfl <;> rfl⟩
instance :oM Write:=⟨fun x u hu=>by simp [Flat.enc] at hu; rcases hu with rfl | rfl | rfl <;> rfl⟩
instance :oM Named:=⟨fun x u hu=>by simp [Flat.enc] at hu; rcases hu with rfl | rfl | rfl | rfl | rfl <;> rfl⟩
instance :oM Letter:=⟨fun x u hu=>by simp [Flat.enc] at hu; rcases hu with rfl | rfl <;> rfl⟩
abbrev SB (s:Str):Prop:=s.length ≤ 4294967296
class Ok (α:Type) where ok:α → Prop
instance :Ok Row:=⟨fun x=>SB x.key⟩
instance :Ok Ver:=⟨fun x=>SB x.key⟩
instance :Ok Write:=⟨fun x=>SB x.key⟩
instance :Ok Named:=⟨fun x=>SB x.name∧SB x.ask.key∧SB x.ask.hi⟩
instance :Ok Letter:=⟨fun x=>SB x.sign∧SB x.body⟩
instance :Ok Str:=⟨SB⟩
instance :Ok Int:=⟨fun _=>True⟩
instance :Ok UInt8:=⟨fun _=>True⟩
structure OkL {α:Type} [Ok α] (l:List α):Prop where
  len:l.length ≤ 4294967296
  all:∀ x ∈ l,Ok.ok x
theorem OkL.at {α:Type} [Ok α] {l:List α} (h:OkL l) {k:Nat} {x:α} (hx:l[k]? = some x):Ok.ok x:=h.all x (List.mem_of_getElem? hx)
theorem OkL.take {α:Type} [Ok α] {l:List α} (h:OkL l) (k:Nat):OkL (l.take k):=⟨Nat.le_trans (by rw [List.length_take]; omega) h.len,fun x hx=>h.all x (List.mem_of_mem_take hx)⟩
theorem OkL.drop {α:Type} [Ok α] {l:List α} (h:OkL l) (k:Nat):OkL (l.drop k):=⟨Nat.le_trans (by rw [List.length_drop]; omega) h.len,fun x hx=>h.all x (List.mem_of_mem_drop hx)⟩
theorem OkL.app {α:Type} [Ok α] {l m:List α} (h:OkL l) (k:OkL m) (hl:l.length + m.length ≤ 4294967296):OkL (l ++ m):=⟨by rw [List.length_append]; exact hl,fun x hx=>(List.mem_append.1 hx).elim (h.all x) (k.all x)⟩
theorem OkL.nil {α:Type} [Ok α]:OkL ([]:List α):=⟨by simp,fun x hx=>by cases hx⟩
theorem OkL.cons {α:Type} [Ok α] {l:List α} {x:α} (hx:Ok.ok x) (h:OkL l) (hl:l.length + 1 ≤ 4294967296):OkL (x :: l):=⟨hl,fun y hy=>(List.mem_cons.1 hy).elim (fun e=>e ▸ hx) (h.all y)⟩
theorem OkL.one {α:Type} [Ok α] {x:α} (hx:Ok.ok x):OkL [x]:=.cons hx .nil (by simp)
theorem OkL.set {α:Type} [Ok α] {l:List α} (h:OkL l) {i:Nat} {x:α} (hx:Ok.ok x):OkL (l.set i x):=⟨by rw [List.length_set]; exact h.len,fun y hy=>(List.mem_or_eq_of_mem_set hy).elim (h.all y) (fun e=>e ▸ hx)⟩
end
section
open Go.Conc
section
variable {α:Type} [Flat α] {h h' h0:Heap} {X S:Nat → Prop} {v v' : Value} {l l' : List α} {B b b' : Nat} {E T:TypeId} {cs cs' : List Value}
theorem Blk.set {T' : TypeId} (k:Blk h b' cs' T') (q:fQ h b cs T h') (hX:b' ≠ b):Blk h' b' cs' T':=k.mod q.2.1 hX
theorem Own.set (k:Own h B v l E) (q:fQ h b cs T h') (hX:¬ vblk v b):Own h' B v l E:=k.mod q.2.1 fun c hc e=>hX (e ▸ hc)
theorem Le.set (k:Le h0 h) (q:fQ h b cs T h') (hX:h0.size ≤ b):Le h0 h':=q.2.1.after k fun x e=>e ▸ hX
theorem Mod.set (k:Mod S h0 h) (q:fQ h b cs T h') (hX:h0.size ≤ b):Mod S h0 h' :=
  ⟨Nat.le_trans k.1 q.2.1.1,fun x hx hS=>(q.2.1.2 x (Nat.lt_of_lt_of_le hx k.1) (fun e=>by omega)).trans (k.2 x hx hS)⟩
theorem Own.vb (k:Own h B v l E) {c:Nat} (hc:vblk v c):B ≤ c∧c < h.size:=⟨(k.blk hc).1,(k.blk hc).2.1⟩
section app
variable {β:Type} [Flat β] {u u' : Value} {m m' : List β} {B' : Nat} {E' : TypeId}
theorem Blk.app (k:Blk h b cs T) (q:App h B' u m' E' u' h') (hX:¬ vblk u b):Blk h' b cs T:=k.mod q.2.1 hX
theorem Own.app (k:Own h B v l E) (q:App h B' u m' E' u' h') (hX:∀ b,vblk v b → ¬ vblk u b):Own h' B v l E:=k.mod q.2.1 hX
theorem Le.app (k:Le h0 h) (o:Own h B' u m E') (q:App h B' u m' E' u' h') (hX:h0.size ≤ B'):Le h0 h':=q.2.1.after k fun x hv=>Nat.le_trans hX (o.vb hv).1
theorem Mod.app (k:Mod S h0 h) (o:Own h B' u m E') (q:App h B' u m' E' u' h') (hX:h0.size ≤ B'):Mod S h0 h' :=
  ⟨Nat.le_trans k.1 q.2.1.1,fun x hx hS=>(q.2.1.2 x (Nat.lt_of_lt_of_le hx k.1) (fun e=>by have:=(o.vb e).1; omega)).trans (k.2 x hx hS)⟩
end app
theorem RdF.form3 (k:RdF h X v l):∃ A n c,v = .slice A n c:=by obtain ⟨A,c,e⟩:=k.form; exact ⟨A,_,c,e⟩
theorem Own.form (k:Own h B v l E):∃ A n c,v = .slice A n c:=RdF.form3 k.rd
def aAA (h:Heap) (B:Nat) (v:Value) (l:List α) (E:TypeId) (h' : Heap):Prop:=Own h' B v l E∧Mod (vblk v) h h' ∧ h'.size = h.size
theorem Blk.sel {β:Type} [Flat β] {u:Value} {m:List β} {B' : Nat} {E' : TypeId} (k:Blk h b cs T) (q:aAA h B' u m E' h') (hX:¬ vblk u b):Blk h' b cs T:=k.mod q.2.1 hX
end
theorem dC {v:Value} {n b:Nat} (h:vblk (cutHi n v) b):vblk v b:=by
  obtain ⟨o,m,c,e⟩:=h
  cases v <;> simp only [cutHi] at e <;> try cases e
  exact ⟨_,_,_,rfl⟩
theorem aDo {α:Type} [Flat α] (l:List α) (i:Nat) (x x' : α) (hi:l[i]? = some x) (j:Nat) (us:List Value) (hj:j + us.length ≤ Flat.n α) (he:Flat.enc x' = (Flat.enc x).take j ++ us ++ (Flat.enc x).drop (j + us.length)) :
    (encs l).take (i * Flat.n α + j) ++ us ++ (encs l).drop (i * Flat.n α + j + us.length) = encs (l.set i x'):=by
  induction l generalizing i with
  | nil=>simp at hi
  | cons a l ih =>
    cases i with
    | zero =>
      obtain rfl:=Option.some.inj hi
      have hl:=Flat.len a
      simp only [encs,List.flatMap_cons,Nat.zero_mul,Nat.zero_add,List.set_cons_zero,he]
      rw [List.take_append_of_le_length (by omega),List.drop_append_of_le_length (by omega)]
      simp
    | succ i =>
      have hi' : l[i]? = some x:=by simpa using hi
      have hl:=Flat.len a
      simp only [encs,List.flatMap_cons,List.set_cons_succ] at ih ⊢
      rw [← ih i hi']
      rw [show (i + 1) * Flat.n α + j = (Flat.enc a).length + (i * Flat.n α + j) by rw [hl,Nat.succ_mul]; omega]
      rw [List.take_length_add_append,show (Flat.enc a).length + (i * Flat.n α + j) + us.length = (Flat.enc a).length + (i * Flat.n α + j + us.length) by omega,List.drop_length_add_append]
      simp
section
variable {P:Program} {J:eM P} {s:Env} {h:Heap} {ty:TypeId} {x y:Operand} {t e:TypeId}
theorem aBP {α:Type} [Flat α] (hJ:∀ l,J.wr l) {B n:Nat} {v u:Value} {l:List α} {E' : TypeId} [hz:eG P t n] (o:Own h B v l E') {i:Nat} {z:α} (hi:l[i]? = some z) (z' : α) (j:Nat) (us:List Value)
    (he:Flat.enc z' = (Flat.enc z).take j ++ us ++ (Flat.enc z).drop (j + us.length):=by rfl) (hx:ev s x = .pointer (some ((elA v (i * Flat.n α)).add j)):=by (simp only [ev,aH,reduceIte,Nat.reduceEqDiff,reduceCtorEq] <;> rfl)) (hy:ev s y = u:=by (simp only [ev,aH,reduceIte,Nat.reduceEqDiff,reduceCtorEq] <;> rfl)) (hu:u.cells = us.toArray:=by rfl) (hn:us.length = n:=by rfl)
    (ho:us.all (·.oneCell') = true:=by rfl) (hl:Nat.ble (j + us.length) (Flat.n α) = true:=by rfl):E J s h (.store t x y) ty (fun w h'=>w = undef∧aAA h B v (l.set i z') E' h'):=by
  intro ps af g d w hh
  subst hh
  have hl':=Nat.le_of_ble_eq_true hl
  rcases o with ⟨rfl,rfl⟩ | ⟨b,cap,rest,rfl,h2,h3,h4,h5,h6⟩
  · simp at hi
  have hlt:=(List.getElem?_eq_some_iff.1 hi).1
  have hil:i * Flat.n α + Flat.n α ≤ l.length * Flat.n α:=by rw [← Nat.succ_mul]; exact Nat.mul_le_mul_right _ hlt
  have ha:(elA (.slice (some ⟨b,0,none⟩) l.length cap) (i * Flat.n α)).add j = ⟨b,i * Flat.n α + j,none⟩:=by
    simp only [elA]
    rw [jZ]
    unfold Addr.add; split
    · rename_i h; rw [h]
    · simp
  rw [ha] at hx
  have hlen:(encs l).length = l.length * Flat.n α:=gP l
  obtain ⟨w',r1,r2,r3,r4⟩:=gN (P:=P) (off:=i * Flat.n α + j) us 0 w (encs l ++ rest) h3 (by rw [List.length_append,hlen]; omega) (by simpa using ho)
  have he2:(encs l ++ rest).take (i * Flat.n α + j + 0) ++ us ++ (encs l ++ rest).drop (i * Flat.n α + j + 0 + us.length) = encs (l.set i z') ++ rest:=by
    rw [← aDo l i z z' hi j us hl' he,Nat.add_zero,List.take_append_of_le_length (by omega),List.drop_append_of_le_length (by omega)]
    simp
  rw [he2] at r3
  refine ⟨undef,w',.inr ⟨?_,rfl⟩,r2,fun ev' hev=>⟨?_,fun _=>hJ _⟩,rfl,⟨.inr ⟨b,cap,rest,by rw [List.length_set],h2,r3.2.2,by rw [List.length_set]; exact h4,h5,by rw [List.length_set]; exact h6⟩,r3.2.1.mono (fun c _ hc=>by subst hc; exact ⟨0,_,_,rfl⟩),r3.1⟩⟩
  · simp [execOp,Instr.storeAt,hx,hy,Instr.sureAddr,storeVar,oT hz.h,hu,hn,r1]
  · simp [execOp,Instr.storeAt,hx,hy,Instr.sureAddr,storeVar,oT hz.h,hu,hn] at hev
    exact r4 #[] (by simp) ev' hev
end
theorem aP {P:Program} (l:Loc):(XM P).wr l:=trivial
end
section
open Go.Conc
noncomputable abbrev PP:=Tryz.prog
theorem bC:PP.follows .mixedOrders = true:=by kernel_rfl
instance :oL PP 2:=⟨_,Tryz.underlying2⟩
instance :qY PP 2 .i64:=⟨Tryz.underlying2⟩
instance :oL PP 3:=⟨_,Tryz.underlying3⟩
instance :qY PP 3 .i64:=⟨Tryz.underlying3⟩
instance :rN PP 3:=⟨by kernel_rfl⟩
instance :eG PP 3 1:=⟨by kernel_rfl⟩
instance :hI PP 3 [.int .i64 0]:=⟨.int .i64 0,by kernel_rfl,rfl⟩
instance :rN PP 4:=⟨by kernel_rfl⟩
instance :eG PP 4 1:=⟨by kernel_rfl⟩
instance :oL PP 5:=⟨_,Tryz.underlying5⟩
instance :qY PP 5 .u8:=⟨Tryz.underlying5⟩
instance :rN PP 5:=⟨by kernel_rfl⟩
instance :eG PP 5 1:=⟨by kernel_rfl⟩
instance :lJ PP 5 1:=⟨by kernel_rfl⟩
instance :hI PP 5 [.int .u8 0]:=⟨.int .u8 0,by kernel_rfl,rfl⟩
instance :sN PP 9:=⟨Tryz.underlying9⟩
instance :rN PP 9:=⟨by kernel_rfl⟩
instance :eG PP 9 1:=⟨by kernel_rfl⟩
instance :lJ PP 9 16:=⟨by kernel_rfl⟩
instance :hI PP 9 [vs []]:=⟨vs [],by kernel_rfl,rfl⟩
instance :fA PP 22 5:=⟨Tryz.underlying22⟩
instance :rN PP 22:=⟨by kernel_rfl⟩
instance :eG PP 22 1:=⟨by kernel_rfl⟩
instance :fA PP 23 28:=⟨Tryz.underlying23⟩
instance :eG PP 28 2:=⟨by kernel_rfl⟩
instance :lJ PP 28 32:=⟨by kernel_rfl⟩
instance :oO PP 28 2:=⟨by kernel_rfl⟩
instance :hI PP 28 [vs [],vs []]:=⟨.agg #[vs [],vs []],by kernel_rfl,rfl⟩
instance :gK PP 28 [(0,1),(1,1)] [vs [],vs []]:=⟨_,.agg #[vs [],vs []],Tryz.underlying28,by kernel_rfl,by kernel_rfl,rfl⟩
instance :dP PP 28 0 0:=⟨_,_,Tryz.underlying28,rfl,rfl,1,by kernel_rfl,by decide⟩
instance :dP PP 28 1 1:=⟨_,_,Tryz.underlying28,rfl,rfl,1,by kernel_rfl,by decide⟩
instance :rN PP 41:=⟨by kernel_rfl⟩
instance :eG PP 41 1:=⟨by kernel_rfl⟩
instance :eG PP 43 2:=⟨by kernel_rfl⟩
instance :hI PP 43 [.pointer none,.slice none 0 0]:=⟨.agg #[.pointer none,.slice none 0 0],by kernel_rfl,rfl⟩
instance :dP PP 43 0 0:=⟨_,_,Tryz.underlying43,rfl,rfl,1,by kernel_rfl,by decide⟩
instance :dP PP 43 1 1:=⟨_,_,Tryz.underlying43,rfl,rfl,1,by kernel_rfl,by decide⟩
instance :fA PP 50 109:=⟨Tryz.underlying50⟩
instance :rN PP 50:=⟨by kernel_rfl⟩
instance :eG PP 50 1:=⟨by kernel_rfl⟩
instance :eG PP 52 2:=⟨by kernel_rfl⟩
instance :oO PP 52 2:=⟨by kernel_rfl⟩
instance :hI PP 52 [.int .i64 0,.slice none 0 0]:=⟨.agg #[.int .i64 0,.slice none 0 0],by kernel_rfl,rfl⟩
instance :gK PP 52 [(0,1),(1,1)] [.int .i64 0,.slice none 0 0]:=⟨_,.agg #[.int .i64 0,.slice none 0 0],Tryz.underlying52,by kernel_rfl,by kernel_rfl,rfl⟩
instance :dP PP 52 0 0:=⟨_,_,Tryz.underlying52,rfl,rfl,1,by kernel_rfl,by decide⟩
instance :dP PP 52 1 1:=⟨_,_,Tryz.underlying52,rfl,rfl,1,by kernel_rfl,by decide⟩
instance :fA PP 53 107:=⟨Tryz.underlying53⟩
instance :rN PP 53:=⟨by kernel_rfl⟩
instance :eG PP 55 2:=⟨by kernel_rfl⟩
instance :oO PP 55 2:=⟨by kernel_rfl⟩
instance :hI PP 55 [.int .i64 0,.slice none 0 0]:=⟨.agg #[.int .i64 0,.slice none 0 0],by kernel_rfl,rfl⟩
instance :gK PP 55 [(0,1),(1,1)] [.int .i64 0,.slice none 0 0]:=⟨_,.agg #[.int .i64 0,.slice none 0 0],Tryz.underlying55,by kernel_rfl,by kernel_rfl,rfl⟩
instance :dP PP 55 0 0:=⟨_,_,Tryz.underlying55,rfl,rfl,1,by kernel_rfl,by decide⟩
instance :dP PP 55 1 1:=⟨_,_,Tryz.underlying55,rfl,rfl,1,by kernel_rfl,by decide⟩
instance :eG PP 57 4:=⟨by kernel_rfl⟩
instance :oO PP 57 4:=⟨by kernel_rfl⟩
instance :hI PP 57 [.bool false,.bool false,.int .i64 0,.slice none 0 0]:=⟨.agg #[.bool false,.bool false,.int .i64 0,.slice none 0 0],by kernel_rfl,rfl⟩
instance :gK PP 57 [(0,1),(1,1),(2,2)] [.bool false,.bool false,.int .i64 0,.slice none 0 0]:=⟨_,.agg #[.bool false,.bool false,.int .i64 0,.slice none 0 0],Tryz.underlying57,by kernel_rfl,by kernel_rfl,rfl⟩
instance :dP PP 57 0 0:=⟨_,_,Tryz.underlying57,rfl,rfl,1,by kernel_rfl,by decide⟩
instance :dP PP 57 1 1:=⟨_,_,Tryz.underlying57,rfl,rfl,1,by kernel_rfl,by decide⟩
instance :dP PP 57 2 2:=⟨_,_,Tryz.underlying57,rfl,rfl,2,by kernel_rfl,by decide⟩
instance :fA PP 58 121:=⟨Tryz.underlying58⟩
instance :rN PP 58:=⟨by kernel_rfl⟩
instance :eG PP 58 1:=⟨by kernel_rfl⟩
instance :eG PP 60 8:=⟨by kernel_rfl⟩
instance :oO PP 60 8:=⟨by kernel_rfl⟩
instance :hI PP 60 [.bool false,.bool false,.int .i64 0,.slice none 0 0,.slice none 0 0,.bool false,.bool false,vs []]:=⟨.agg #[.bool false,.bool false,.int .i64 0,.slice none 0 0,.slice none 0 0,.bool false,.bool false,vs []],by kernel_rfl,rfl⟩
instance :gK PP 60 [(0,4),(4,1),(5,1),(6,1),(7,1)] [.bool false,.bool false,.int .i64 0,.slice none 0 0,.slice none 0 0,.bool false,.bool false,vs []]:=⟨_,.agg #[.bool false,.bool false,.int .i64 0,.slice none 0 0,.slice none 0 0,.bool false,.bool false,vs []],Tryz.underlying60,by kernel_rfl,by kernel_rfl,rfl⟩
instance :dP PP 60 0 0:=⟨_,_,Tryz.underlying60,rfl,rfl,4,by kernel_rfl,by decide⟩
instance :dP PP 60 1 4:=⟨_,_,Tryz.underlying60,rfl,rfl,1,by kernel_rfl,by decide⟩
instance :dP PP 60 2 5:=⟨_,_,Tryz.underlying60,rfl,rfl,1,by kernel_rfl,by decide⟩
instance :dP PP 60 3 6:=⟨_,_,Tryz.underlying60,rfl,rfl,1,by kernel_rfl,by decide⟩
instance :dP PP 60 4 7:=⟨_,_,Tryz.underlying60,rfl,rfl,1,by kernel_rfl,by decide⟩
instance :fA PP 67 3:=⟨Tryz.underlying67⟩
instance :gK PP 70 [(0,1),(1,1)] [.slice none 0 0,.int .i64 0]:=⟨_,.agg #[.slice none 0 0,.int .i64 0],Tryz.underlying70,by kernel_rfl,by kernel_rfl,rfl⟩
instance :dP PP 70 0 0:=⟨_,_,Tryz.underlying70,rfl,rfl,1,by kernel_rfl,by decide⟩
instance :dP PP 70 1 1:=⟨_,_,Tryz.underlying70,rfl,rfl,1,by kernel_rfl,by decide⟩
instance :rN PP 75:=⟨by kernel_rfl⟩
instance :fA PP 82 9:=⟨Tryz.underlying82⟩
instance :fA PP 89 111:=⟨Tryz.underlying89⟩
instance :eG PP 107 3:=⟨by kernel_rfl⟩
instance :lJ PP 107 32:=⟨by kernel_rfl⟩
instance :oO PP 107 3:=⟨by kernel_rfl⟩
instance :hI PP 107 [vs [],.int .i64 0,.bool false]:=⟨.agg #[vs [],.int .i64 0,.bool false],by kernel_rfl,rfl⟩
instance :gK PP 107 [(0,1),(1,1),(2,1)] [vs [],.int .i64 0,.bool false]:=⟨_,.agg #[vs [],.int .i64 0,.bool false],Tryz.underlying107,by kernel_rfl,by kernel_rfl,rfl⟩
instance :dP PP 107 0 0:=⟨_,_,Tryz.underlying107,rfl,rfl,1,by kernel_rfl,by decide⟩
instance :dP PP 107 1 1:=⟨_,_,Tryz.underlying107,rfl,rfl,1,by kernel_rfl,by decide⟩
instance :dP PP 107 2 2:=⟨_,_,Tryz.underlying107,rfl,rfl,1,by kernel_rfl,by decide⟩
instance :eG PP 109 4:=⟨by kernel_rfl⟩
instance :lJ PP 109 40:=⟨by kernel_rfl⟩
instance :oO PP 109 4:=⟨by kernel_rfl⟩
instance :hI PP 109 [vs [],.int .i64 0,.int .i64 0,.int .i64 0]:=⟨.agg #[vs [],.int .i64 0,.int .i64 0,.int .i64 0],by kernel_rfl,rfl⟩
instance :gK PP 109 [(0,1),(1,1),(2,1),(3,1)] [vs [],.int .i64 0,.int .i64 0,.int .i64 0]:=⟨_,.agg #[vs [],.int .i64 0,.int .i64 0,.int .i64 0],Tryz.underlying109,by kernel_rfl,by kernel_rfl,rfl⟩
instance :dP PP 109 0 0:=⟨_,_,Tryz.underlying109,rfl,rfl,1,by kernel_rfl,by decide⟩
instance :dP PP 109 1 1:=⟨_,_,Tryz.underlying109,rfl,rfl,1,by kernel_rfl,by decide⟩
instance :dP PP 109 2 2:=⟨_,_,Tryz.underlying109,rfl,rfl,1,by kernel_rfl,by decide⟩
instance :dP PP 109 3 3:=⟨_,_,Tryz.underlying109,rfl,rfl,1,by kernel_rfl,by decide⟩
instance :eG PP 111 2:=⟨by kernel_rfl⟩
instance :lJ PP 111 24:=⟨by kernel_rfl⟩
instance :oO PP 111 2:=⟨by kernel_rfl⟩
instance :hI PP 111 [vs [],.int .i64 0]:=⟨.agg #[vs [],.int .i64 0],by kernel_rfl,rfl⟩
instance :gK PP 111 [(0,1),(1,1)] [vs [],.int .i64 0]:=⟨_,.agg #[vs [],.int .i64 0],Tryz.underlying111,by kernel_rfl,by kernel_rfl,rfl⟩
instance :dP PP 111 0 0:=⟨_,_,Tryz.underlying111,rfl,rfl,1,by kernel_rfl,by decide⟩
instance :dP PP 111 1 1:=⟨_,_,Tryz.underlying111,rfl,rfl,1,by kernel_rfl,by decide⟩
instance :eG PP 118 4:=⟨by kernel_rfl⟩
instance :oO PP 118 4:=⟨by kernel_rfl⟩
instance :hI PP 118 [.int .i64 0,vs [],vs [],.int .i64 0]:=⟨.agg #[.int .i64 0,vs [],vs [],.int .i64 0],by kernel_rfl,rfl⟩
instance :gK PP 118 [(0,1),(1,1),(2,1),(3,1)] [.int .i64 0,vs [],vs [],.int .i64 0]:=⟨_,.agg #[.int .i64 0,vs [],vs [],.int .i64 0],Tryz.underlying118,by kernel_rfl,by kernel_rfl,rfl⟩
instance :dP PP 118 0 0:=⟨_,_,Tryz.underlying118,rfl,rfl,1,by kernel_rfl,by decide⟩
instance :dP PP 118 1 1:=⟨_,_,Tryz.underlying118,rfl,rfl,1,by kernel_rfl,by decide⟩
instance :dP PP 118 2 2:=⟨_,_,Tryz.underlying118,rfl,rfl,1,by kernel_rfl,by decide⟩
instance :dP PP 118 3 3:=⟨_,_,Tryz.underlying118,rfl,rfl,1,by kernel_rfl,by decide⟩
instance :eG PP 121 5:=⟨by kernel_rfl⟩
instance :lJ PP 121 64:=⟨by kernel_rfl⟩
instance :oO PP 121 5:=⟨by kernel_rfl⟩
instance :hI PP 121 [vs [],.int .i64 0,vs [],vs [],.int .i64 0]:=⟨.agg #[vs [],.int .i64 0,vs [],vs [],.int .i64 0],by kernel_rfl,rfl⟩
instance :gK PP 121 [(0,1),(1,4)] [vs [],.int .i64 0,vs [],vs [],.int .i64 0]:=⟨_,.agg #[vs [],.int .i64 0,vs [],vs [],.int .i64 0],Tryz.underlying121,by kernel_rfl,by kernel_rfl,rfl⟩
instance :dP PP 121 0 0:=⟨_,_,Tryz.underlying121,rfl,rfl,1,by kernel_rfl,by decide⟩
instance :dP PP 121 1 1:=⟨_,_,Tryz.underlying121,rfl,rfl,4,by kernel_rfl,by decide⟩
instance :oO PP 123 7:=⟨by kernel_rfl⟩
instance :gK PP 126 [(0,1),(1,1)] [.int .i64 0,.int .i64 0]:=⟨_,.agg #[.int .i64 0,.int .i64 0],Tryz.underlying126,by kernel_rfl,by kernel_rfl,rfl⟩
instance :dP PP 126 0 0:=⟨_,_,Tryz.underlying126,rfl,rfl,1,by kernel_rfl,by decide⟩
instance :dP PP 126 1 1:=⟨_,_,Tryz.underlying126,rfl,rfl,1,by kernel_rfl,by decide⟩
instance :qY PP 196 .u64:=⟨Tryz.underlying196⟩
instance :oL PP 199:=⟨_,Tryz.underlying199⟩
instance :qY PP 199 .u64:=⟨Tryz.underlying199⟩
instance :rN PP 199:=⟨by kernel_rfl⟩
instance :eG PP 199 1:=⟨by kernel_rfl⟩
instance :hI PP 205 [.int .u8 0,.int .u8 0,.int .u8 0,.int .u8 0,.int .u8 0,.int .u8 0,.int .u8 0,.int .u8 0,.int .u8 0,.int .u8 0,.int .u8 0,.int .u8 0,.int .u8 0,.int .u8 0,.int .u8 0,.int .u8 0,.int .u8 0,.int .u8 0,.int .u8 0,.int .u8 0,.int .u8 0,.int .u8 0,.int .u8 0,.int .u8 0]:=⟨.agg #[.int .u8 0,.int .u8 0,.int .u8 0,.int .u8 0,.int .u8 0,.int .u8 0,.int .u8 0,.int .u8 0,.int .u8 0,.int .u8 0,.int .u8 0,.int .u8 0,.int .u8 0,.int .u8 0,.int .u8 0,.int .u8 0,.int .u8 0,.int .u8 0,.int .u8 0,.int .u8 0,.int .u8 0,.int .u8 0,.int .u8 0,.int .u8 0],by kernel_rfl,rfl⟩
instance :oL PP 212:=⟨_,Tryz.underlying212⟩
instance :qY PP 212 .u32:=⟨Tryz.underlying212⟩
instance :gK PP 218 [(0,1),(1,1),(2,1)] [vs [],vs [],.nilIface]:=⟨_,.agg #[vs [],vs [],.nilIface],Tryz.underlying218,by kernel_rfl,by kernel_rfl,rfl⟩
instance :bS PP 5:=⟨by kernel_rfl⟩
instance :bS PP 6:=⟨by kernel_rfl⟩
instance :bS PP 7:=⟨by kernel_rfl⟩
instance :bS PP 8:=⟨by kernel_rfl⟩
instance :bS PP 9:=⟨by kernel_rfl⟩
instance :bS PP 10:=⟨by kernel_rfl⟩
instance :bS PP 11:=⟨by kernel_rfl⟩
instance :bS PP 12:=⟨by kernel_rfl⟩
instance :bS PP 13:=⟨by kernel_rfl⟩
instance :bS PP 14:=⟨by kernel_rfl⟩
instance :bS PP 15:=⟨by kernel_rfl⟩
instance :bS PP 16:=⟨by kernel_rfl⟩
instance :bS PP 17:=⟨by kernel_rfl⟩
instance :bS PP 18:=⟨by kernel_rfl⟩
instance :bS PP 19:=⟨by kernel_rfl⟩
instance :bS PP 20:=⟨by kernel_rfl⟩
instance :bS PP 21:=⟨by kernel_rfl⟩
instance :bS PP 22:=⟨by kernel_rfl⟩
instance :bS PP 23:=⟨by kernel_rfl⟩
instance :bS PP 24:=⟨by kernel_rfl⟩
instance :bS PP 25:=⟨by kernel_rfl⟩
instance :bS PP 26:=⟨by kernel_rfl⟩
instance :bS PP 27:=⟨by kernel_rfl⟩
instance :bS PP 28:=⟨by kernel_rfl⟩
instance :bS PP 29:=⟨by kernel_rfl⟩
instance :bS PP 30:=⟨by kernel_rfl⟩
instance :bS PP 31:=⟨by kernel_rfl⟩
instance :bS PP 32:=⟨by kernel_rfl⟩
instance :bS PP 33:=⟨by kernel_rfl⟩
instance :bS PP 34:=⟨by kernel_rfl⟩
instance :bS PP 35:=⟨by kernel_rfl⟩
instance :bS PP 36:=⟨by kernel_rfl⟩
instance :bS PP 37:=⟨by kernel_rfl⟩
instance :bS PP 38:=⟨by kernel_rfl⟩
instance :bS PP 39:=⟨by kernel_rfl⟩
instance :bS PP 40:=⟨by kernel_rfl⟩
instance :bS PP 41:=⟨by kernel_rfl⟩
instance :bS PP 42:=⟨by kernel_rfl⟩
instance :bS PP 43:=⟨by kernel_rfl⟩
instance :bS PP 44:=⟨by kernel_rfl⟩
instance :bS PP 45:=⟨by kernel_rfl⟩
instance :bS PP 46:=⟨by kernel_rfl⟩
instance :bS PP 47:=⟨by kernel_rfl⟩
instance :bS PP 48:=⟨by kernel_rfl⟩
instance :bS PP 49:=⟨by kernel_rfl⟩
instance :bS PP 50:=⟨by kernel_rfl⟩
instance :bS PP 51:=⟨by kernel_rfl⟩
instance :bS PP 52:=⟨by kernel_rfl⟩
instance :bS PP 53:=⟨by kernel_rfl⟩
instance :bS PP 54:=⟨by kernel_rfl⟩
instance :bS PP 55:=⟨by kernel_rfl⟩
instance :bS PP 56:=⟨by kernel_rfl⟩
instance :bS PP 57:=⟨by kernel_rfl⟩
instance :bS PP 58:=⟨by kernel_rfl⟩
instance :bS PP 59:=⟨by kernel_rfl⟩
instance :bS PP 60:=⟨by kernel_rfl⟩
instance :bS PP 61:=⟨by kernel_rfl⟩
instance :bS PP 62:=⟨by kernel_rfl⟩
instance :bS PP 63:=⟨by kernel_rfl⟩
instance :bS PP 64:=⟨by kernel_rfl⟩
instance :bS PP 65:=⟨by kernel_rfl⟩
instance :bS PP 66:=⟨by kernel_rfl⟩
instance :bS PP 67:=⟨by kernel_rfl⟩
instance :bS PP 68:=⟨by kernel_rfl⟩
instance :bS PP 69:=⟨by kernel_rfl⟩
instance :bS PP 70:=⟨by kernel_rfl⟩
instance :bS PP 71:=⟨by kernel_rfl⟩
instance :bS PP 72:=⟨by kernel_rfl⟩
instance :bS PP 73:=⟨by kernel_rfl⟩
instance :bS PP 74:=⟨by kernel_rfl⟩
instance :bS PP 75:=⟨by kernel_rfl⟩
instance :bS PP 76:=⟨by kernel_rfl⟩
instance :bS PP 77:=⟨by kernel_rfl⟩
instance :bS PP 78:=⟨by kernel_rfl⟩
instance :bS PP 79:=⟨by kernel_rfl⟩
instance :bS PP 80:=⟨by kernel_rfl⟩
instance :bS PP 81:=⟨by kernel_rfl⟩
instance :bS PP 82:=⟨by kernel_rfl⟩
instance :bS PP 84:=⟨by kernel_rfl⟩
instance :bS PP 86:=⟨by kernel_rfl⟩
instance :bS PP 87:=⟨by kernel_rfl⟩
instance :bS PP 88:=⟨by kernel_rfl⟩
instance :bS PP 89:=⟨by kernel_rfl⟩
instance :bS PP 90:=⟨by kernel_rfl⟩
instance :bS PP 91:=⟨by kernel_rfl⟩
instance :bS PP 92:=⟨by kernel_rfl⟩
instance :bS PP 93:=⟨by kernel_rfl⟩
instance :bS PP 94:=⟨by kernel_rfl⟩
instance :bS PP 95:=⟨by kernel_rfl⟩
instance :bS PP 96:=⟨by kernel_rfl⟩
instance :bS PP 97:=⟨by kernel_rfl⟩
instance :bS PP 98:=⟨by kernel_rfl⟩
instance :bS PP 99:=⟨by kernel_rfl⟩
instance :bS PP 100:=⟨by kernel_rfl⟩
instance :bS PP 101:=⟨by kernel_rfl⟩
instance :bS PP 102:=⟨by kernel_rfl⟩
instance :bS PP 103:=⟨by kernel_rfl⟩
instance :bS PP 104:=⟨by kernel_rfl⟩
instance :bS PP 105:=⟨by kernel_rfl⟩
instance :bS PP 106:=⟨by kernel_rfl⟩
instance :bS PP 107:=⟨by kernel_rfl⟩
instance :bS PP 108:=⟨by kernel_rfl⟩
instance :bS PP 109:=⟨by kernel_rfl⟩
instance :bS PP 110:=⟨by kernel_rfl⟩
instance :bS PP 111:=⟨by kernel_rfl⟩
instance :bS PP 112:=⟨by kernel_rfl⟩
instance :bS PP 113:=⟨by kernel_rfl⟩
instance :bS PP 114:=⟨by kernel_rfl⟩
instance :bS PP 115:=⟨by kernel_rfl⟩
instance :bS PP 116:=⟨by kernel_rfl⟩
instance :bS PP 117:=⟨by kernel_rfl⟩
instance :bS PP 118:=⟨by kernel_rfl⟩
instance :bS PP 119:=⟨by kernel_rfl⟩
instance :bS PP 120:=⟨by kernel_rfl⟩
instance :bS PP 121:=⟨by kernel_rfl⟩
instance :bS PP 122:=⟨by kernel_rfl⟩
instance :bS PP 123:=⟨by kernel_rfl⟩
instance :bS PP 124:=⟨by kernel_rfl⟩
instance :bS PP 125:=⟨by kernel_rfl⟩
instance :bS PP 126:=⟨by kernel_rfl⟩
instance :bS PP 127:=⟨by kernel_rfl⟩
instance :bS PP 128:=⟨by kernel_rfl⟩
instance :bS PP 129:=⟨by kernel_rfl⟩
instance :bS PP 130:=⟨by kernel_rfl⟩
instance :bS PP 131:=⟨by kernel_rfl⟩
instance :bS PP 132:=⟨by kernel_rfl⟩
instance :bS PP 133:=⟨by kernel_rfl⟩
instance :bS PP 134:=⟨by kernel_rfl⟩
instance :bS PP 135:=⟨by kernel_rfl⟩
instance :bS PP 139:=⟨by kernel_rfl⟩
instance :bS PP 140:=⟨by kernel_rfl⟩
instance :bS PP 141:=⟨by kernel_rfl⟩
instance :bS PP 145:=⟨by kernel_rfl⟩
instance :bS PP 146:=⟨by kernel_rfl⟩
instance :bS PP 147:=⟨by kernel_rfl⟩
instance :bS PP 149:=⟨by kernel_rfl⟩
instance :bS PP 150:=⟨by kernel_rfl⟩
instance :bS PP 153:=⟨by kernel_rfl⟩
instance :bS PP 155:=⟨by kernel_rfl⟩
instance :bS PP 158:=⟨by kernel_rfl⟩
instance :bS PP 159:=⟨by kernel_rfl⟩
instance :bS PP 160:=⟨by kernel_rfl⟩
end
section
section
theorem il {O O1 p:Nat → Prop} (h:∀ x,O1 x ↔ O x ∨ p x) {x:Nat} (k:O x):O1 x:=(h x).2 (.inl k)
theorem ir {O O1:Nat → Prop} {b:Nat} (h:∀ x,O1 x ↔ O x ∨ x = b):O1 b:=(h b).2 (.inr rfl)
theorem bb:(∀ {α:Type} (p:α → Bool) (x:α),Option.any p (some x) = p x)∧(∀ b:Bool,(true && b) = b)∧(∀ b:Bool,(false && b) = false)∧(∀ b:Bool,(true || b) = true)∧(∀ b:Bool,(false || b) = b):=⟨fun _ _=>rfl,fun _=>rfl,fun _=>rfl,fun _=>rfl,fun _=>rfl⟩
theorem hw_sr {P:Program} {J:eM P} {w0:World} {N:Nat} {Q:HQ} {s:Env} {h:Heap} {id:Nat} {l:List Oper} {y:Code} (hx:HS J w0 N l.toArray 0 l (uT (fun s' h'=>HW J w0 N y Q s' h') Q) s h):HW J w0 N (.seq (.region id l.toArray false) y) Q s h:=aI (aE hx)
class RT (Q:HQ) (Q0:outParam HQ):Prop where h:∀ s h,Q0 .ret s h → Q .ret s h
instance {next:Env → Heap → Prop} {Q Q0:HQ} [k:RT Q Q0]:RT (uT next Q) Q0:=⟨k.h⟩
instance {id:Nat} {Q Q0:HQ} [k:RT Q Q0]:RT (yH id Q) Q0:=⟨k.h⟩
instance {P:Program} {wr:Loc → Prop} {fn:Func} {Post:Value → Heap → Prop}:RT (uU P wr fn Post) (uU P wr fn Post):=⟨fun _ _ h=>h⟩
theorem hw_rr {P:Program} {J:eM P} {w0:World} {N:Nat} {Q Q0:HQ} [k:RT Q Q0] {s:Env} {h:Heap} (hq:Q0 .ret s h):HW J w0 N .ret Q s h:=uA (k.h s h hq)
theorem mm {S p:Nat → Prop} {b:Nat} {h h' : Heap} (hS:∀ x,S x ↔ p x) (m:Mod (· = b) h h') (hb:p b:=by (try dsimp only); first | omega | exact .inl (by omega) | simp):Mod S h h':=Mod.mono m (fun x _ e=>(hS x).2 (by rw [e]; exact hb))
theorem Blk.s {h h' : Heap} {b b' : Nat} {cs cs' : List Value} {T T' : TypeId} (k:Blk h b' cs' T') (q:fQ h b cs T h') (hX:b' ≠ b:=by omega):Blk h' b' cs' T':=k.set q hX
theorem Le.s {h0 h h' : Heap} {b:Nat} {cs:List Value} {T:TypeId} (k:Le h0 h) (q:fQ h b cs T h') (hX:h0.size ≤ b:=by omega):Le h0 h':=k.set q hX
theorem Mod.s {S:Nat → Prop} {h0 h h' : Heap} {b:Nat} {cs:List Value} {T:TypeId} (k:Mod S h0 h) (q:fQ h b cs T h') (hX:h0.size ≤ b:=by omega):Mod S h0 h':=k.set q hX
theorem ok1 {α:Type} [Ok α] {x:α} (hx:Ok.ok x:=by first | trivial | assumption | exact ⟨by assumption,by assumption⟩ | (show SB _; first | assumption | omega | (simp; done) | (simp; omega) | (show List.length _ ≤ 4294967296; simp; done) | (show List.length _ ≤ 4294967296; simp; omega)) | (refine ⟨?_,?_,?_⟩ <;> show SB _ <;> first | assumption | omega | (simp; done) | (simp; omega) | (show List.length _ ≤ 4294967296; simp; done) | (show List.length _ ≤ 4294967296; simp; omega)) | (refine ⟨?_,?_⟩ <;> show SB _ <;> first | assumption | omega | (simp; done) | (simp; omega) | (show List.length _ ≤ 4294967296; simp; done) | (show List.length _ ≤ 4294967296; simp; omega)) | (simp_all [Ok.ok]; done)):OkL [x]:=OkL.one hx
theorem Le.t {a b c:Heap} (h:Le a b) (k:Le b c):Le a c:=h.trans k
theorem Mod.t {S:Nat → Prop} {a b c:Heap} (h:Mod S a b) (k:Mod S b c):Mod S a c:=h.trans k
theorem Mod.tl {S:Nat → Prop} {a b c:Heap} (h:Mod S a b) (k:Le b c):Mod S a c:=h.trans (Le.mod k)
end
theorem ag1 {L:SL} {r:Env} {t0:Nat} {v0:Value} (h0:aH L r t0 = v0:=by (simp only [aH,reduceIte,Nat.reduceEqDiff,reduceCtorEq] <;> rfl)):eY (aH L r) [(t0,v0)]:=aA (ht:=h0)<|aJ
theorem ag2 {L:SL} {r:Env} {t0 t1:Nat} {v0 v1:Value} (h0:aH L r t0 = v0:=by (simp only [aH,reduceIte,Nat.reduceEqDiff,reduceCtorEq] <;> rfl)) (h1:aH L r t1 = v1:=by (simp only [aH,reduceIte,Nat.reduceEqDiff,reduceCtorEq] <;> rfl)):eY (aH L r) [(t0,v0),(t1,v1)]:=aA (ht:=h0)<|aA (ht:=h1)<|aJ
theorem ag3 {L:SL} {r:Env} {t0 t1 t2:Nat} {v0 v1 v2:Value} (h0:aH L r t0 = v0:=by (simp only [aH,reduceIte,Nat.reduceEqDiff,reduceCtorEq] <;> rfl)) (h1:aH L r t1 = v1:=by (simp only [aH,reduceIte,Nat.reduceEqDiff,reduceCtorEq] <;> rfl)) (h2:aH L r t2 = v2:=by (simp only [aH,reduceIte,Nat.reduceEqDiff,reduceCtorEq] <;> rfl)):eY (aH L r) [(t0,v0),(t1,v1),(t2,v2)]:=aA (ht:=h0)<|aA (ht:=h1)<|aA (ht:=h2)<|aJ
theorem ag4 {L:SL} {r:Env} {t0 t1 t2 t3:Nat} {v0 v1 v2 v3:Value} (h0:aH L r t0 = v0:=by (simp only [aH,reduceIte,Nat.reduceEqDiff,reduceCtorEq] <;> rfl)) (h1:aH L r t1 = v1:=by (simp only [aH,reduceIte,Nat.reduceEqDiff,reduceCtorEq] <;> rfl)) (h2:aH L r t2 = v2:=by (simp only [aH,reduceIte,Nat.reduceEqDiff,reduceCtorEq] <;> rfl)) (h3:aH L r t3 = v3:=by (simp only [aH,reduceIte,Nat.reduceEqDiff,reduceCtorEq] <;> rfl)):eY (aH L r) [(t0,v0),(t1,v1),(t2,v2),(t3,v3)]:=aA (ht:=h0)<|aA (ht:=h1)<|aA (ht:=h2)<|aA (ht:=h3)<|aJ
theorem ag5 {L:SL} {r:Env} {t0 t1 t2 t3 t4:Nat} {v0 v1 v2 v3 v4:Value} (h0:aH L r t0 = v0:=by (simp only [aH,reduceIte,Nat.reduceEqDiff,reduceCtorEq] <;> rfl)) (h1:aH L r t1 = v1:=by (simp only [aH,reduceIte,Nat.reduceEqDiff,reduceCtorEq] <;> rfl)) (h2:aH L r t2 = v2:=by (simp only [aH,reduceIte,Nat.reduceEqDiff,reduceCtorEq] <;> rfl)) (h3:aH L r t3 = v3:=by (simp only [aH,reduceIte,Nat.reduceEqDiff,reduceCtorEq] <;> rfl)) (h4:aH L r t4 = v4:=by (simp only [aH,reduceIte,Nat.reduceEqDiff,reduceCtorEq] <;> rfl)):eY (aH L r) [(t0,v0),(t1,v1),(t2,v2),(t3,v3),(t4,v4)]:=aA (ht:=h0)<|aA (ht:=h1)<|aA (ht:=h2)<|aA (ht:=h3)<|aA (ht:=h4)<|aJ
theorem ag6 {L:SL} {r:Env} {t0 t1 t2 t3 t4 t5:Nat} {v0 v1 v2 v3 v4 v5:Value} (h0:aH L r t0 = v0:=by (simp only [aH,reduceIte,Nat.reduceEqDiff,reduceCtorEq] <;> rfl)) (h1:aH L r t1 = v1:=by (simp only [aH,reduceIte,Nat.reduceEqDiff,reduceCtorEq] <;> rfl)) (h2:aH L r t2 = v2:=by (simp only [aH,reduceIte,Nat.reduceEqDiff,reduceCtorEq] <;> rfl)) (h3:aH L r t3 = v3:=by (simp only [aH,reduceIte,Nat.reduceEqDiff,reduceCtorEq] <;> rfl)) (h4:aH L r t4 = v4:=by (simp only [aH,reduceIte,Nat.reduceEqDiff,reduceCtorEq] <;> rfl)) (h5:aH L r t5 = v5:=by (simp only [aH,reduceIte,Nat.reduceEqDiff,reduceCtorEq] <;> rfl)):eY (aH L r) [(t0,v0),(t1,v1),(t2,v2),(t3,v3),(t4,v4),(t5,v5)]:=aA (ht:=h0)<|aA (ht:=h1)<|aA (ht:=h2)<|aA (ht:=h3)<|aA (ht:=h4)<|aA (ht:=h5)<|aJ
theorem ag7 {L:SL} {r:Env} {t0 t1 t2 t3 t4 t5 t6:Nat} {v0 v1 v2 v3 v4 v5 v6:Value} (h0:aH L r t0 = v0:=by (simp only [aH,reduceIte,Nat.reduceEqDiff,reduceCtorEq] <;> rfl)) (h1:aH L r t1 = v1:=by (simp only [aH,reduceIte,Nat.reduceEqDiff,reduceCtorEq] <;> rfl)) (h2:aH L r t2 = v2:=by (simp only [aH,reduceIte,Nat.reduceEqDiff,reduceCtorEq] <;> rfl)) (h3:aH L r t3 = v3:=by (simp only [aH,reduceIte,Nat.reduceEqDiff,reduceCtorEq] <;> rfl)) (h4:aH L r t4 = v4:=by (simp only [aH,reduceIte,Nat.reduceEqDiff,reduceCtorEq] <;> rfl)) (h5:aH L r t5 = v5:=by (simp only [aH,reduceIte,Nat.reduceEqDiff,reduceCtorEq] <;> rfl)) (h6:aH L r t6 = v6:=by (simp only [aH,reduceIte,Nat.reduceEqDiff,reduceCtorEq] <;> rfl)):eY (aH L r) [(t0,v0),(t1,v1),(t2,v2),(t3,v3),(t4,v4),(t5,v5),(t6,v6)]:=aA (ht:=h0)<|aA (ht:=h1)<|aA (ht:=h2)<|aA (ht:=h3)<|aA (ht:=h4)<|aA (ht:=h5)<|aA (ht:=h6)<|aJ
theorem ag8 {L:SL} {r:Env} {t0 t1 t2 t3 t4 t5 t6 t7:Nat} {v0 v1 v2 v3 v4 v5 v6 v7:Value} (h0:aH L r t0 = v0:=by (simp only [aH,reduceIte,Nat.reduceEqDiff,reduceCtorEq] <;> rfl)) (h1:aH L r t1 = v1:=by (simp only [aH,reduceIte,Nat.reduceEqDiff,reduceCtorEq] <;> rfl)) (h2:aH L r t2 = v2:=by (simp only [aH,reduceIte,Nat.reduceEqDiff,reduceCtorEq] <;> rfl)) (h3:aH L r t3 = v3:=by (simp only [aH,reduceIte,Nat.reduceEqDiff,reduceCtorEq] <;> rfl)) (h4:aH L r t4 = v4:=by (simp only [aH,reduceIte,Nat.reduceEqDiff,reduceCtorEq] <;> rfl)) (h5:aH L r t5 = v5:=by (simp only [aH,reduceIte,Nat.reduceEqDiff,reduceCtorEq] <;> rfl)) (h6:aH L r t6 = v6:=by (simp only [aH,reduceIte,Nat.reduceEqDiff,reduceCtorEq] <;> rfl)) (h7:aH L r t7 = v7:=by (simp only [aH,reduceIte,Nat.reduceEqDiff,reduceCtorEq] <;> rfl)):eY (aH L r) [(t0,v0),(t1,v1),(t2,v2),(t3,v3),(t4,v4),(t5,v5),(t6,v6),(t7,v7)]:=aA (ht:=h0)<|aA (ht:=h1)<|aA (ht:=h2)<|aA (ht:=h3)<|aA (ht:=h4)<|aA (ht:=h5)<|aA (ht:=h6)<|aA (ht:=h7)<|aJ
theorem ag9 {L:SL} {r:Env} {t0 t1 t2 t3 t4 t5 t6 t7 t8:Nat} {v0 v1 v2 v3 v4 v5 v6 v7 v8:Value} (h0:aH L r t0 = v0:=by (simp only [aH,reduceIte,Nat.reduceEqDiff,reduceCtorEq] <;> rfl)) (h1:aH L r t1 = v1:=by (simp only [aH,reduceIte,Nat.reduceEqDiff,reduceCtorEq] <;> rfl)) (h2:aH L r t2 = v2:=by (simp only [aH,reduceIte,Nat.reduceEqDiff,reduceCtorEq] <;> rfl)) (h3:aH L r t3 = v3:=by (simp only [aH,reduceIte,Nat.reduceEqDiff,reduceCtorEq] <;> rfl)) (h4:aH L r t4 = v4:=by (simp only [aH,reduceIte,Nat.reduceEqDiff,reduceCtorEq] <;> rfl)) (h5:aH L r t5 = v5:=by (simp only [aH,reduceIte,Nat.reduceEqDiff,reduceCtorEq] <;> rfl)) (h6:aH L r t6 = v6:=by (simp only [aH,reduceIte,Nat.reduceEqDiff,reduceCtorEq] <;> rfl)) (h7:aH L r t7 = v7:=by (simp only [aH,reduceIte,Nat.reduceEqDiff,reduceCtorEq] <;> rfl)) (h8:aH L r t8 = v8:=by (simp only [aH,reduceIte,Nat.reduceEqDiff,reduceCtorEq] <;> rfl)):eY (aH L r) [(t0,v0),(t1,v1),(t2,v2),(t3,v3),(t4,v4),(t5,v5),(t6,v6),(t7,v7),(t8,v8)]:=aA (ht:=h0)<|aA (ht:=h1)<|aA (ht:=h2)<|aA (ht:=h3)<|aA (ht:=h4)<|aA (ht:=h5)<|aA (ht:=h6)<|aA (ht:=h7)<|aA (ht:=h8)<|aJ
theorem pY {L:SL} {r:Env} {t0 t1 t2 t3 t4 t5 t6 t7 t8 t9:Nat} {v0 v1 v2 v3 v4 v5 v6 v7 v8 v9:Value} (h0:aH L r t0 = v0:=by (simp only [aH,reduceIte,Nat.reduceEqDiff,reduceCtorEq] <;> rfl)) (h1:aH L r t1 = v1:=by (simp only [aH,reduceIte,Nat.reduceEqDiff,reduceCtorEq] <;> rfl)) (h2:aH L r t2 = v2:=by (simp only [aH,reduceIte,Nat.reduceEqDiff,reduceCtorEq] <;> rfl)) (h3:aH L r t3 = v3:=by (simp only [aH,reduceIte,Nat.reduceEqDiff,reduceCtorEq] <;> rfl)) (h4:aH L r t4 = v4:=by (simp only [aH,reduceIte,Nat.reduceEqDiff,reduceCtorEq] <;> rfl)) (h5:aH L r t5 = v5:=by (simp only [aH,reduceIte,Nat.reduceEqDiff,reduceCtorEq] <;> rfl)) (h6:aH L r t6 = v6:=by (simp only [aH,reduceIte,Nat.reduceEqDiff,reduceCtorEq] <;> rfl)) (h7:aH L r t7 = v7:=by (simp only [aH,reduceIte,Nat.reduceEqDiff,reduceCtorEq] <;> rfl)) (h8:aH L r t8 = v8:=by (simp only [aH,reduceIte,Nat.reduceEqDiff,reduceCtorEq] <;> rfl)) (h9:aH L r t9 = v9:=by (simp only [aH,reduceIte,Nat.reduceEqDiff,reduceCtorEq] <;> rfl)):eY (aH L r) [(t0,v0),(t1,v1),(t2,v2),(t3,v3),(t4,v4),(t5,v5),(t6,v6),(t7,v7),(t8,v8),(t9,v9)]:=aA (ht:=h0)<|aA (ht:=h1)<|aA (ht:=h2)<|aA (ht:=h3)<|aA (ht:=h4)<|aA (ht:=h5)<|aA (ht:=h6)<|aA (ht:=h7)<|aA (ht:=h8)<|aA (ht:=h9)<|aJ
theorem ag11 {L:SL} {r:Env} {t0 t1 t2 t3 t4 t5 t6 t7 t8 t9 t10:Nat} {v0 v1 v2 v3 v4 v5 v6 v7 v8 v9 v10:Value} (h0:aH L r t0 = v0:=by (simp only [aH,reduceIte,Nat.reduceEqDiff,reduceCtorEq] <;> rfl)) (h1:aH L r t1 = v1:=by (simp only [aH,reduceIte,Nat.reduceEqDiff,reduceCtorEq] <;> rfl)) (h2:aH L r t2 = v2:=by (simp only [aH,reduceIte,Nat.reduceEqDiff,reduceCtorEq] <;> rfl)) (h3:aH L r t3 = v3:=by (simp only [aH,reduceIte,Nat.reduceEqDiff,reduceCtorEq] <;> rfl)) (h4:aH L r t4 = v4:=by (simp only [aH,reduceIte,Nat.reduceEqDiff,reduceCtorEq] <;> rfl)) (h5:aH L r t5 = v5:=by (simp only [aH,reduceIte,Nat.reduceEqDiff,reduceCtorEq] <;> rfl)) (h6:aH L r t6 = v6:=by (simp only [aH,reduceIte,Nat.reduceEqDiff,reduceCtorEq] <;> rfl)) (h7:aH L r t7 = v7:=by (simp only [aH,reduceIte,Nat.reduceEqDiff,reduceCtorEq] <;> rfl)) (h8:aH L r t8 = v8:=by (simp only [aH,reduceIte,Nat.reduceEqDiff,reduceCtorEq] <;> rfl)) (h9:aH L r t9 = v9:=by (simp only [aH,reduceIte,Nat.reduceEqDiff,reduceCtorEq] <;> rfl)) (h10:aH L r t10 = v10:=by (simp only [aH,reduceIte,Nat.reduceEqDiff,reduceCtorEq] <;> rfl)):eY (aH L r) [(t0,v0),(t1,v1),(t2,v2),(t3,v3),(t4,v4),(t5,v5),(t6,v6),(t7,v7),(t8,v8),(t9,v9),(t10,v10)]:=aA (ht:=h0)<|aA (ht:=h1)<|aA (ht:=h2)<|aA (ht:=h3)<|aA (ht:=h4)<|aA (ht:=h5)<|aA (ht:=h6)<|aA (ht:=h7)<|aA (ht:=h8)<|aA (ht:=h9)<|aA (ht:=h10)<|aJ
theorem ag12 {L:SL} {r:Env} {t0 t1 t2 t3 t4 t5 t6 t7 t8 t9 t10 t11:Nat} {v0 v1 v2 v3 v4 v5 v6 v7 v8 v9 v10 v11:Value} (h0:aH L r t0 = v0:=by (simp only [aH,reduceIte,Nat.reduceEqDiff,reduceCtorEq] <;> rfl)) (h1:aH L r t1 = v1:=by (simp only [aH,reduceIte,Nat.reduceEqDiff,reduceCtorEq] <;> rfl)) (h2:aH L r t2 = v2:=by (simp only [aH,reduceIte,Nat.reduceEqDiff,reduceCtorEq] <;> rfl)) (h3:aH L r t3 = v3:=by (simp only [aH,reduceIte,Nat.reduceEqDiff,reduceCtorEq] <;> rfl)) (h4:aH L r t4 = v4:=by (simp only [aH,reduceIte,Nat.reduceEqDiff,reduceCtorEq] <;> rfl)) (h5:aH L r t5 = v5:=by (simp only [aH,reduceIte,Nat.reduceEqDiff,reduceCtorEq] <;> rfl)) (h6:aH L r t6 = v6:=by (simp only [aH,reduceIte,Nat.reduceEqDiff,reduceCtorEq] <;> rfl)) (h7:aH L r t7 = v7:=by (simp only [aH,reduceIte,Nat.reduceEqDiff,reduceCtorEq] <;> rfl)) (h8:aH L r t8 = v8:=by (simp only [aH,reduceIte,Nat.reduceEqDiff,reduceCtorEq] <;> rfl)) (h9:aH L r t9 = v9:=by (simp only [aH,reduceIte,Nat.reduceEqDiff,reduceCtorEq] <;> rfl)) (h10:aH L r t10 = v10:=by (simp only [aH,reduceIte,Nat.reduceEqDiff,reduceCtorEq] <;> rfl)) (h11:aH L r t11 = v11:=by (simp only [aH,reduceIte,Nat.reduceEqDiff,reduceCtorEq] <;> rfl)):eY (aH L r) [(t0,v0),(t1,v1),(t2,v2),(t3,v3),(t4,v4),(t5,v5),(t6,v6),(t7,v7),(t8,v8),(t9,v9),(t10,v10),(t11,v11)]:=aA (ht:=h0)<|aA (ht:=h1)<|aA (ht:=h2)<|aA (ht:=h3)<|aA (ht:=h4)<|aA (ht:=h5)<|aA (ht:=h6)<|aA (ht:=h7)<|aA (ht:=h8)<|aA (ht:=h9)<|aA (ht:=h10)<|aA (ht:=h11)<|aJ
theorem ah1 {L:SL} {r:Env} (t0:Nat) {v0:Value} (h0:aH L r t0 = v0:=by (simp only [aH,reduceIte,Nat.reduceEqDiff,reduceCtorEq] <;> rfl)):eY (aH L r) [(t0,v0)]:=ag1 h0
theorem ah2 {L:SL} {r:Env} (t0 t1:Nat) {v0 v1:Value} (h0:aH L r t0 = v0:=by (simp only [aH,reduceIte,Nat.reduceEqDiff,reduceCtorEq] <;> rfl)) (h1:aH L r t1 = v1:=by (simp only [aH,reduceIte,Nat.reduceEqDiff,reduceCtorEq] <;> rfl)):eY (aH L r) [(t0,v0),(t1,v1)]:=ag2 h0 h1
theorem ah3 {L:SL} {r:Env} (t0 t1 t2:Nat) {v0 v1 v2:Value} (h0:aH L r t0 = v0:=by (simp only [aH,reduceIte,Nat.reduceEqDiff,reduceCtorEq] <;> rfl)) (h1:aH L r t1 = v1:=by (simp only [aH,reduceIte,Nat.reduceEqDiff,reduceCtorEq] <;> rfl)) (h2:aH L r t2 = v2:=by (simp only [aH,reduceIte,Nat.reduceEqDiff,reduceCtorEq] <;> rfl)):eY (aH L r) [(t0,v0),(t1,v1),(t2,v2)]:=ag3 h0 h1 h2
theorem ah4 {L:SL} {r:Env} (t0 t1 t2 t3:Nat) {v0 v1 v2 v3:Value} (h0:aH L r t0 = v0:=by (simp only [aH,reduceIte,Nat.reduceEqDiff,reduceCtorEq] <;> rfl)) (h1:aH L r t1 = v1:=by (simp only [aH,reduceIte,Nat.reduceEqDiff,reduceCtorEq] <;> rfl)) (h2:aH L r t2 = v2:=by (simp only [aH,reduceIte,Nat.reduceEqDiff,reduceCtorEq] <;> rfl)) (h3:aH L r t3 = v3:=by (simp only [aH,reduceIte,Nat.reduceEqDiff,reduceCtorEq] <;> rfl)):eY (aH L r) [(t0,v0),(t1,v1),(t2,v2),(t3,v3)]:=ag4 h0 h1 h2 h3
theorem ah5 {L:SL} {r:Env} (t0 t1 t2 t3 t4:Nat) {v0 v1 v2 v3 v4:Value} (h0:aH L r t0 = v0:=by (simp only [aH,reduceIte,Nat.reduceEqDiff,reduceCtorEq] <;> rfl)) (h1:aH L r t1 = v1:=by (simp only [aH,reduceIte,Nat.reduceEqDiff,reduceCtorEq] <;> rfl)) (h2:aH L r t2 = v2:=by (simp only [aH,reduceIte,Nat.reduceEqDiff,reduceCtorEq] <;> rfl)) (h3:aH L r t3 = v3:=by (simp only [aH,reduceIte,Nat.reduceEqDiff,reduceCtorEq] <;> rfl)) (h4:aH L r t4 = v4:=by (simp only [aH,reduceIte,Nat.reduceEqDiff,reduceCtorEq] <;> rfl)):eY (aH L r) [(t0,v0),(t1,v1),(t2,v2),(t3,v3),(t4,v4)]:=ag5 h0 h1 h2 h3 h4
theorem ah6 {L:SL} {r:Env} (t0 t1 t2 t3 t4 t5:Nat) {v0 v1 v2 v3 v4 v5:Value} (h0:aH L r t0 = v0:=by (simp only [aH,reduceIte,Nat.reduceEqDiff,reduceCtorEq] <;> rfl)) (h1:aH L r t1 = v1:=by (simp only [aH,reduceIte,Nat.reduceEqDiff,reduceCtorEq] <;> rfl)) (h2:aH L r t2 = v2:=by (simp only [aH,reduceIte,Nat.reduceEqDiff,reduceCtorEq] <;> rfl)) (h3:aH L r t3 = v3:=by (simp only [aH,reduceIte,Nat.reduceEqDiff,reduceCtorEq] <;> rfl)) (h4:aH L r t4 = v4:=by (simp only [aH,reduceIte,Nat.reduceEqDiff,reduceCtorEq] <;> rfl)) (h5:aH L r t5 = v5:=by (simp only [aH,reduceIte,Nat.reduceEqDiff,reduceCtorEq] <;> rfl)):eY (aH L r) [(t0,v0),(t1,v1),(t2,v2),(t3,v3),(t4,v4),(t5,v5)]:=ag6 h0 h1 h2 h3 h4 h5
theorem ah7 {L:SL} {r:Env} (t0 t1 t2 t3 t4 t5 t6:Nat) {v0 v1 v2 v3 v4 v5 v6:Value} (h0:aH L r t0 = v0:=by (simp only [aH,reduceIte,Nat.reduceEqDiff,reduceCtorEq] <;> rfl)) (h1:aH L r t1 = v1:=by (simp only [aH,reduceIte,Nat.reduceEqDiff,reduceCtorEq] <;> rfl)) (h2:aH L r t2 = v2:=by (simp only [aH,reduceIte,Nat.reduceEqDiff,reduceCtorEq] <;> rfl)) (h3:aH L r t3 = v3:=by (simp only [aH,reduceIte,Nat.reduceEqDiff,reduceCtorEq] <;> rfl)) (h4:aH L r t4 = v4:=by (simp only [aH,reduceIte,Nat.reduceEqDiff,reduceCtorEq] <;> rfl)) (h5:aH L r t5 = v5:=by (simp only [aH,reduceIte,Nat.reduceEqDiff,reduceCtorEq] <;> rfl)) (h6:aH L r t6 = v6:=by (simp only [aH,reduceIte,Nat.reduceEqDiff,reduceCtorEq] <;> rfl)):eY (aH L r) [(t0,v0),(t1,v1),(t2,v2),(t3,v3),(t4,v4),(t5,v5),(t6,v6)]:=ag7 h0 h1 h2 h3 h4 h5 h6
theorem ah8 {L:SL} {r:Env} (t0 t1 t2 t3 t4 t5 t6 t7:Nat) {v0 v1 v2 v3 v4 v5 v6 v7:Value} (h0:aH L r t0 = v0:=by (simp only [aH,reduceIte,Nat.reduceEqDiff,reduceCtorEq] <;> rfl)) (h1:aH L r t1 = v1:=by (simp only [aH,reduceIte,Nat.reduceEqDiff,reduceCtorEq] <;> rfl)) (h2:aH L r t2 = v2:=by (simp only [aH,reduceIte,Nat.reduceEqDiff,reduceCtorEq] <;> rfl)) (h3:aH L r t3 = v3:=by (simp only [aH,reduceIte,Nat.reduceEqDiff,reduceCtorEq] <;> rfl)) (h4:aH L r t4 = v4:=by (simp only [aH,reduceIte,Nat.reduceEqDiff,reduceCtorEq] <;> rfl)) (h5:aH L r t5 = v5:=by (simp only [aH,reduceIte,Nat.reduceEqDiff,reduceCtorEq] <;> rfl)) (h6:aH L r t6 = v6:=by (simp only [aH,reduceIte,Nat.reduceEqDiff,reduceCtorEq] <;> rfl)) (h7:aH L r t7 = v7:=by (simp only [aH,reduceIte,Nat.reduceEqDiff,reduceCtorEq] <;> rfl)):eY (aH L r) [(t0,v0),(t1,v1),(t2,v2),(t3,v3),(t4,v4),(t5,v5),(t6,v6),(t7,v7)]:=ag8 h0 h1 h2 h3 h4 h5 h6 h7
theorem ah9 {L:SL} {r:Env} (t0 t1 t2 t3 t4 t5 t6 t7 t8:Nat) {v0 v1 v2 v3 v4 v5 v6 v7 v8:Value} (h0:aH L r t0 = v0:=by (simp only [aH,reduceIte,Nat.reduceEqDiff,reduceCtorEq] <;> rfl)) (h1:aH L r t1 = v1:=by (simp only [aH,reduceIte,Nat.reduceEqDiff,reduceCtorEq] <;> rfl)) (h2:aH L r t2 = v2:=by (simp only [aH,reduceIte,Nat.reduceEqDiff,reduceCtorEq] <;> rfl)) (h3:aH L r t3 = v3:=by (simp only [aH,reduceIte,Nat.reduceEqDiff,reduceCtorEq] <;> rfl)) (h4:aH L r t4 = v4:=by (simp only [aH,reduceIte,Nat.reduceEqDiff,reduceCtorEq] <;> rfl)) (h5:aH L r t5 = v5:=by (simp only [aH,reduceIte,Nat.reduceEqDiff,reduceCtorEq] <;> rfl)) (h6:aH L r t6 = v6:=by (simp only [aH,reduceIte,Nat.reduceEqDiff,reduceCtorEq] <;> rfl)) (h7:aH L r t7 = v7:=by (simp only [aH,reduceIte,Nat.reduceEqDiff,reduceCtorEq] <;> rfl)) (h8:aH L r t8 = v8:=by (simp only [aH,reduceIte,Nat.reduceEqDiff,reduceCtorEq] <;> rfl)):eY (aH L r) [(t0,v0),(t1,v1),(t2,v2),(t3,v3),(t4,v4),(t5,v5),(t6,v6),(t7,v7),(t8,v8)]:=ag9 h0 h1 h2 h3 h4 h5 h6 h7 h8
theorem ah10 {L:SL} {r:Env} (t0 t1 t2 t3 t4 t5 t6 t7 t8 t9:Nat) {v0 v1 v2 v3 v4 v5 v6 v7 v8 v9:Value} (h0:aH L r t0 = v0:=by (simp only [aH,reduceIte,Nat.reduceEqDiff,reduceCtorEq] <;> rfl)) (h1:aH L r t1 = v1:=by (simp only [aH,reduceIte,Nat.reduceEqDiff,reduceCtorEq] <;> rfl)) (h2:aH L r t2 = v2:=by (simp only [aH,reduceIte,Nat.reduceEqDiff,reduceCtorEq] <;> rfl)) (h3:aH L r t3 = v3:=by (simp only [aH,reduceIte,Nat.reduceEqDiff,reduceCtorEq] <;> rfl)) (h4:aH L r t4 = v4:=by (simp only [aH,reduceIte,Nat.reduceEqDiff,reduceCtorEq] <;> rfl)) (h5:aH L r t5 = v5:=by (simp only [aH,reduceIte,Nat.reduceEqDiff,reduceCtorEq] <;> rfl)) (h6:aH L r t6 = v6:=by (simp only [aH,reduceIte,Nat.reduceEqDiff,reduceCtorEq] <;> rfl)) (h7:aH L r t7 = v7:=by (simp only [aH,reduceIte,Nat.reduceEqDiff,reduceCtorEq] <;> rfl)) (h8:aH L r t8 = v8:=by (simp only [aH,reduceIte,Nat.reduceEqDiff,reduceCtorEq] <;> rfl)) (h9:aH L r t9 = v9:=by (simp only [aH,reduceIte,Nat.reduceEqDiff,reduceCtorEq] <;> rfl)):eY (aH L r) [(t0,v0),(t1,v1),(t2,v2),(t3,v3),(t4,v4),(t5,v5),(t6,v6),(t7,v7),(t8,v8),(t9,v9)]:=pY h0 h1 h2 h3 h4 h5 h6 h7 h8 h9
theorem ah11 {L:SL} {r:Env} (t0 t1 t2 t3 t4 t5 t6 t7 t8 t9 t10:Nat) {v0 v1 v2 v3 v4 v5 v6 v7 v8 v9 v10:Value} (h0:aH L r t0 = v0:=by (simp only [aH,reduceIte,Nat.reduceEqDiff,reduceCtorEq] <;> rfl)) (h1:aH L r t1 = v1:=by (simp only [aH,reduceIte,Nat.reduceEqDiff,reduceCtorEq] <;> rfl)) (h2:aH L r t2 = v2:=by (simp only [aH,reduceIte,Nat.reduceEqDiff,reduceCtorEq] <;> rfl)) (h3:aH L r t3 = v3:=by (simp only [aH,reduceIte,Nat.reduceEqDiff,reduceCtorEq] <;> rfl)) (h4:aH L r t4 = v4:=by (simp only [aH,reduceIte,Nat.reduceEqDiff,reduceCtorEq] <;> rfl)) (h5:aH L r t5 = v5:=by (simp only [aH,reduceIte,Nat.reduceEqDiff,reduceCtorEq] <;> rfl)) (h6:aH L r t6 = v6:=by (simp only [aH,reduceIte,Nat.reduceEqDiff,reduceCtorEq] <;> rfl)) (h7:aH L r t7 = v7:=by (simp only [aH,reduceIte,Nat.reduceEqDiff,reduceCtorEq] <;> rfl)) (h8:aH L r t8 = v8:=by (simp only [aH,reduceIte,Nat.reduceEqDiff,reduceCtorEq] <;> rfl)) (h9:aH L r t9 = v9:=by (simp only [aH,reduceIte,Nat.reduceEqDiff,reduceCtorEq] <;> rfl)) (h10:aH L r t10 = v10:=by (simp only [aH,reduceIte,Nat.reduceEqDiff,reduceCtorEq] <;> rfl)):eY (aH L r) [(t0,v0),(t1,v1),(t2,v2),(t3,v3),(t4,v4),(t5,v5),(t6,v6),(t7,v7),(t8,v8),(t9,v9),(t10,v10)]:=ag11 h0 h1 h2 h3 h4 h5 h6 h7 h8 h9 h10
theorem ah12 {L:SL} {r:Env} (t0 t1 t2 t3 t4 t5 t6 t7 t8 t9 t10 t11:Nat) {v0 v1 v2 v3 v4 v5 v6 v7 v8 v9 v10 v11:Value} (h0:aH L r t0 = v0:=by (simp only [aH,reduceIte,Nat.reduceEqDiff,reduceCtorEq] <;> rfl)) (h1:aH L r t1 = v1:=by (simp only [aH,reduceIte,Nat.reduceEqDiff,reduceCtorEq] <;> rfl)) (h2:aH L r t2 = v2:=by (simp only [aH,reduceIte,Nat.reduceEqDiff,reduceCtorEq] <;> rfl)) (h3:aH L r t3 = v3:=by (simp only [aH,reduceIte,Nat.reduceEqDiff,reduceCtorEq] <;> rfl)) (h4:aH L r t4 = v4:=by (simp only [aH,reduceIte,Nat.reduceEqDiff,reduceCtorEq] <;> rfl)) (h5:aH L r t5 = v5:=by (simp only [aH,reduceIte,Nat.reduceEqDiff,reduceCtorEq] <;> rfl)) (h6:aH L r t6 = v6:=by (simp only [aH,reduceIte,Nat.reduceEqDiff,reduceCtorEq] <;> rfl)) (h7:aH L r t7 = v7:=by (simp only [aH,reduceIte,Nat.reduceEqDiff,reduceCtorEq] <;> rfl)) (h8:aH L r t8 = v8:=by (simp only [aH,reduceIte,Nat.reduceEqDiff,reduceCtorEq] <;> rfl)) (h9:aH L r t9 = v9:=by (simp only [aH,reduceIte,Nat.reduceEqDiff,reduceCtorEq] <;> rfl)) (h10:aH L r t10 = v10:=by (simp only [aH,reduceIte,Nat.reduceEqDiff,reduceCtorEq] <;> rfl)) (h11:aH L r t11 = v11:=by (simp only [aH,reduceIte,Nat.reduceEqDiff,reduceCtorEq] <;> rfl)):eY (aH L r) [(t0,v0),(t1,v1),(t2,v2),(t3,v3),(t4,v4),(t5,v5),(t6,v6),(t7,v7),(t8,v8),(t9,v9),(t10,v10),(t11,v11)]:=ag12 h0 h1 h2 h3 h4 h5 h6 h7 h8 h9 h10 h11
open Go.Conc
theorem mkO (p:Nat → Prop):∃ O:Nat → Prop,∀ b,O b ↔ p b:=⟨p,fun _=>Iff.rfl⟩
def OB (h:Heap) (O:Nat → Prop):Prop:=∀ b,O b → b < h.size
section
variable {α:Type} [Flat α] {h h' h0:Heap} {O O1 S:Nat → Prop} {v v' : Value} {l l' : List α} {B b b' : Nat} {E T:TypeId} {cs cs' : List Value}
theorem Rd.leO (k:Rd h O v l) (hl:Le h h'):Rd h' O v l:=Rd.le k hl fun _ _=>id
theorem Rd.newB (k:Rd h O v l) (hl:Le h h') (hO:∀ x,O1 x ↔ O x ∨ x = b) (e:b = h.size):Rd h' O1 v l:=Rd.le k hl fun x hx h1=>((hO x).1 h1).elim id fun e'=>by omega
theorem Rd.newS (k:Rd h O v l) (hl:Le h h') (hO:∀ x,O1 x ↔ O x ∨ S x) (hs:∀ x,S x → h.size ≤ x):Rd h' O1 v l:=Rd.le k hl fun x hx h1=>((hO x).1 h1).elim id fun e'=>by have:=hs x e'; omega
theorem Rd.modO (k:Rd h O v l) (hm:Mod S h h') (hs:∀ b,S b → O b):Rd h' O v l:=Rd.mod k hm (fun b _ h=>hs b h) (fun _ _=>id)
theorem Rd.setO (k:Rd h O v l) (q:fQ h b cs T h') (hb:O b):Rd h' O v l:=k.modO q.2.1 fun _ e=>e ▸ hb
theorem Rd.weakO (k:Rd h O v l) (hO:∀ b,O1 b → O b):Rd h O1 v l:=RdF.weak k fun b hb=>⟨hb.1,fun h1=>hb.2 (hO b h1)⟩
theorem Rd.lp (k:Rd h O v l) (hm:Mod O h h') (hO:∀ x,O1 x → O x ∨ h.size ≤ x):Rd h' O1 v l:=Rd.mod k hm (fun _ _=>id) fun b hb h1=>(hO b h1).elim id fun h=>by omega
theorem Rd.nilO:Rd h O (.slice none 0 0) ([]:List α):=RdF.nil _ _
theorem Rd.frm (k:Rd h O v l):∃ A n c,v = .slice A n c:=RdF.form3 k
theorem Own.end (k:Own h B v l E) (hB:∀ x,O x → x < B):Rd h O v l:=k.out fun b hv h1=>by have:=hB b h1; have:=k.vb hv; omega
theorem OB.leO (k:OB h O) (hl:h.size ≤ h'.size):OB h' O:=fun b hb=>Nat.lt_of_lt_of_le (k b hb) hl
theorem OB.newB (k:OB h O) (hl:h'.size = h.size + 1) (hO:∀ x,O1 x ↔ O x ∨ x = b) (e:b = h.size):OB h' O1:=fun x hx=>((hO x).1 hx).elim (fun h1=>by have:=k x h1; omega) fun e'=>by omega
theorem OB.newS (k:OB h O) (hl:h.size ≤ h'.size) (hO:∀ x,O1 x ↔ O x ∨ S x) (hs:∀ x,S x → x < h'.size):OB h' O1:=fun x hx=>((hO x).1 hx).elim (fun h1=>Nat.lt_of_lt_of_le (k x h1) hl) (hs x)
theorem uS.ox (q:uS h cs T v h') (O:Nat → Prop):∃ (b:Nat) (O1:Nat → Prop),v = .pointer (some ⟨b,0,none⟩)∧b = h.size∧h'.size = h.size + 1∧Le h h' ∧ Blk h' b cs T∧∀ x,O1 x ↔ O x ∨ x = b:=by
  obtain ⟨b,e,a,c,d,f⟩:=q; exact ⟨b,_,e,a,c,d,f,fun _=>Iff.rfl⟩
section app
variable {β:Type} [Flat β] {u u' : Value} {m m' : List β} {B' : Nat} {E' : TypeId}
theorem Rd.appO (k:Rd h O v l) (q:App h B' u m' E' u' h') (hu:∀ b,vblk u b → O b) (hO:∀ x,O1 x ↔ O x ∨ vblk u' x):Rd h' O1 v l :=
  Rd.mod k q.2.1 (fun b _ hv=>hu b hv) fun b hb h1=>((hO b).1 h1).elim id fun hv=>(q.2.2 b hv).elim (hu b) fun hh=>by omega
theorem OB.app (k:OB h O) (q:App h B' u m' E' u' h') (hO:∀ x,O1 x ↔ O x ∨ vblk u' x):OB h' O1:=k.newS q.2.1.1 hO fun x hv=>(q.1.vb hv).2
end app
def RD (h:Heap) (O:Nat → Prop) (br:Nat) (p:Int):Prop:=∃ sb,∃ bs:List UInt8,Blk h br [sb,vi p] 70∧Rd h O sb bs∧O br∧bs.length ≤ 2000∧0 ≤ p
variable {br:Nat} {p:Int}
theorem RD.lt (k:RD h O br p):br < h.size:=by obtain ⟨_,_,k,_⟩:=k; exact k.lt
theorem RD.leO (k:RD h O br p) (hl:Le h h'):RD h' O br p:=by obtain ⟨sb,bs,k1,k2,k3⟩:=k; exact ⟨sb,bs,k1.le hl,k2.leO hl,k3⟩
theorem RD.newB (k:RD h O br p) (hl:Le h h') (hO:∀ x,O1 x ↔ O x ∨ x = b) (e:b = h.size):RD h' O1 br p:=by obtain ⟨sb,bs,k1,k2,k3,k4⟩:=k; exact ⟨sb,bs,k1.le hl,k2.newB hl hO e,(hO _).2 (.inl k3),k4⟩
theorem RD.newS (k:RD h O br p) (hl:Le h h') (hO:∀ x,O1 x ↔ O x ∨ S x) (hs:∀ x,S x → h.size ≤ x):RD h' O1 br p:=by obtain ⟨sb,bs,k1,k2,k3,k4⟩:=k; exact ⟨sb,bs,k1.le hl,k2.newS hl hO hs,(hO _).2 (.inl k3),k4⟩
theorem RD.modO (k:RD h O br p) (hm:Mod S h h') (hs:∀ b,S b → O b) (hn:¬ S br):RD h' O br p:=by obtain ⟨sb,bs,k1,k2,k3⟩:=k; exact ⟨sb,bs,k1.mod hm hn,k2.modO hm hs,k3⟩
theorem RD.setO (k:RD h O br p) (q:fQ h b cs T h') (hb:O b) (hn:br ≠ b):RD h' O br p:=k.modO q.2.1 (fun _ e=>e ▸ hb) hn
theorem RD.appO {β:Type} [Flat β] {u u' : Value} {m' : List β} {B' : Nat} {E' : TypeId} (k:RD h O br p) (q:App h B' u m' E' u' h') (hu:∀ b,vblk u b → O b) (hO:∀ x,O1 x ↔ O x ∨ vblk u' x) (hn:¬ vblk u br):RD h' O1 br p:=by
  obtain ⟨sb,bs,k1,k2,k3,k4⟩:=k; exact ⟨sb,bs,k1.mod q.2.1 hn,k2.appO q hu hO,(hO _).2 (.inl k3),k4⟩
theorem RD.weakO (k:RD h O br p) (hO:∀ b,O1 b → O b) (hb:O1 br):RD h O1 br p:=by obtain ⟨sb,bs,k1,k2,k3,k4⟩:=k; exact ⟨sb,bs,k1,k2.weakO hO,hb,k4⟩
theorem RD.mem (k:RD h O br p):O br:=by obtain ⟨_,_,_,_,k,_⟩:=k; exact k
abbrev pD (O:Nat → Prop) (br:Nat) (p:Int) (c:Int) (h h' : Heap):Prop:=Mod (· = br) h h' ∧ ∃ p',RD h' O br p' ∧ p ≤ p' ∧ p' ≤ p + c
end
section
variable {P:Program} {J:eM P} {w0:World} {N:Nat} {Q:HQ} {s:Env} {h:Heap} {ops:Array Oper} {k:Nat} {l:List Oper} {L:SL} {r:Env}
theorem aD {d:Nat} {Q:HQ} {ops:Array Oper} (hq:Q .normal s h):HS J w0 N ops d [] Q s h:=hs_nil hq
theorem bB (n:Nat) (L' : SL) (hn:∀ r,HS J w0 N ops (k + n) (l.drop n) Q (aH L' r) h)
    (hx:(∀ s',eY s' L' → HS J w0 N ops (k + n) (l.drop n) Q s' h) → HS J w0 N ops k l Q s h):HS J w0 N ops k l Q s h :=
  hx fun s' hA=>by have:=hn s'; rw [← iK hA] at this; exact this
end
section
variable {α:Type} [Flat α] [Ok α] {h h' h0:Heap} {O O1 S:Nat → Prop} {v v' : Value} {l l' : List α} {B b b' : Nat} {E T:TypeId} {cs cs' : List Value}
def Rs (h:Heap) (O:Nat → Prop) (v:Value) (l:List α):Prop:=Rd h O v l∧OkL l
def Ow (h:Heap) (B:Nat) (v:Value) (l:List α) (E:TypeId):Prop:=Own h B v l E∧OkL l
theorem Rs.len (k:Rs h O v l):l.length ≤ 4294967296:=k.2.len
theorem Ow.len (k:Ow h B v l E):l.length ≤ 4294967296:=k.2.len
theorem Rs.le (k:Rs h O v l) (hl:Le h h'):Rs h' O v l:=⟨k.1.leO hl,k.2⟩
theorem Rs.nb (k:Rs h O v l) (hl:Le h h') (hO:∀ x,O1 x ↔ O x ∨ x = b) (e:b = h.size):Rs h' O1 v l:=⟨k.1.newB hl hO e,k.2⟩
theorem Rs.ns (k:Rs h O v l) (hl:Le h h') (hO:∀ x,O1 x ↔ O x ∨ S x) (hs:∀ x,S x → h.size ≤ x):Rs h' O1 v l:=⟨k.1.newS hl hO hs,k.2⟩
theorem Rs.md (k:Rs h O v l) (hm:Mod S h h') (hs:∀ b,S b → O b):Rs h' O v l:=⟨k.1.modO hm hs,k.2⟩
theorem Rs.st (k:Rs h O v l) (q:fQ h b cs T h') (hb:O b):Rs h' O v l:=⟨k.1.setO q hb,k.2⟩
theorem Rs.wk (k:Rs h O v l) (hO:∀ b,O1 b → O b):Rs h O1 v l:=⟨k.1.weakO hO,k.2⟩
theorem Rs.lp (k:Rs h O v l) (hm:Mod O h h') (hO:∀ x,O1 x → O x ∨ h.size ≤ x):Rs h' O1 v l:=⟨k.1.lp hm hO,k.2⟩
theorem Rs.ap {β:Type} [Flat β] {u u' : Value} {m' : List β} {B' : Nat} {E' : TypeId} (k:Rs h O v l) (q:App h B' u m' E' u' h') (hu:∀ b,vblk u b → O b) (hO:∀ x,O1 x ↔ O x ∨ vblk u' x):Rs h' O1 v l:=⟨k.1.appO q hu hO,k.2⟩
theorem Rs.cast (k:Rs h O v l) (e:l' = l):Rs h O v l':=e ▸ k
theorem Rs.frm (k:Rs h O v l):∃ A n c,v = .slice A n c:=k.1.frm
theorem Rs.nil:Rs h O (.slice none 0 0) ([]:List α):=⟨Rd.nilO,.nil⟩
theorem Rs.cutLo (k:Rs h O v l) {n:Nat} (hn:n ≤ l.length):Rs h O (cutLo (Flat.n α) n v) (l.drop n):=⟨RdF.cutLo k.1 hn,k.2.drop n⟩
theorem Rs.cutHi (k:Rs h O v l) {n:Nat} (hn:n ≤ l.length):Rs h O (cutHi n v) (l.take n):=⟨RdF.cutHi k.1 hn,k.2.take n⟩
theorem Ow.le (k:Ow h B v l E) (hl:Le h h'):Ow h' B v l E:=⟨k.1.le hl,k.2⟩
theorem Ow.st (k:Ow h B v l E) (q:fQ h b cs T h') (hn:¬ vblk v b):Ow h' B v l E:=⟨k.1.set q hn,k.2⟩
theorem Ow.md (k:Ow h B v l E) (hm:Mod S h h') (hn:∀ b,vblk v b → ¬ S b):Ow h' B v l E:=⟨k.1.mod hm hn,k.2⟩
theorem Ow.ap {β:Type} [Flat β] {u u' : Value} {m' : List β} {B' : Nat} {E' : TypeId} (k:Ow h B v l E) (q:App h B' u m' E' u' h') (hn:∀ b,vblk v b → ¬ vblk u b):Ow h' B v l E:=⟨k.1.app q hn,k.2⟩
theorem Ow.cast (k:Ow h B v l E) (e:l' = l):Ow h B v l' E:=e ▸ k
theorem Ow.wk {B' : Nat} (k:Ow h B v l E) (hB:B' ≤ B):Ow h B' v l E:=⟨k.1.weak hB,k.2⟩
theorem Ow.frm (k:Ow h B v l E):∃ A n c,v = .slice A n c:=k.1.form
theorem Ow.vb (k:Ow h B v l E) {c:Nat} (hc:vblk v c):B ≤ c∧c < h.size:=k.1.vb hc
theorem Ow.end (k:Ow h B v l E) (hB:∀ x,O x → x < B):Rs h O v l:=⟨k.1.end hB,k.2⟩
theorem Ow.cutHi (k:Ow h B v l E) {n:Nat} (hn:n ≤ l.length):Ow h B (cutHi n v) (l.take n) E:=⟨k.1.cutHi hn,k.2.take n⟩
theorem App.ow {u u' : Value} {m' : List α} {B' : Nat} {E' : TypeId} (q:App h B' u m' E' u' h') (s:OkL m') (O:Nat → Prop):∃ O1:Nat → Prop,(∀ x,O1 x ↔ O x ∨ vblk u' x)∧h.size ≤ h'.size∧Ow h' B' u' m' E':=⟨_,fun _=>Iff.rfl,q.2.1.1,q.1,s⟩
theorem Mod.ap {S:Nat → Prop} {u u' : Value} {m m' : List α} {B' : Nat} {E' : TypeId} (k:Mod S h0 h) (o:Ow h B' u m E') (q:App h B' u m' E' u' h') (hB:h0.size ≤ B'):Mod S h0 h':=k.app o.1 q hB
theorem Le.ap {u u' : Value} {m m' : List α} {B' : Nat} {E' : TypeId} (k:Le h0 h) (o:Ow h B' u m E') (q:App h B' u m' E' u' h') (hB:h0.size ≤ B'):Le h0 h':=k.app o.1 q hB
theorem Le.sl {u:Value} {m m' : List α} {B' : Nat} {E' : TypeId} (k:Le h0 h) (o:Ow h B' u m E') (q:aAA h B' u m' E' h') (hB:h0.size ≤ B'):Le h0 h':=q.2.1.after k fun x hv=>Nat.le_trans hB (o.vb hv).1
end
section
variable {P:Program} {J:eM P} {w0:World} {N:Nat} {Q:HQ} {s:Env} {h:Heap} {ops:List Oper} {k:Nat} {l rest:List Oper} {L:SL} {r:Env} {dn:Nat} {op:Op} {ty:TypeId} {ps:String} {af:Array Edge}
def tB (ops:List Oper):Bool:=((List.range ops.length).all fun k=>kJ ops (List.replicate k true ++ List.replicate (ops.length - k) false) k) && (Region.ready .any ops.toArray (List.replicate ops.length true).toArray).isEmpty
def HT (J:eM P) (w0:World) (N:Nat) (ops:List Oper) (k:Nat) (l:List Oper) (Q:HQ) (s:Env) (h:Heap):Prop :=
  tB ops = true → (∀ j x,l[j]? = some x → ops[k + j]? = some x) → k + l.length = ops.length → HA1 J w0 N ops l.length (List.replicate k true ++ List.replicate l.length false) Q s h
theorem fR {id:Nat} {l:List Oper} (hx:HT J w0 N l 0 l Q (aH L r) h) (ht:tB l = true:=by kernel_rfl) (hm:P.follows .mixedOrders = true:=by exact bC):HW J w0 N (.region id l.toArray true) Q (aH L r) h :=
  qO l.length hm (by have:=hx ht (by simp) (by simp); simpa using this)
theorem aDa (ht:tB ops = true) (hl:k + (rest.length + 1) = ops.length):kJ ops (List.replicate k true ++ List.replicate (rest.length + 1) false) k = true:=by
  simp only [tB,Bool.and_eq_true,List.all_eq_true,List.mem_range] at ht
  have:=ht.1 k (by omega)
  rwa [show ops.length - k = rest.length + 1 by omega] at this
theorem aCI {listed:List Bool} {i:Nat} (h:kJ ops listed i = true):fB ops listed i = true:=by
  simp only [kJ,Bool.and_eq_true] at h; exact h.1
theorem aA5:(List.replicate k true ++ List.replicate (rest.length + 1) false).set k true = List.replicate (k + 1) true ++ List.replicate rest.length false:=by
  rw [List.set_append_right _ _ (by simp),List.length_replicate,Nat.sub_self,List.replicate_succ,List.set_cons_zero,List.replicate_succ',List.append_assoc]; rfl
theorem aC9 {o:Oper} (hx:∀ j x,(o :: rest)[j]? = some x → ops[k + j]? = some x):ops[k]? = some o∧∀ j x,rest[j]? = some x → ops[k + 1 + j]? = some x :=
  ⟨hx 0 o rfl,fun j x h=>by have:=hx (j + 1) x (by simpa using h); simpa [Nat.add_assoc,Nat.add_comm 1 j] using this⟩
theorem gO (hq:Q .normal (aH L r) h):HT J w0 N ops k [] Q (aH L r) h:=fun ht _ hl=>by
  simp only [tB,Bool.and_eq_true,List.isEmpty_iff] at ht
  refine fN hq ?_
  simp only [List.length_nil,Nat.add_zero] at hl
  rw [hl]; simpa using ht.2
theorem bN {v:Value} (hy:Y P (aH L r) h op ty v) (hn:HT J w0 N ops (k + 1) rest Q (aH ((dn,v) :: L) r) h) (hd:Nat.blt dn N = true:=by rfl) :
    HT J w0 N ops k ({ dst:=some dn,op:=op,type:=ty,pos:=ps,after:=af,guard:=none } :: rest) Q (aH L r) h:=fun ht hx hl=>by
  obtain ⟨h0,hx'⟩:=aC9 hx
  have:=hn ht hx' (by simp at hl; omega)
  rw [← aA5] at this
  exact cZ k h0 hy this (aDa ht hl) hd
theorem dJ {j dj:Nat} {want t:Bool} {v:Value} (hw:t = want) (hy:Y P (aH L r) h op ty v) (hn:HT J w0 N ops (k + 1) rest Q (aH ((dn,v) :: L) r) h)
    (hj:(ops[j]?).bind (·.dst) = some dj:=by rfl) (hg:aH L r dj = .bool t:=by (simp only [aH,reduceIte,Nat.reduceEqDiff,reduceCtorEq] <;> rfl)) (hd:Nat.blt dn N = true:=by rfl) :
    HT J w0 N ops k ({ dst:=some dn,op:=op,type:=ty,pos:=ps,after:=af,guard:=some (j,want) } :: rest) Q (aH L r) h:=fun ht hx hl=>by
  obtain ⟨h0,hx'⟩:=aC9 hx
  have:=hn ht hx' (by simp at hl; omega)
  rw [← aA5] at this
  exact bP k h0 hw hy this hj hg (aDa ht hl) hd
theorem dI {j dj:Nat} {want t:Bool} (hne:t ≠ want) (hn:HT J w0 N ops (k + 1) rest Q (aH ((dn,undef) :: L) r) h)
    (hj:(ops[j]?).bind (·.dst) = some dj:=by rfl) (hg:aH L r dj = .bool t:=by (simp only [aH,reduceIte,Nat.reduceEqDiff,reduceCtorEq] <;> rfl)) (hd:Nat.blt dn N = true:=by rfl) :
    HT J w0 N ops k ({ dst:=some dn,op:=op,type:=ty,pos:=ps,after:=af,guard:=some (j,want) } :: rest) Q (aH L r) h:=fun ht hx hl=>by
  obtain ⟨h0,hx'⟩:=aC9 hx
  have:=hn ht hx' (by simp at hl; omega)
  rw [← aA5] at this
  exact bK k h0 hne this hj hg (aCI (aDa ht hl)) hd
end
section
variable {P:Program} {J:eM P} {w0:World} {N:Nat} {Q:HQ} {s:Env} {h:Heap} {opsA:Array Oper} {ops:List Oper} {k:Nat} {l:List Oper} {L:SL} {r:Env}
theorem mJ (n:Nat) (L' : SL) (hn:∀ r,HT J w0 N ops (k + n) (l.drop n) Q (aH L' r) h)
    (hx:(∀ s',eY s' L' → HT J w0 N ops (k + n) (l.drop n) Q s' h) → HT J w0 N ops k l Q s h):HT J w0 N ops k l Q s h :=
  hx fun s' hA=>by have:=hn s'; rw [← iK hA] at this; exact this
theorem eT {X:Prop} {b:Bool} (h1:b = true → X) (h2:b = false → X):X:=by
  cases b
  · exact h2 rfl
  · exact h1 rfl
theorem dA {X:Prop} (p:Prop) (h1:p → X) (h2:¬ p → X):X:=(Classical.em p).elim h1 h2
theorem dT {p:Prop} [Decidable p] (g:p):decide p = true:=decide_eq_true g
theorem dF {p:Prop} [Decidable p] (g:¬ p):decide p = false:=decide_eq_false g
theorem nT {b:Bool} (g:b = true):(!b) = false:=by rw [g]; rfl
theorem nF {b:Bool} (g:b = false):(!b) = true:=by rw [g]; rfl
end
section
variable {P:Program} {J:eM P} {w0:World} {N:Nat} {Q:HQ} {h:Heap} {L:SL} {r:Env} {c:Operand} {x y:Code}
theorem aZ {p:Prop} [Decidable p] (h1:p → HW J w0 N x Q (aH L r) h) (h2:¬ p → HW J w0 N y Q (aH L r) h) (hc:ev (aH L r) c = .bool (decide p):=by (simp only [ev,aH,reduceIte,Nat.reduceEqDiff,reduceCtorEq] <;> rfl)):HW J w0 N (.cond c x y) Q (aH L r) h :=
  wN hc (fun e=>h1 (of_decide_eq_true e)) (fun e=>h2 (of_decide_eq_false e))
theorem dS {b:Bool} (h1:b = false → HW J w0 N x Q (aH L r) h) (h2:b = true → HW J w0 N y Q (aH L r) h) (hc:ev (aH L r) c = .bool (!b):=by (simp only [ev,aH,reduceIte,Nat.reduceEqDiff,reduceCtorEq] <;> rfl)):HW J w0 N (.cond c x y) Q (aH L r) h :=
  wN hc (fun e=>h1 (by simpa using e)) (fun e=>h2 (by simpa using e))
theorem fH {p:Prop} [Decidable p] (h1:¬ p → HW J w0 N x Q (aH L r) h) (h2:p → HW J w0 N y Q (aH L r) h) (hc:ev (aH L r) c = .bool (!decide p):=by (simp only [ev,aH,reduceIte,Nat.reduceEqDiff,reduceCtorEq] <;> rfl)):HW J w0 N (.cond c x y) Q (aH L r) h :=
  wN hc (fun e=>h1 (by simpa using e)) (fun e=>h2 (by simpa using e))
theorem fP {t:Bool} (g:t = true) (h1:HW J w0 N x Q (aH L r) h) (hc:ev (aH L r) c = .bool t:=by (simp only [ev,aH,reduceIte,Nat.reduceEqDiff,reduceCtorEq] <;> rfl)):HW J w0 N (.cond c x y) Q (aH L r) h :=
  wN hc (fun _=>h1) (fun e=>by rw [g] at e; cases e)
theorem eZ {t:Bool} (g:t = false) (h1:HW J w0 N y Q (aH L r) h) (hc:ev (aH L r) c = .bool t:=by (simp only [ev,aH,reduceIte,Nat.reduceEqDiff,reduceCtorEq] <;> rfl)):HW J w0 N (.cond c x y) Q (aH L r) h :=
  wN hc (fun e=>by rw [g] at e; cases e) (fun _=>h1)
end
section
variable {α:Type} [Flat α] [Ok α] {h h' h0:Heap} {O O1 S S2:Nat → Prop} {v v' : Value} {l l' : List α} {B b b' n:Nat} {E T:TypeId} {cs cs' : List Value} {br:Nat} {p:Int}
theorem Mod.stO (k:Mod S h0 h) (q:fQ h b cs T h') (hb:S b):Mod S h0 h' :=
  ⟨Nat.le_trans k.1 q.2.1.1,fun x hx hn=>(q.2.1.2 x (Nat.lt_of_lt_of_le hx k.1) fun e=>hn (e ▸ hb)).trans (k.2 x hx hn)⟩
theorem Mod.trans2 (k:Mod S h0 h) (m:Mod S2 h h') (hs:∀ x,S2 x → S x ∨ h0.size ≤ x):Mod S h0 h' :=
  ⟨Nat.le_trans k.1 m.1,fun x hx hn=>(m.2 x (Nat.lt_of_lt_of_le hx k.1) fun e=>(hs x e).elim hn fun e'=>by omega).trans (k.2 x hx hn)⟩
theorem Mod.apO {α:Type} [Flat α] {u u' : Value} {m' : List α} {B' : Nat} {E' : TypeId} (k:Mod S h0 h) (q:App h B' u m' E' u' h') (hv:∀ x,vblk u x → S x ∨ h0.size ≤ x):Mod S h0 h':=k.trans2 q.2.1 hv
theorem Mod.slO {α:Type} [Flat α] {u:Value} {m' : List α} {B' : Nat} {E' : TypeId} (k:Mod S h0 h) (q:aAA h B' u m' E' h') (hv:∀ x,vblk u x → S x ∨ h0.size ≤ x):Mod S h0 h':=k.trans2 q.2.1 hv
theorem laB (la:∀ x,O x → S x ∨ n ≤ x) (hO:∀ x,O1 x ↔ O x ∨ x = b) (hb:n ≤ b):∀ x,O1 x → S x ∨ n ≤ x:=fun x hx=>((hO x).1 hx).elim (la x) fun e=>.inr (by omega)
theorem laS (la:∀ x,O x → S x ∨ n ≤ x) (hO:∀ x,O1 x ↔ O x ∨ S2 x) (hs:∀ x,S2 x → n ≤ x):∀ x,O1 x → S x ∨ n ≤ x:=fun x hx=>((hO x).1 hx).elim (la x) fun e=>.inr (hs x e)
theorem laA {α:Type} [Flat α] {u u' : Value} {m' : List α} {B' : Nat} {E' : TypeId} (la:∀ x,O x → S x ∨ n ≤ x) (hO:∀ x,O1 x ↔ O x ∨ vblk u' x) (q:App h B' u m' E' u' h') (mo:∀ b,vblk u b → O b) (hn:n ≤ h.size):∀ x,O1 x → S x ∨ n ≤ x :=
  fun x hx=>((hO x).1 hx).elim (la x) fun e=>(q.2.2 x e).elim (fun e'=>la x (mo x e')) fun e'=>.inr (Nat.le_trans hn e')
theorem laL {n' : Nat} (la:∀ x,O x → S x ∨ n ≤ x) (lb:∀ x,O1 x → O x ∨ n' ≤ x) (hn:n ≤ n'):∀ x,O1 x → S x ∨ n ≤ x:=fun x hx=>(lb x hx).elim (la x) fun e=>.inr (Nat.le_trans hn e)
theorem mF {α:Type} [Flat α] {V:Nat → Prop} {u u' : Value} {m' : List α} {B' : Nat} {E' : TypeId} (sp:∀ x,V x → ¬ vblk u x) (q:App h B' u m' E' u' h') (hv:∀ x,V x → x < h.size):∀ x,V x → ¬ vblk u' x :=
  fun x h1 h2=>(q.2.2 x h2).elim (sp x h1) fun e=>by have:=hv x h1; omega
theorem sepB {α:Type} [Flat α] {V:Nat → Prop} {u u' : Value} {m' : List α} {B' : Nat} {E' : TypeId} (sp:∀ x,vblk u x → ¬ V x) (q:App h B' u m' E' u' h') (hv:∀ x,V x → x < h.size):∀ x,vblk u' x → ¬ V x :=
  fun x h2 h1=>(q.2.2 x h2).elim (fun e=>sp x e h1) fun e=>by have:=hv x h1; omega
theorem Ow.fin (k:Ow h' B v l E) (hO:OB h O) (hB:h.size ≤ B):Rs h' O v l:=k.end fun x hx=>Nat.lt_of_lt_of_le (hO x hx) hB
theorem Ow.any (k:Ow h B v l E):Rs h (fun _=>False) v l:=⟨k.1.rd.lt.weak fun b hb=>⟨hb.1,fun h=>h⟩,k.2⟩
end
section
variable {P:Program} {s:Env} {h:Heap} {ty:TypeId} {x y:Operand} {t:TypeId}
theorem u8_wrap (c:UInt8):IntKind.i64.wrap (c.toNat:Int) = (c.toNat:Int):=jB (by omega) (by have:=c.toNat_lt; omega)
theorem fT {c:UInt8} {src:TypeId} [hs:oL P src] [ht:qY P t .i64] (hx:ev s x = .int .u8 (c.toNat:Int):=by (simp only [ev,aH,reduceIte,Nat.reduceEqDiff,reduceCtorEq] <;> rfl)):Y P s h (.convert src t x) ty (vi (c.toNat:Int)):=by
  have:=jP (P:=P) (s:=s) (h:=h) (ty:=ty) (x:=x) (t:=t) (k:=.i64) (k':=.u8) (n:=(c.toNat:Int)) (src:=src) hx
  rwa [u8_wrap] at this
end
section
variable {P:Program} {s:Env} {h h1:Heap} {ty:TypeId} {x y:Operand} {t e:TypeId} {α:Type} [Flat α] {X:Nat → Prop} {v:Value} {l:List α}
theorem y_lenA [ht:fA P t e] (hr:RdF h1 X v l) (hx:ev s x = v:=by (simp only [ev,aH,reduceIte,Nat.reduceEqDiff,reduceCtorEq] <;> rfl)):Y P s h (.call { callee:=.builtin .len,args:=#[x],argTypes:=#[t] }) ty (vi l.length):=by
  obtain ⟨A,cap,rfl,h2,h3,h4⟩:=hr
  exact kB hx
theorem y_idxA {i:Nat} {k:IntKind} [ht:fA P t e] [hz:eG P e (Flat.n α)] (hr:RdF h1 X v l) (hx:ev s x = v:=by (simp only [ev,aH,reduceIte,Nat.reduceEqDiff,reduceCtorEq] <;> rfl)) (hy:ev s y = .int k i:=by (simp only [ev,aH,reduceIte,Nat.reduceEqDiff,reduceCtorEq] <;> rfl)) (hi:i < l.length:=by omega):Y P s h (.indexAddr t x y) ty (.pointer (some (elA v (i * Flat.n α)))):=by
  obtain ⟨A,cap,rfl,h2,h3,h4⟩:=hr
  obtain ⟨a,rfl,hX,hc⟩:=h4 i _ (List.getElem?_eq_getElem hi)
  exact rQ hx hy (by omega) (by omega)
theorem gR {i:Int} {k:IntKind} [ht:fA P t e] [hz:eG P e (Flat.n α)] (hr:RdF h1 X v l) (hx:ev s x = v:=by (simp only [ev,aH,reduceIte,Nat.reduceEqDiff,reduceCtorEq] <;> rfl)) (hy:ev s y = .int k i:=by (simp only [ev,aH,reduceIte,Nat.reduceEqDiff,reduceCtorEq] <;> rfl)) (h0:0 ≤ i:=by omega) (hi:i.toNat < l.length:=by omega):Y P s h (.indexAddr t x y) ty (.pointer (some (elA v (i.toNat * Flat.n α)))):=by
  obtain ⟨n,rfl⟩:=Int.eq_ofNat_of_zero_le h0
  exact y_idxA hr hx hy hi
theorem mP {lo:Int} {k:IntKind} {z:Operand} [ht:fA P t e] [hsz:eG P e (Flat.n α)] (hr:RdF h1 X v l) (hx:ev s x = v:=by (simp only [ev,aH,reduceIte,Nat.reduceEqDiff,reduceCtorEq] <;> rfl)) (hz:ev s z = .int k lo:=by (simp only [ev,aH,reduceIte,Nat.reduceEqDiff,reduceCtorEq] <;> rfl)) (h0:0 ≤ lo:=by omega) (hl:lo.toNat ≤ l.length:=by omega):Y P s h (.slice t x (some z) none none) ty (cutLo (Flat.n α) lo.toNat v):=by
  obtain ⟨A,cap,rfl,h2,h3,_⟩:=hr
  intro _ _ _ _ w hh
  have h1' : lo ≤ (l.length:Int):=by omega
  obtain ⟨info,hi,hs⟩:=Option.map_eq_some_iff.1 hsz.h
  simp [execOp,Instr.sliceAt,ht.h,run_underlying,hx,hz,Instr.slice,Instr.sliceBounds,Instr.sliceBound,asIntOf,h0,h1',sizeOf,typeInfo,hi,hs,Go.Proofs.YtlpdccnjhpclbaaGreatDoor.cutLo]
theorem iG {hi:Int} {k:IntKind} {z:Operand} [ht:fA P t e] [hsz:eG P e (Flat.n α)] (hr:RdF h1 X v l) (hx:ev s x = v:=by (simp only [ev,aH,reduceIte,Nat.reduceEqDiff,reduceCtorEq] <;> rfl)) (hz:ev s z = .int k hi:=by (simp only [ev,aH,reduceIte,Nat.reduceEqDiff,reduceCtorEq] <;> rfl)) (h0:0 ≤ hi:=by omega) (hl:hi.toNat ≤ l.length:=by omega):Y P s h (.slice t x none (some z) none) ty (cutHi hi.toNat v):=by
  obtain ⟨A,cap,rfl,h2,h3,_⟩:=hr
  intro _ _ _ _ w hh
  have h1' : hi ≤ (cap:Int):=by omega
  obtain ⟨info,hi',hs⟩:=Option.map_eq_some_iff.1 hsz.h
  simp [execOp,Instr.sliceAt,ht.h,run_underlying,hx,hz,Instr.slice,Instr.sliceBounds,Instr.sliceBound,asIntOf,h0,h1',sizeOf,typeInfo,hi',hs,Go.Proofs.YtlpdccnjhpclbaaGreatDoor.cutHi]
  intro _; cases A <;> simp [Addr.add]
end
end
section
open Go.Conc
def gC (n:Int):Bool:=decide (-999 ≤ n) && decide (n ≤ 999)
def mV (c:UInt8):Bool:=decide (97 ≤ (c.toNat:Int)) && decide ((c.toNat:Int) ≤ 122)
def fD (s:Str):Bool:=s.all mV && (decide (1 ≤ (s.length:Int)) && decide ((s.length:Int) ≤ 2))
theorem qV {α:Type} {p:α → Bool} {l:List α} {k:Nat} {x:α} (hx:l[k]? = some x):(l.drop k).all p = (p x && (l.drop (k + 1)).all p):=by
  obtain ⟨h1,rfl⟩:=List.getElem?_eq_some_iff.1 hx
  rw [List.drop_eq_getElem_cons h1,List.all_cons]
theorem aBR {α:Type} {p:α → Bool} {l:List α} {k:Nat} (h:l.length ≤ k):(l.drop k).all p = true:=by rw [List.drop_eq_nil_of_le h]; rfl
def rowFind:List Row → Str → Nat
  | [],_=>0
  | x :: l,key=>if Op.bytesLess x.key key then rowFind l key + 1 else 0
theorem qH {l:List Row} {key:Str} {k:Nat} {x:Row} (hx:l[k]? = some x):rowFind (l.drop k) key = if Op.bytesLess x.key key then rowFind (l.drop (k + 1)) key + 1 else 0:=by
  obtain ⟨h1,rfl⟩:=List.getElem?_eq_some_iff.1 hx
  rw [List.drop_eq_getElem_cons h1,rowFind]
theorem zB {l:List Row} {key:Str} {k:Nat} (h:l.length ≤ k):rowFind (l.drop k) key = 0:=by rw [List.drop_eq_nil_of_le h,rowFind]
def kK (l:List Row) (key:Str):Bool:=match l[rowFind l key]? with | some x=>decide (x.key = key) | none=>false
theorem pS (l:List Row) (key:Str):rowFind l key ≤ l.length:=by
  induction l with
  | nil=>simp [rowFind]
  | cons x l ih=>simp only [rowFind,List.length_cons]; split <;> omega
theorem aB3 {l:List Row} {key:Str} (h:kK l key = true):∃ x,l[rowFind l key]? = some x∧x.key = key:=by
  unfold kK at h
  split at h
  · rename_i x hx; exact ⟨x,hx,by simpa using h⟩
  · cases h
theorem rC {l:List Row} {key:Str} (h:kK l key = true):rowFind l key < l.length:=by
  obtain ⟨x,hx,_⟩:=aB3 h; exact (List.getElem?_eq_some_iff.1 hx).1
theorem wG {l:List Row} {key:Str} {x:Row} (hx:l[rowFind l key]? = some x):kK l key = decide (x.key = key):=by unfold kK; rw [hx]
theorem aB2 {l:List Row} {key:Str} (h:¬ rowFind l key < l.length):kK l key = false:=by unfold kK; rw [List.getElem?_eq_none (by omega)]
def pR (l:List Row) (key:Str) (num:Int):List Row:=if kK l key then l.set (rowFind l key) ⟨key,num⟩ else l.take (rowFind l key) ++ ⟨key,num⟩ :: l.drop (rowFind l key)
def ahead {α:Type} (l:List α) (k:Nat):Option α:=if k = 0 then none else l[k - 1]?
theorem gQ {α:Type} {l:List α} {k:Nat} {x:α} (hx:l[k]? = some x):ahead l (k + 1) = some x:=by simp [ahead,hx]
theorem kG {α:Type} {l:List α} {k:Nat} {y:α} (hk:0 < k) (hy:l[((k:Int) - 1).toNat]? = some y):ahead l k = some y:=by
  unfold ahead; rw [if_neg (by omega),← hy]; congr 1; omega
theorem nG {α:Type} {l:List α} {k:Nat} (h:¬ 0 < (k:Int)):ahead l k = none:=by unfold ahead; rw [if_pos (by omega)]
def jF (prev:Option Row):List Row → Bool
  | []=>true
  | x :: l=>fD x.key && gC x.num && (match prev with | some p=>Op.bytesLess p.key x.key | none=>true) && jF (some x) l
def fE (l:List Row):Bool:=jF none l && decide ((l.length:Int) ≤ 10)
theorem jE {l:List Row} {p:Option Row} {k:Nat} {x:Row} (hx:l[k]? = some x):jF p (l.drop k) = (fD x.key && gC x.num && (match p with | some p=>Op.bytesLess p.key x.key | none=>true) && jF (some x) (l.drop (k + 1))):=by
  obtain ⟨h1,rfl⟩:=List.getElem?_eq_some_iff.1 hx
  rw [List.drop_eq_getElem_cons h1]; rfl
theorem yZ {l:List Row} {p:Option Row} {k:Nat} (h:l.length ≤ k):jF p (l.drop k) = true:=by rw [List.drop_eq_nil_of_le h,jF]
set_option maxHeartbeats 1000000 in
theorem aBE {w0:World} {h:Heap} {a:Int} {b:Int}   : HC (XM PP) w0 149 [vi a,vi b].toArray h (fun rv h'=>rv = vi (max a b)∧h' = h):=by
 refine aV 10 [(0,vi a),(1,vi b)] Tryz.func149 (fun r=>?_)
 refine hw_sr (aB aC<|aD ?_)
 refine aI ?_
 refine hw_sr (aB y_move<|aB y_move<|aB cU<|aD ?_)
 refine aZ (fun g7=>?_) (fun g7=>?_)
 refine hw_sr (aB y_move<|aB aC<|aD ?_)
 refine hw_rr ?_
 refine aQ rfl (.cons aU .nil) ?_
 exact ⟨by first | rfl | (simp [oneOf,Int.max_def]; omega),rfl⟩
 refine aM ?_
 refine hw_sr (aB y_move<|aB aC<|aD ?_)
 refine hw_rr ?_
 refine aQ rfl (.cons aU .nil) ?_
 exact ⟨by first | rfl | (simp [oneOf,Int.max_def]; omega),rfl⟩
set_option maxHeartbeats 1000000 in
theorem qL {w0:World} {h:Heap} {n:Int}   : HC (XM PP) w0 71 [vi n].toArray h (fun rv h'=>rv = vb (gC n)∧h' = h):=by
 refine aV 9 [(0,vi n)] Tryz.func71 (fun r=>?_)
 refine hw_sr (aB aC<|aD ?_)
 refine hw_sr (aB y_move<|aB y_geq<|aB y_move<|?_)
 refine bB 3 [(8,vb ((decide ((-999) ≤ n)) && (decide (n ≤ 999))))] (fun r=>?_) (fun jn=>?_)
 refine aB aC<|aD ?_
 refine hw_rr ?_
 refine aQ rfl (.cons aU .nil) ?_
 exact ⟨by first | rfl | (simp_all [oneOf,gC] <;> omega),rfl⟩
 refine dA ((-999) ≤ n) (fun g5=>?_) (fun g5=>?_)
 refine aO (dT g5) y_move<|aO (dT g5) y_leq<|aB (y_pickT (dT g5))<|?_
 exact jn _ (aA aJ (by simp [aH,g5]))
 refine aN (neF (dF g5))<|aN (neF (dF g5))<|aB (aR (dF g5))<|?_
 exact jn _ (aA aJ (by simp [aH,g5]))
set_option maxHeartbeats 1000000 in
theorem pA {w0:World} {h:Heap} {s:Str}  (s0:SB s:=by first | assumption | omega | (simp; omega)):HC (XM PP) w0 67 [vs s].toArray h (fun rv h'=>rv = vb (fD s)∧h' = h):=by
 refine aV 28 [(0,vs s)] Tryz.func67 (fun r=>?_)
 refine hw_sr (aB aC<|aD ?_)
 refine aI ?_
 refine hw_sr (aB aC<|aD ?_)
 refine cT (fun (k:Nat)=>[(0,vs s),(3,vi (k:Int))]) (fun (k:Nat) (h' : Heap)=>h = h' ∧ s.all mV = true) (aX (cK (fun (k:Nat)=>[(0,vs s),(3,vi (k:Int))]) (fun (k:Nat) (h' : Heap)=>h = h' ∧ s.all mV = (s.drop k).all mV∧k ≤ s.length) (fun (k:Nat)=>s.length - k) (0) ag2 ⟨rfl,by simp⟩ ?_)) ?_
 rintro k r _ ⟨rfl,e1,e2⟩
 refine aI ?_
 refine hw_sr (aB y_move<|aB y_move<|aB y_len_str<|aB dB<|aD ?_)
 refine aF (ah3 0 3 7) fun r=>?_
 refine aZ (fun g7=>?_) (fun g7=>?_)
 refine aM ?_
 refine aI ?_
 refine aX ?_
 refine hw_sr (aB y_move<|aB y_move<|?_)
 obtain ⟨x1,hx1⟩:∃ c,s[k]? = some c:=⟨_,List.getElem?_eq_getElem (by omega)⟩
 refine aB (bV hx1)<|aB dB<|aB y_move<|?_
 refine bB 5 [(0,vs s),(3,vi (k:Int)),(19,vb ((decide ((x1.toNat:Int) < 97)) || (decide ((122:Int) < (x1.toNat:Int)))))] (fun r=>?_) (fun jn=>?_)
 refine aD ?_
 refine bF (fun g19=>?_) (fun g19=>?_)
 have g19':=g19
 simp at g19'
 refine hw_sr (aB aC<|aD ?_)
 refine hw_rr ?_
 refine aQ rfl (.cons aU .nil) ?_
 have hall:s.all mV = false:=by rw [e1,qV hx1]; simp [mV]; omega
 exact ⟨by first | rfl | (simp [oneOf,fD,hall]),rfl⟩
 have g19':=g19
 simp at g19'
 refine aM ?_
 refine aE (aB y_move<|aB bI<|aB aC<|aD ?_)
 exact ⟨k + 1,ag2,⟨rfl,by exact ⟨by rw [e1,qV hx1]; simp [mV, *],by omega⟩⟩,by first | omega | (dsimp only; omega)⟩
 refine dA ((x1.toNat:Int) < 97) (fun g14=>?_) (fun g14=>?_)
 refine aN (neT (dT g14))<|aN (neT (dT g14))<|aN (neT (dT g14))<|aN (neT (dT g14))<|aB (y_pickT (dT g14))<|?_
 exact jn _ (aA (aA (aA aJ (by simp [aH,g14]))))
 refine aO (dF g14) y_move<|aO (dF g14) y_move<|aO (dF g14) (bV hx1)<|aO (dF g14) cU<|aB (aR (dF g14))<|?_
 exact jn _ (aA (aA (aA aJ (by simp [aH,g14]))))
 refine cI ?_
 exact ⟨k,ag2,⟨rfl,by exact e1.trans (aBR (by omega))⟩⟩
 rintro k r _ ⟨rfl,e1⟩
 refine hw_sr (aB y_move<|aB y_len_str<|aB y_geq<|aB y_move<|?_)
 refine bB 4 [(27,vb ((decide ((1:Int) ≤ (s.length:Int))) && (decide ((s.length:Int) ≤ 2))))] (fun r=>?_) (fun jn=>?_)
 refine aB aC<|aD ?_
 refine hw_rr ?_
 refine aQ rfl (.cons aU .nil) ?_
 exact ⟨by first | rfl | (simp [oneOf,fD,e1]),rfl⟩
 refine dA ((1:Int) ≤ (s.length:Int)) (fun g23=>?_) (fun g23=>?_)
 refine aO (dT g23) y_move<|aO (dT g23) y_len_str<|aO (dT g23) y_leq<|aB (y_pickT (dT g23))<|?_
 exact jn _ (aA aJ (by simp [aH,g23]))
 refine aN (neF (dF g23))<|aN (neF (dF g23))<|aN (neF (dF g23))<|aB (aR (dF g23))<|?_
 exact jn _ (aA aJ (by simp [aH,g23]))
set_option maxHeartbeats 1000000 in
theorem tW {w0:World} {h:Heap} {O:Nat → Prop} {l:List Row} {k0v:Value} {key:Str} (k0:Rs h O k0v l) (s0:SB key:=by first | assumption | omega | (simp; omega)):HC (XM PP) w0 134 [k0v,vs key].toArray h (fun rv h'=>rv = .tuple #[vi (rowFind l key:Int),vb (kK l key)]∧h' = h):=by
 obtain ⟨Ak0,nk0,ck0,rfl⟩:=k0.frm
 have hl:=k0.len
 refine aV 36 [(0,(.slice Ak0 nk0 ck0)),(1,vs key)] Tryz.func134 (fun r=>?_)
 refine hw_sr (aB aC<|aB aC<|aD ?_)
 refine hw_sr (aB aC<|aD ?_)
 refine dH (fun (k:Nat)=>[(0,(.slice Ak0 nk0 ck0)),(1,vs key),(6,vi (k:Int))]) (fun (k:Nat) (h' : Heap)=>h = h' ∧ k = rowFind l key∧k ≤ l.length) (aX (cK (fun (k:Nat)=>[(0,(.slice Ak0 nk0 ck0)),(1,vs key),(6,vi (k:Int))]) (fun (k:Nat) (h' : Heap)=>h = h' ∧ rowFind l key = k + rowFind (l.drop k) key∧k ≤ l.length) (fun (k:Nat)=>l.length - k) (0) ag3 ⟨rfl,by simp⟩ ?_)) ?_
 rintro k r _ ⟨rfl,e1,e2⟩
 refine aI ?_
 refine hw_sr (aB y_move<|aB y_move<|aB (y_lenA k0.1)<|aB dB<|aB y_move<|?_)
 refine dA ((k:Int) < (l.length:Int)) (fun g11=>?_) (fun g11=>?_)
 refine aO (dT g11) y_move<|aO (dT g11) y_move<|?_
 obtain ⟨x1,hx1⟩:∃ x,l[k]? = some x:=⟨_,List.getElem?_eq_getElem (by omega)⟩
 have sx1:SB x1.key:=k0.2.at hx1
 refine aO (dT g11) (y_idxA k0.1)<|aO (dT g11) y_fieldAddr<|aO (dT g11) (y_load (RdF.cell k0.1 hx1 rfl))<|aO (dT g11) y_move<|aO (dT g11) aAF<|aB (y_pickT (dT g11))<|aD ?_
 refine aF (ah4 0 1 6 19) fun r=>?_
 refine bF (fun g19=>?_) (fun g19=>?_)
 refine aM ?_
 refine aX ?_
 refine aE (aB y_move<|aB bI<|aB aC<|aD ?_)
 exact ⟨k + 1,ag3,⟨rfl,by exact ⟨by rw [e1,qH hx1,if_pos (by assumption)]; omega,by omega⟩⟩,by first | omega | (dsimp only; omega)⟩
 refine cI ?_
 exact ⟨k,ag3,⟨rfl,by exact ⟨by rw [e1,qH hx1,if_neg (by simp_all)]; omega,e2⟩⟩⟩
 refine aN (neF (dF g11))<|aN (neF (dF g11))<|aN (neF (dF g11))<|aN (neF (dF g11))<|aN (neF (dF g11))<|aN (neF (dF g11))<|aN (neF (dF g11))<|aB (aR (dF g11))<|aD ?_
 refine aF (ah4 0 1 6 19) fun r=>?_
 refine eZ rfl ?_
 refine cI ?_
 exact ⟨k,ag3,⟨rfl,by exact ⟨by rw [e1,zB (by omega)]; omega,e2⟩⟩⟩
 rintro k r _ ⟨rfl,e1,e2⟩
 refine aI ?_
 refine fR (bN y_move<|bN y_move<|bN y_move<|bN (y_lenA k0.1)<|bN dB<|bN y_move<|?_)
 refine dA ((k:Int) < (l.length:Int)) (fun g27=>?_) (fun g27=>?_)
 refine dJ (dT g27) y_move<|dJ (dT g27) y_move<|?_
 obtain ⟨x1,hx1⟩:∃ x,l[k]? = some x:=⟨_,List.getElem?_eq_getElem (by omega)⟩
 have sx1:SB x1.key:=k0.2.at hx1
 refine dJ (dT g27) (y_idxA k0.1)<|dJ (dT g27) y_fieldAddr<|dJ (dT g27) (y_load (RdF.cell k0.1 hx1 rfl))<|dJ (dT g27) y_move<|dJ (dT g27) y_seql<|bN (y_pickT (dT g27))<|bN aC<|bN aC<|gO ?_
 refine aF (ah2 4 5) fun r=>?_
 refine hw_rr ?_
 refine aQ rfl (.cons aU (.cons aU .nil)) ?_
 exact ⟨by first | rfl | (subst e1; simp [oneOf,wG hx1]),rfl⟩
 refine dI (neF (dF g27))<|dI (neF (dF g27))<|dI (neF (dF g27))<|dI (neF (dF g27))<|dI (neF (dF g27))<|dI (neF (dF g27))<|dI (neF (dF g27))<|bN (aR (dF g27))<|bN aC<|bN aC<|gO ?_
 refine aF (ah2 4 5) fun r=>?_
 refine hw_rr ?_
 refine aQ rfl (.cons aU (.cons aU .nil)) ?_
 exact ⟨by first | rfl | (subst e1; simp [oneOf]; rw [aB2 (by omega)]),rfl⟩
set_option maxHeartbeats 1000000 in
theorem qX {w0:World} {h:Heap} {O:Nat → Prop} {l:List Row} {k0v:Value} (k0:Rs h O k0v l)  : HC (XM PP) w0 131 [k0v].toArray h (fun rv h'=>rv = vb (fE l)∧h' = h):=by
 obtain ⟨Ak0,nk0,ck0,rfl⟩:=k0.frm
 have hl:=k0.len
 refine aV 47 [(0,(.slice Ak0 nk0 ck0))] Tryz.func131 (fun r=>?_)
 refine hw_sr (aB aC<|aD ?_)
 refine aI ?_
 refine hw_sr (aB aC<|aD ?_)
 refine cT (fun (k:Nat)=>[(0,(.slice Ak0 nk0 ck0)),(3,vi (k:Int))]) (fun (k:Nat) (h' : Heap)=>h = h' ∧ jF none l = true) (aX (cK (fun (k:Nat)=>[(0,(.slice Ak0 nk0 ck0)),(3,vi (k:Int))]) (fun (k:Nat) (h' : Heap)=>h = h' ∧ jF none l = jF (ahead l k) (l.drop k)∧k ≤ l.length) (fun (k:Nat)=>l.length - k) (0) ag2 ⟨rfl,by simp [ahead]⟩ ?_)) ?_
 rintro k r _ ⟨rfl,e1,e2⟩
 refine aI ?_
 refine hw_sr (aB y_move<|aB y_move<|aB (y_lenA k0.1)<|aB dB<|aD ?_)
 refine aF (ah3 0 3 7) fun r=>?_
 refine aZ (fun g7=>?_) (fun g7=>?_)
 refine aM ?_
 refine aI ?_
 refine aX ?_
 refine aI ?_
 refine qO 34 bC (cZ 0 rfl y_move<|cZ 1 rfl y_move<|?_)
 obtain ⟨x1,hx1⟩:∃ x,l[k]? = some x:=⟨_,List.getElem?_eq_getElem (by omega)⟩
 have sx1:SB x1.key:=k0.2.at hx1
 refine cZ 2 rfl (y_idxA k0.1)<|cZ 3 rfl y_fieldAddr<|cZ 4 rfl (y_load (RdF.cell k0.1 hx1 rfl))<|?_
 refine rI 5 rfl aG pA<|cZ 6 rfl dG<|cZ 7 rfl y_move<|?_
 refine eT (b:=fD x1.key) (fun g17=>?_) (fun g17=>?_)
 refine bP 8 rfl (nT g17) y_move<|bP 9 rfl (nT g17) y_move<|bP 10 rfl (nT g17) (y_idxA k0.1)<|bP 11 rfl (nT g17) y_fieldAddr<|bP 12 rfl (nT g17) (y_load (RdF.cell k0.1 hx1 rfl))<|?_
 refine aBL 13 rfl (nT g17) aG qL<|bP 14 rfl (nT g17) dG<|cZ 15 rfl (aR (nT g17))<|cZ 16 rfl y_move<|?_
 refine eT (b:=gC x1.num) (fun g26=>?_) (fun g26=>?_)
 refine bP 17 rfl (nT g26) y_move<|bP 18 rfl (nT g26) cU<|bP 19 rfl (nT g26) y_move<|?_
 refine dA ((0:Int) < (k:Int)) (fun g29=>?_) (fun g29=>?_)
 refine bP 20 rfl (dT g29) y_move<|bP 21 rfl (dT g29) y_move<|bP 22 rfl (dT g29) dQ<|?_
 obtain ⟨x2,hx2⟩:∃ x,l[(((k:Int) - 1)).toNat]? = some x:=⟨_,List.getElem?_eq_getElem (by omega)⟩
 have sx2:SB x2.key:=k0.2.at hx2
 refine bP 23 rfl (dT g29) (gR k0.1)<|bP 24 rfl (dT g29) y_fieldAddr<|bP 25 rfl (dT g29) (y_load (RdF.cell k0.1 hx2 rfl))<|bP 26 rfl (dT g29) y_move<|bP 27 rfl (dT g29) y_move<|bP 28 rfl (dT g29) (y_idxA k0.1)<|bP 29 rfl (dT g29) y_fieldAddr<|bP 30 rfl (dT g29) (y_load (RdF.cell k0.1 hx1 rfl))<|bP 31 rfl (dT g29) rA<|bP 32 rfl (nT g26) (y_pickT (dT g29))<|cZ 33 rfl (aR (nT g26))<|fN ?_
 refine aF (ah3 0 3 43) fun r=>?_
 refine dS (fun g43=>?_) (fun g43=>?_)
 refine hw_sr (aB aC<|aD ?_)
 refine hw_rr ?_
 refine aQ rfl (.cons aU .nil) ?_
 exact ⟨by first | rfl | (rw [kG (by omega) hx2] at e1; simp [oneOf,fE,e1,jE hx1]; simp_all),rfl⟩
 refine aM ?_
 refine aE (aB y_move<|aB bI<|aB aC<|aD ?_)
 exact ⟨k + 1,ag2,⟨rfl,by exact ⟨by rw [e1,jE hx1,gQ hx1,kG (by omega) hx2]; simp [g17,g26,g43],by omega⟩⟩,by first | omega | (dsimp only; omega)⟩
 refine bK 20 rfl (neF (dF g29))<|bK 21 rfl (neF (dF g29))<|bK 22 rfl (neF (dF g29))<|bK 23 rfl (neF (dF g29))<|bK 24 rfl (neF (dF g29))<|bK 25 rfl (neF (dF g29))<|bK 26 rfl (neF (dF g29))<|bK 27 rfl (neF (dF g29))<|bK 28 rfl (neF (dF g29))<|bK 29 rfl (neF (dF g29))<|bK 30 rfl (neF (dF g29))<|bK 31 rfl (neF (dF g29))<|bP 32 rfl (nT g26) (aR (dF g29))<|cZ 33 rfl (aR (nT g26))<|fN ?_
 refine aF (ah3 0 3 43) fun r=>?_
 refine eZ rfl ?_
 refine aM ?_
 refine aE (aB y_move<|aB bI<|aB aC<|aD ?_)
 exact ⟨k + 1,ag2,⟨rfl,by exact ⟨by rw [e1,jE hx1,gQ hx1,nG g29]; simp [g17,g26],by omega⟩⟩,by first | omega | (dsimp only; omega)⟩
 refine bK 17 rfl (neT (nF g26))<|bK 18 rfl (neT (nF g26))<|bK 19 rfl (neT (nF g26))<|bU 20 rfl<|bU 21 rfl<|bU 22 rfl<|bU 23 rfl<|bU 24 rfl<|bU 25 rfl<|bU 26 rfl<|bU 27 rfl<|bU 28 rfl<|bU 29 rfl<|bU 30 rfl<|bU 31 rfl<|bK 32 rfl (neT (nF g26))<|cZ 33 rfl (y_pickT (nF g26))<|fN ?_
 refine aF (ah3 0 3 43) fun r=>?_
 refine fP rfl ?_
 refine hw_sr (aB aC<|aD ?_)
 refine hw_rr ?_
 refine aQ rfl (.cons aU .nil) ?_
 exact ⟨by first | rfl | (simp [oneOf,fE,e1,jE hx1]; simp_all),rfl⟩
 refine bK 8 rfl (neT (nF g17))<|bK 9 rfl (neT (nF g17))<|bK 10 rfl (neT (nF g17))<|bK 11 rfl (neT (nF g17))<|bK 12 rfl (neT (nF g17))<|bK 13 rfl (neT (nF g17))<|bK 14 rfl (neT (nF g17))<|cZ 15 rfl (y_pickT (nF g17))<|cZ 16 rfl y_move<|bK 17 rfl (neT rfl)<|bK 18 rfl (neT rfl)<|bK 19 rfl (neT rfl)<|bU 20 rfl<|bU 21 rfl<|bU 22 rfl<|bU 23 rfl<|bU 24 rfl<|bU 25 rfl<|bU 26 rfl<|bU 27 rfl<|bU 28 rfl<|bU 29 rfl<|bU 30 rfl<|bU 31 rfl<|bK 32 rfl (neT rfl)<|cZ 33 rfl (y_pickT rfl)<|fN ?_
 refine aF (ah3 0 3 43) fun r=>?_
 refine fP rfl ?_
 refine hw_sr (aB aC<|aD ?_)
 refine hw_rr ?_
 refine aQ rfl (.cons aU .nil) ?_
 exact ⟨by first | rfl | (simp [oneOf,fE,e1,jE hx1]; simp_all),rfl⟩
 refine cI ?_
 exact ⟨k,ag2,⟨rfl,by exact e1.trans (yZ (by omega))⟩⟩
 rintro k r _ ⟨rfl,e1⟩
 refine hw_sr (aB y_move<|aB (y_lenA k0.1)<|aB y_leq<|aB aC<|aD ?_)
 refine aF (ah1 2) fun r=>?_
 refine hw_rr ?_
 refine aQ rfl (.cons aU .nil) ?_
 exact ⟨by first | rfl | (simp [oneOf,fE,e1]),rfl⟩
end
section
open Go.Conc
def rowsGet (l:List Row) (key:Str):Int × Bool:=match fE l && kK l key,l[rowFind l key]? with | true,some x=>(x.num,true) | _,_=>(0,false)
def rD (l:List Row) (key:Str):List Row:=if kK l key then l.take (rowFind l key) ++ l.drop (rowFind l key + 1) else l
def zA (lo hi:Str) (x:Row):Bool:=!Op.bytesLess x.key lo && (Op.bytesLess x.key hi || decide (x.key = hi))
def mT (l:List Row) (lo hi:Str):List Row:=if fE l then l.filter (zA lo hi) else []
theorem kD {α:Type} {p:α → Bool} {l:List α} {k:Nat} {x:α} (hx:l[k]? = some x):(l.take (k + 1)).filter p = (l.take k).filter p ++ (if p x then [x] else []):=by
  obtain ⟨h1,rfl⟩:=List.getElem?_eq_some_iff.1 hx
  rw [List.take_succ_eq_append_getElem h1,List.filter_append]
  simp [List.filter_cons]
theorem uI {α:Type} (p:α → Bool) (l:List α) (k:Nat):((l.take k).filter p).length ≤ k:=Nat.le_trans (List.length_filter_le _ _) (by rw [List.length_take]; omega)
theorem dK {α β:Type} {f:β → α → β} {b:β} {l:List α} {k:Nat} {x:α} (hx:l[k]? = some x):(l.take (k + 1)).foldl f b = f ((l.take k).foldl f b) x:=by
  obtain ⟨h1,rfl⟩:=List.getElem?_eq_some_iff.1 hx
  rw [List.take_succ_eq_append_getElem h1,List.foldl_append]; rfl
theorem tM {l:List Row} {p:Option Row} (h:jF p l = true):∀ x ∈ l,gC x.num = true∧fD x.key = true:=by
  induction l generalizing p with
  | nil=>intro x hx; cases hx
  | cons a l ih =>
    simp only [jF,Bool.and_eq_true] at h
    intro x hx
    rcases List.mem_cons.1 hx with rfl | hx
    · exact ⟨h.1.1.2,h.1.1.1⟩
    · exact ih h.2 x hx
theorem wE {l:List Row} (h:fE l = true) {k:Nat} {x:Row} (hx:l[k]? = some x) : -999 ≤ x.num∧x.num ≤ 999:=by
  simp only [fE,Bool.and_eq_true] at h
  have:=(tM h.1 x (List.mem_of_getElem? hx)).1
  simpa [gC] using this
theorem pP {l:List Row} (h:fE l = true):l.length ≤ 10:=by
  simp only [fE,Bool.and_eq_true,decide_eq_true_eq] at h
  omega
def kR (l:List Row):Int:=if fE l then l.foldl (fun n x=>n + x.num) 0 else 0
set_option maxHeartbeats 1000000 in
theorem oA {w0:World} {h:Heap} {O:Nat → Prop} {l:List Row} {k0v:Value} (k0:Rs h O k0v l) (OB0:OB h O)  : HC (XM PP) w0 150 [k0v].toArray h (fun rv h'=>Le h h' ∧ Ow h' h.size rv l 111):=by
 obtain ⟨Ak0,nk0,ck0,rfl⟩:=k0.frm
 have le:=Le.refl h
 have OBe:=OB0
 refine aV 6 [(0,(.slice Ak0 nk0 ck0))] Tryz.func150 (fun r=>?_)
 refine hw_sr (aB aC<|aD ?_)
 refine hw_sr (bE (bA (l:=([]:List Row))) (fun v1 h1 q1=>?_))
 obtain ⟨lb1,ow1,sb1⟩:=q1
 have z1:=lb1.1
 obtain ⟨O1,hO1⟩:=mkO (fun x=>O x ∨ vblk v1 x)
 have o1:Ow _ _ _ _ _:=⟨ow1,OkL.nil⟩
 obtain ⟨A2,n2,c2,rfl⟩:=o1.frm
 refine aB y_move<|?_
 replace k0:=k0.ns lb1 hO1 (fun x hv=>(ow1.vb hv).1)
 refine bE (bW aP o1.1 k0.1 (by omega) (Nat.add_le_add o1.2.len k0.2.len)) (fun v3 h3 q3=>?_)
 have L1:=o1.2.len
 have L2:=k0.2.len
 obtain ⟨O3,hO3,z3,ow3⟩:=q3.ow (OkL.app o1.2 k0.2 (by first | omega | (simp only [List.length_append,List.length_take,List.length_drop,List.length_cons,List.length_nil,List.length_set]; omega) | (simp; omega))) O1
 replace le:=(le.t lb1).ap o1 q3 (by omega)
 have o1:=ow3
 obtain ⟨A4,n4,c4,rfl⟩:=o1.frm
 refine aB aC<|aD ?_
 refine aF (ah1 2) fun r=>?_
 refine hw_rr ?_
 refine aQ rfl (.cons aU .nil) ?_
 exact ⟨le,(o1.wk (by omega)).cast (by first | rfl | (simp_all [oneOf] <;> omega))⟩
set_option maxHeartbeats 1000000 in
theorem l1Put_c {w0:World} {h:Heap} {O:Nat → Prop} {l:List Row} {k0v:Value} {key:Str} {num:Int} (k0:Rs h O k0v l) (OB0:OB h O) (s0:SB key:=by first | assumption | omega | (simp; omega)) (hl:l.length ≤ 1000000:=by first | omega | (simp; omega)):HC (XM PP) w0 133 [k0v,vs key,vi num].toArray h (fun rv h'=>Le h h' ∧ Ow h' h.size rv (pR l key num) 111):=by
 obtain ⟨Ak0,nk0,ck0,rfl⟩:=k0.frm
 have le:=Le.refl h
 have OBe:=OB0
 have hf:=pS l key
 refine aV 38 [(0,(.slice Ak0 nk0 ck0)),(1,vs key),(2,vi num)] Tryz.func133 (fun r=>?_)
 refine hw_sr (aB aC<|aD ?_)
 refine hw_sr (aB y_move<|aB y_move<|dY aG (tW k0)<|aB y_move<|aB aL<|aB aL<|aB aC<|aB aC<|aD ?_)
 refine aF (ah5 0 1 2 7 8) fun r=>?_
 refine hw_sr (aB y_move<|bL aG (oA k0 OB0) (fun v1 h1 q1=>?_))
 obtain ⟨lc1,k1_1⟩:=q1
 have z1:=lc1.1
 have k1_1w:=k1_1
 obtain ⟨O1,hO1⟩:=mkO (fun x=>O x ∨ vblk v1 x)
 obtain ⟨A2,n2,c2,rfl⟩:=k1_1.frm
 refine aB aC<|aD ?_
 refine aI ?_
 refine hw_sr (aB y_move<|aD ?_)
 refine bF (fun g18=>?_) (fun g18=>?_)
 have hlt:=rC g18
 refine hw_sr (aB y_move<|aB y_move<|aB y_move<|?_)
 obtain ⟨x1,hx1⟩:∃ x,l[rowFind l key]? = some x:=⟨_,List.getElem?_eq_getElem (by omega)⟩
 have sx1:SB x1.key:=k1_1.2.at hx1
 refine aB (y_idxA k1_1.1.rd)<|aB y_fieldAddr<|bO (aBP aP k1_1.1 hx1 (⟨x1.key,num⟩:Row) 1 [vi num]) (fun v3 h3 q3=>?_)
 obtain ⟨rfl,q3⟩:=q3
 have z3:=q3.2.1.1
 replace le:=(le.t lc1).sl k1_1 q3 (by omega)
 have k1_1:Ow h3 _ (.slice A2 n2 c2) (l.set (rowFind l key) (⟨x1.key,num⟩:Row)) 111:=⟨q3.1,k1_1.2.set (by first | exact k1_1.2.at hx1 | (show SB _; first | assumption | omega | (simp; omega)))⟩
 have ls3:(l.set (rowFind l key) (⟨x1.key,num⟩:Row)).length = l.length:=by simp
 refine aD ?_
 refine aF (ah1 9) fun r=>?_
 refine hw_sr (aB y_move<|aB aC<|aD ?_)
 refine hw_rr ?_
 refine aQ rfl (.cons aU .nil) ?_
 exact ⟨le,(k1_1.wk (by omega)).cast (by first | rfl | (simp only [pR,if_pos g18]; have:=wG hx1; simp_all))⟩
 refine aM ?_
 refine aI ?_
 replace k0:=k0.ns lc1 hO1 (fun x hv=>(k1_1w.vb hv).1)
 have Rk0:=k0
 obtain ⟨S4,hS4⟩:=mkO (fun b=>h1.size ≤ b)
 have mR4:Mod S4 h1 h1:=Mod.refl _
 have hd4:∀ b,b < h1.size∧¬ O1 b → ¬ S4 b:=fun b hb hs=>(fun hs=>absurd hb.1 (Nat.not_lt.2 hs)) ((hS4 b).1 hs)
 refine bH 14 S4 bC (ha2_p 0 rfl (fun _=>y_move)<|ha2_p 1 rfl (fun _=>y_move)<|ha2_y 2 rfl (fun _ _=>(iG k0.1))<|ha2_p 4 rfl (fun _=>y_move)<|ha2_p 5 rfl (fun _=>y_move)<|ha2_p 6 rfl (fun _=>(y_build rfl rfl))<|ha2_p 9 rfl (fun _=>y_move)<|ha2_p 10 rfl (fun _=>y_move)<|ha2_y 11 rfl (fun _ _=>(mP k0.1))<|?_)
 refine dU 3 7 ?_ ?_
 replace OB0:=OB0.newS lc1.1 hO1 (fun x hv=>(k1_1w.vb hv).2)
 refine cC rfl aG (oA (Rs.cutHi k0 (n:=rowFind l key) (by first | omega | (simp; omega))) OB0) (fun v5 h5 q5=>?_)
 obtain ⟨lc5,k5_1⟩:=q5
 have z5:=lc5.1
 have k5_1w:=k5_1
 obtain ⟨O5,hO5⟩:=mkO (fun x=>O1 x ∨ vblk v5 x)
 refine ⟨Le.mod lc5,?_⟩
 obtain ⟨A6,n6,c6,rfl⟩:=k5_1.frm
 refine aW 7 (?_)
 refine cB rfl (bA (l:=([(⟨key,num⟩:Row)]:List Row))) (fun v7 h7 q7=>?_)
 obtain ⟨lb7,ow7,sb7⟩:=q7
 have z7:=lb7.1
 refine ⟨Le.mod lb7,?_⟩
 replace OB0:=OB0.newS lc5.1 hO5 (fun x hv=>(k5_1w.vb hv).2)
 have k7:Rs _ O5 _ _:=Ow.end ⟨ow7,(OkL.one (by first | trivial | assumption | exact ⟨by assumption,by assumption⟩ | simp_all [Ok.ok] | (show SB _; first | assumption | omega | (simp; omega))))⟩ OB0
 obtain ⟨A8,n8,c8,rfl⟩:=k7.frm
 replace k5_1:=k5_1.le lb7
 refine aW 8 (cB rfl (bW aP k5_1.1 k7.1 (by omega) (Nat.add_le_add k5_1.2.len k7.2.len)) (fun v9 h9 q9=>?_))
 have L1:=k5_1.2.len
 have L2:=k7.2.len
 obtain ⟨O9,hO9,z9,ow9⟩:=q9.ow (OkL.app k5_1.2 k7.2 (by first | omega | (simp only [List.length_append,List.length_take,List.length_drop,List.length_cons,List.length_nil,List.length_set]; omega) | (simp; omega))) O5
 have ms:=Mod.mono (S':=S4) q9.2.1 (fun x _ e=>(hS4 x).2 (by have:=k5_1.vb e; first | omega | exact .inl (by omega) | simp [e] | simp [dC e]))
 refine ⟨ms,?_⟩
 replace le:=(((le.t lc1).t lc5).t lb7).ap k5_1 q9 (by omega)
 have k5_1:=ow9
 obtain ⟨A10,n10,c10,rfl⟩:=k5_1.frm
 refine aW 12 (?_)
 replace k0:=((k0.ns lc5 hO5 (fun x hv=>(k5_1w.vb hv).1)).le lb7).ap q9 (fun x hv=>(hO5 x).2 (.inr hv)) hO9
 refine cB rfl (bW aP k5_1.1 (Rs.cutLo k0 (n:=rowFind l key) (by first | omega | (simp; omega))).1 (by omega) (Nat.add_le_add k5_1.2.len (Rs.cutLo k0 (n:=rowFind l key) (by first | omega | (simp; omega))).2.len)) (fun v11 h11 q11=>?_)
 have L1:=k5_1.2.len
 have L2:=(Rs.cutLo k0 (n:=rowFind l key) (by first | omega | (simp; omega))).2.len
 obtain ⟨O11,hO11,z11,ow11⟩:=q11.ow (OkL.app k5_1.2 (Rs.cutLo k0 (n:=rowFind l key) (by first | omega | (simp; omega))).2 (by first | omega | (simp only [List.length_append,List.length_take,List.length_drop,List.length_cons,List.length_nil,List.length_set]; omega) | (simp; omega))) O9
 replace mR4:=((mR4.tl lc5).tl lb7).t ms
 have ms:=Mod.mono (S':=S4) q11.2.1 (fun x _ e=>(hS4 x).2 (by have:=k5_1.vb e; first | omega | exact .inl (by omega) | simp [e] | simp [dC e]))
 refine ⟨ms,?_⟩
 replace le:=le.ap k5_1 q11 (by omega)
 have k5_1:=ow11
 obtain ⟨A12,n12,c12,rfl⟩:=k5_1.frm
 refine ha2_p 13 rfl (fun _=>aC)<|cN ?_
 refine aF (ah1 6) fun r=>?_
 refine hw_rr ?_
 refine aQ rfl (.cons aU .nil) ?_
 exact ⟨le,(k5_1.wk (by omega)).cast (by first | rfl | (simp only [pR]; rw [if_neg (neF g18)]; simp))⟩
 refine cB rfl (bA (l:=([(⟨key,num⟩:Row)]:List Row))) (fun v13 h13 q13=>?_)
 obtain ⟨lb13,ow13,sb13⟩:=q13
 have z13:=lb13.1
 refine ⟨Le.mod lb13,?_⟩
 replace OB0:=OB0.newS lc1.1 hO1 (fun x hv=>(k1_1w.vb hv).2)
 have k13:Rs _ O1 _ _:=Ow.end ⟨ow13,(OkL.one (by first | trivial | assumption | exact ⟨by assumption,by assumption⟩ | simp_all [Ok.ok] | (show SB _; first | assumption | omega | (simp; omega))))⟩ OB0
 obtain ⟨A14,n14,c14,rfl⟩:=k13.frm
 refine aW 3 (?_)
 replace k0:=k0.le lb13
 replace OB0:=OB0.leO lb13.1
 refine cC rfl aG (oA (Rs.cutHi k0 (n:=rowFind l key) (by first | omega | (simp; omega))) OB0) (fun v15 h15 q15=>?_)
 obtain ⟨lc15,k15_1⟩:=q15
 have z15:=lc15.1
 have k15_1w:=k15_1
 obtain ⟨O15,hO15⟩:=mkO (fun x=>O1 x ∨ vblk v15 x)
 refine ⟨Le.mod lc15,?_⟩
 obtain ⟨A16,n16,c16,rfl⟩:=k15_1.frm
 refine aW 8 (?_)
 replace k13:=k13.ns lc15 hO15 (fun x hv=>(k15_1w.vb hv).1)
 refine cB rfl (bW aP k15_1.1 k13.1 (by omega) (Nat.add_le_add k15_1.2.len k13.2.len)) (fun v17 h17 q17=>?_)
 have L1:=k15_1.2.len
 have L2:=k13.2.len
 obtain ⟨O17,hO17,z17,ow17⟩:=q17.ow (OkL.app k15_1.2 k13.2 (by first | omega | (simp only [List.length_append,List.length_take,List.length_drop,List.length_cons,List.length_nil,List.length_set]; omega) | (simp; omega))) O15
 have ms:=Mod.mono (S':=S4) q17.2.1 (fun x _ e=>(hS4 x).2 (by have:=k15_1.vb e; first | omega | exact .inl (by omega) | simp [e] | simp [dC e]))
 refine ⟨ms,?_⟩
 replace le:=(((le.t lc1).t lb13).t lc15).ap k15_1 q17 (by omega)
 have k15_1:=ow17
 obtain ⟨A18,n18,c18,rfl⟩:=k15_1.frm
 refine aW 12 (?_)
 replace k0:=(k0.ns lc15 hO15 (fun x hv=>(k15_1w.vb hv).1)).ap q17 (fun x hv=>(hO15 x).2 (.inr hv)) hO17
 refine cB rfl (bW aP k15_1.1 (Rs.cutLo k0 (n:=rowFind l key) (by first | omega | (simp; omega))).1 (by omega) (Nat.add_le_add k15_1.2.len (Rs.cutLo k0 (n:=rowFind l key) (by first | omega | (simp; omega))).2.len)) (fun v19 h19 q19=>?_)
 have L1:=k15_1.2.len
 have L2:=(Rs.cutLo k0 (n:=rowFind l key) (by first | omega | (simp; omega))).2.len
 obtain ⟨O19,hO19,z19,ow19⟩:=q19.ow (OkL.app k15_1.2 (Rs.cutLo k0 (n:=rowFind l key) (by first | omega | (simp; omega))).2 (by first | omega | (simp only [List.length_append,List.length_take,List.length_drop,List.length_cons,List.length_nil,List.length_set]; omega) | (simp; omega))) O17
 replace mR4:=((mR4.tl lb13).tl lc15).t ms
 have ms:=Mod.mono (S':=S4) q19.2.1 (fun x _ e=>(hS4 x).2 (by have:=k15_1.vb e; first | omega | exact .inl (by omega) | simp [e] | simp [dC e]))
 refine ⟨ms,?_⟩
 replace le:=le.ap k15_1 q19 (by omega)
 have k15_1:=ow19
 obtain ⟨A20,n20,c20,rfl⟩:=k15_1.frm
 refine ha2_p 13 rfl (fun _=>aC)<|cN ?_
 refine aF (ah1 6) fun r=>?_
 refine hw_rr ?_
 refine aQ rfl (.cons aU .nil) ?_
 exact ⟨le,(k15_1.wk (by omega)).cast (by first | rfl | (simp only [pR]; rw [if_neg (neF g18)]; simp))⟩
set_option maxHeartbeats 1000000 in
theorem xD {w0:World} {h:Heap} {O:Nat → Prop} {l:List Row} {k0v:Value} {key:Str} (k0:Rs h O k0v l) (s0:SB key:=by first | assumption | omega | (simp; omega)):HC (XM PP) w0 123 [k0v,vs key].toArray h (fun rv h'=>rv = .tuple #[vi ((rowsGet l key).1),vb ((rowsGet l key).2)]∧h' = h):=by
 obtain ⟨Ak0,nk0,ck0,rfl⟩:=k0.frm
 refine aV 26 [(0,(.slice Ak0 nk0 ck0)),(1,vs key)] Tryz.func123 (fun r=>?_)
 refine hw_sr (aB aC<|aB aC<|aD ?_)
 refine hw_sr (aB y_move<|aB y_move<|dY aG (tW k0)<|aB y_move<|aB aL<|aB aL<|aB aC<|aB aC<|aD ?_)
 refine aF (ah3 0 6 7) fun r=>?_
 refine aI ?_
 refine hw_sr (aB y_move<|dY aG (qX k0)<|aB dG<|aB y_move<|?_)
 refine bB 3 [(0,(.slice Ak0 nk0 ck0)),(6,vi (rowFind l key:Int)),(20,vb ((!fE l) || (!kK l key)))] (fun r=>?_) (fun jn=>?_)
 refine aD ?_
 refine bF (fun g20=>?_) (fun g20=>?_)
 have g20':=g20
 simp at g20'
 refine hw_sr (aB aC<|aB aC<|aD ?_)
 refine hw_rr ?_
 refine aQ rfl (.cons aU (.cons aU .nil)) ?_
 exact ⟨by first | rfl | (rcases g20' with h | h <;> simp_all [oneOf,rowsGet]),rfl⟩
 have g20':=g20
 simp at g20'
 have hlt:=rC (l:=l) (key:=key) (by simp_all)
 refine aM ?_
 refine hw_sr (aB y_move<|aB y_move<|?_)
 obtain ⟨x1,hx1⟩:∃ x,l[rowFind l key]? = some x:=⟨_,List.getElem?_eq_getElem (by omega)⟩
 have sx1:SB x1.key:=k0.2.at hx1
 refine aB (y_idxA k0.1)<|aB y_fieldAddr<|aB (y_load (RdF.cell k0.1 hx1 rfl))<|aB aC<|aB aC<|aD ?_
 refine aF (ah2 4 5) fun r=>?_
 refine hw_rr ?_
 refine aQ rfl (.cons aU (.cons aU .nil)) ?_
 exact ⟨by first | rfl | (simp_all [oneOf,rowsGet]),rfl⟩
 refine eT (b:=fE l) (fun g17=>?_) (fun g17=>?_)
 refine aO (nT g17) y_move<|aO (nT g17) dG<|aB (aR (nT g17))<|?_
 exact jn _ (aA (aA (aA aJ (by simp [aH,g17]))))
 refine aN (neT (nF g17))<|aN (neT (nF g17))<|aB (y_pickT (nF g17))<|?_
 exact jn _ (aA (aA (aA aJ (by simp [aH,g17]))))
set_option maxHeartbeats 1000000 in
theorem l1Cut_c {w0:World} {h:Heap} {O:Nat → Prop} {l:List Row} {k0v:Value} {key:Str} (k0:Rs h O k0v l) (OB0:OB h O) (s0:SB key:=by first | assumption | omega | (simp; omega)):HC (XM PP) w0 132 [k0v,vs key].toArray h (fun rv h'=>Le h h' ∧ Ow h' h.size rv (rD l key) 111):=by
 obtain ⟨Ak0,nk0,ck0,rfl⟩:=k0.frm
 have le:=Le.refl h
 have OBe:=OB0
 have hf:=pS l key
 have hl:=k0.len
 refine aV 26 [(0,(.slice Ak0 nk0 ck0)),(1,vs key)] Tryz.func132 (fun r=>?_)
 refine hw_sr (aB aC<|aD ?_)
 refine hw_sr (aB y_move<|aB y_move<|dY aG (tW k0)<|aB y_move<|aB aL<|aB aL<|aB aC<|aB aC<|aD ?_)
 refine aF (ah3 0 5 6) fun r=>?_
 refine aI ?_
 refine hw_sr (aB y_move<|aB dG<|aD ?_)
 refine dS (fun g14=>?_) (fun g14=>?_)
 refine hw_sr (aB y_move<|bL aG (oA k0 OB0) (fun v1 h1 q1=>?_))
 obtain ⟨lc1,k1_1⟩:=q1
 have z1:=lc1.1
 have k1_1w:=k1_1
 obtain ⟨O1,hO1⟩:=mkO (fun x=>O x ∨ vblk v1 x)
 obtain ⟨A2,n2,c2,rfl⟩:=k1_1.frm
 refine aB aC<|aD ?_
 refine aF (ah1 4) fun r=>?_
 refine hw_rr ?_
 refine aQ rfl (.cons aU .nil) ?_
 replace le:=le.t lc1
 exact ⟨le,(k1_1.wk (by omega)).cast (by first | rfl | (simp_all [rD]))⟩
 have hlt:=rC g14
 refine aM ?_
 refine aI ?_
 have Rk0:=k0
 obtain ⟨S3,hS3⟩:=mkO (fun b=>h.size ≤ b)
 have mR3:Mod S3 h h:=Mod.refl _
 have hd3:∀ b,b < h.size∧¬ O b → ¬ S3 b:=fun b hb hs=>(fun hs=>absurd hb.1 (Nat.not_lt.2 hs)) ((hS3 b).1 hs)
 refine bH 10 S3 bC (ha2_p 0 rfl (fun _=>y_move)<|ha2_p 1 rfl (fun _=>y_move)<|ha2_y 2 rfl (fun _ _=>(iG k0.1))<|ha2_p 4 rfl (fun _=>y_move)<|ha2_p 5 rfl (fun _=>y_move)<|ha2_p 6 rfl (fun _=>bI)<|ha2_y 7 rfl (fun _ _=>(mP k0.1))<|?_)
 refine aW 3 (cC rfl aG (oA (Rs.cutHi k0 (n:=rowFind l key) (by first | omega | (simp; omega))) OB0) (fun v4 h4 q4=>?_))
 obtain ⟨lc4,k4_1⟩:=q4
 have z4:=lc4.1
 have k4_1w:=k4_1
 obtain ⟨O4,hO4⟩:=mkO (fun x=>O x ∨ vblk v4 x)
 refine ⟨Le.mod lc4,?_⟩
 obtain ⟨A5,n5,c5,rfl⟩:=k4_1.frm
 refine aW 8 (?_)
 replace k0:=k0.ns lc4 hO4 (fun x hv=>(k4_1w.vb hv).1)
 refine cB rfl (bW aP k4_1.1 (Rs.cutLo k0 (n:=rowFind l key + 1) (by first | omega | (simp; omega))).1 (by omega) (Nat.add_le_add k4_1.2.len (Rs.cutLo k0 (n:=rowFind l key + 1) (by first | omega | (simp; omega))).2.len)) (fun v6 h6 q6=>?_)
 have L1:=k4_1.2.len
 have L2:=(Rs.cutLo k0 (n:=rowFind l key + 1) (by first | omega | (simp; omega))).2.len
 obtain ⟨O6,hO6,z6,ow6⟩:=q6.ow (OkL.app k4_1.2 (Rs.cutLo k0 (n:=rowFind l key + 1) (by first | omega | (simp; omega))).2 (by first | omega | (simp only [List.length_append,List.length_take,List.length_drop,List.length_cons,List.length_nil,List.length_set]; omega) | (simp; omega))) O4
 have ms:=Mod.mono (S':=S3) q6.2.1 (fun x _ e=>(hS3 x).2 (by have:=k4_1.vb e; first | omega | exact .inl (by omega) | simp [e] | simp [dC e]))
 refine ⟨ms,?_⟩
 replace le:=(le.t lc4).ap k4_1 q6 (by omega)
 have k4_1:=ow6
 obtain ⟨A7,n7,c7,rfl⟩:=k4_1.frm
 refine ha2_p 9 rfl (fun _=>aC)<|cN ?_
 refine aF (ah1 4) fun r=>?_
 refine hw_rr ?_
 refine aQ rfl (.cons aU .nil) ?_
 exact ⟨le,(k4_1.wk (by omega)).cast (by first | rfl | (simp_all [rD]))⟩
set_option maxHeartbeats 1000000 in
theorem aAB {w0:World} {h:Heap} {O:Nat → Prop} {l:List Row} {k0v:Value} {lo:Str} {hi:Str} (k0:Rs h O k0v l) (OB0:OB h O) (s0:SB lo:=by first | assumption | omega | (simp; omega)) (s1:SB hi:=by first | assumption | omega | (simp; omega)):HC (XM PP) w0 121 [k0v,vs lo,vs hi].toArray h (fun rv h'=>Le h h' ∧ Ow h' h.size rv (mT l lo hi) 111):=by
 obtain ⟨Ak0,nk0,ck0,rfl⟩:=k0.frm
 have le:=Le.refl h
 have OBe:=OB0
 have hl:=k0.len
 refine aV 44 [(0,(.slice Ak0 nk0 ck0)),(1,vs lo),(2,vs hi)] Tryz.func121 (fun r=>?_)
 refine hw_sr (aB aC<|aD ?_)
 refine hw_sr (bE (bA (l:=([]:List Row))) (fun v1 h1 q1=>?_))
 obtain ⟨lb1,ow1,sb1⟩:=q1
 have z1:=lb1.1
 obtain ⟨O1,hO1⟩:=mkO (fun x=>O x ∨ vblk v1 x)
 have o1:Ow _ _ _ _ _:=⟨ow1,OkL.nil⟩
 obtain ⟨A2,n2,c2,rfl⟩:=o1.frm
 refine aB aC<|aD ?_
 refine aI ?_
 refine hw_sr (aB aC<|aD ?_)
 replace le:=le.t lb1
 replace OB0:=OB0.newS lb1.1 hO1 (fun x hv=>(ow1.vb hv).2)
 refine cT (fun (gx:Nat × (List Row) × (Nat → Prop) × Value)=>match gx with | (k,m,OL3,ov)=>[(0,(.slice Ak0 nk0 ck0)),(1,vs lo),(2,vs hi),(7,ov),(8,vi (k:Int))]) (fun (gx:Nat × (List Row) × (Nat → Prop) × Value) (h' : Heap)=>match gx with | (k,m,OL3,ov)=>Le h h' ∧ Mod O1 h1 h' ∧ (∀ x,OL3 x → O1 x ∨ h1.size ≤ x)∧(∀ x,O1 x → OL3 x)∧OB h' OL3∧Ow h' h.size ov m 111∧(∀ x,vblk ov x → OL3 x)∧m = mT l lo hi) (aX (cK (fun (gx:Nat × (List Row) × (Nat → Prop) × Value)=>match gx with | (k,m,OL3,ov)=>[(0,(.slice Ak0 nk0 ck0)),(1,vs lo),(2,vs hi),(7,ov),(8,vi (k:Int))]) (fun (gx:Nat × (List Row) × (Nat → Prop) × Value) (h' : Heap)=>match gx with | (k,m,OL3,ov)=>Le h h' ∧ Mod O1 h1 h' ∧ (∀ x,OL3 x → O1 x ∨ h1.size ≤ x)∧(∀ x,O1 x → OL3 x)∧OB h' OL3∧Ow h' h.size ov m 111∧(∀ x,vblk ov x → OL3 x)∧m = (if fE l then (l.take k).filter (zA lo hi) else [])∧k ≤ l.length∧(fE l = false → k = 0)) (fun (gx:Nat × (List Row) × (Nat → Prop) × Value)=>match gx with | (k,m,OL3,ov)=>l.length - k) (0,[],O1,(.slice A2 n2 c2)) ag5 ⟨le,Mod.refl _,fun x hx=>.inl hx,fun x hx=>hx,OB0,o1.wk (by omega),(fun x hv=>(hO1 x).2 (.inr hv)),by simp⟩ ?_)) ?_
 rintro ⟨k,m,OL3,ov⟩ r hl3 ⟨le,lp3,la3,lb3,lo3,o1,mo1,e1,e2,e3⟩
 obtain ⟨A4,n4,c4,rfl⟩:=o1.frm
 have zl3:=lp3.1
 have lr3:=lp3
 have lx3:=la3
 refine aI ?_
 refine hw_sr (aB y_move<|aB y_move<|aB (y_lenA k0.1)<|aB dB<|aB y_move<|?_)
 refine bB 3 [(0,(.slice Ak0 nk0 ck0)),(1,vs lo),(2,vs hi),(7,(.slice A4 n4 c4)),(8,vi (k:Int)),(17,vb ((decide ((k:Int) < (l.length:Int))) && fE l))] (fun r=>?_) (fun jn=>?_)
 refine aD ?_
 refine bF (fun g17=>?_) (fun g17=>?_)
 have g17':=g17
 simp at g17'
 refine aM ?_
 refine aI ?_
 refine aX ?_
 refine hw_sr (aB y_move<|aB y_move<|?_)
 replace k0:=(k0.ns lb1 hO1 (fun x hv=>(ow1.vb hv).1)).lp lp3 la3
 obtain ⟨x1,hx1⟩:∃ x,l[k]? = some x:=⟨_,List.getElem?_eq_getElem (by omega)⟩
 have sx1:SB x1.key:=k0.2.at hx1
 refine aB (y_idxA k0.1)<|aB y_fieldAddr<|aB (y_load (RdF.cell k0.1 hx1 rfl))<|aB y_move<|aB rA<|aB y_move<|?_
 refine bB 8 [(0,(.slice Ak0 nk0 ck0)),(1,vs lo),(2,vs hi),(7,(.slice A4 n4 c4)),(8,vi (k:Int)),(35,vb ((!(Op.bytesLess x1.key lo)) && (Op.bytesLess x1.key hi || decide (x1.key = hi))))] (fun r=>?_) (fun jn=>?_)
 refine aD ?_
 refine bF (fun g35=>?_) (fun g35=>?_)
 have g35':=g35
 simp at g35'
 refine aE (aB y_move<|aB y_move<|aB y_move<|aB (y_idxA k0.1)<|aB (y_loadEl k0.1 hx1)<|?_)
 have OB0:=lo3
 refine bE (bA (l:=([x1]:List Row))) (fun v5 h5 q5=>?_)
 obtain ⟨lb5,ow5,sb5⟩:=q5
 have z5:=lb5.1
 have k5:Rs _ OL3 _ _:=Ow.end ⟨ow5,(OkL.one (by first | trivial | assumption | exact ⟨by assumption,by assumption⟩ | simp_all [Ok.ok] | (show SB _; first | assumption | omega | (simp; omega))))⟩ OB0
 obtain ⟨A6,n6,c6,rfl⟩:=k5.frm
 replace o1:=o1.le lb5
 refine bE (bW aP o1.1 k5.1 (by omega) (Nat.add_le_add o1.2.len k5.2.len)) (fun v7 h7 q7=>?_)
 have L1:=o1.2.len
 have L2:=k5.2.len
 obtain ⟨O7,hO7,z7,ow7⟩:=q7.ow (OkL.app o1.2 k5.2 (by have:=uI (zA lo hi) l k; rw [e1]; split <;> simp <;> omega)) OL3
 replace lr3:=(lr3.tl lb5).apO q7 (fun x hv=>lx3 x (mo1 x hv))
 have lx3:=laA lx3 hO7 q7 mo1 (by omega)
 replace le:=(le.t lb5).ap o1 q7 (by omega)
 have o1:=ow7
 obtain ⟨A8,n8,c8,rfl⟩:=o1.frm
 refine aB aC<|aD ?_
 refine aF (ah5 0 1 2 7 8) fun r=>?_
 refine aE (aB y_move<|aB bI<|aB aC<|aD ?_)
 replace OB0:=(OB0.leO lb5.1).app q7 hO7
 exact ⟨(k + 1,(m ++ ([x1]:List Row)),O7,(.slice A8 n8 c8)),ag5,⟨le,lr3,lx3,fun x hx=>(il hO7 (lb3 _ hx)),OB0,o1,(fun x hv=>(hO7 x).2 (.inr hv)),by have hr:fE l = true:=g17'.2; rw [if_pos hr] at e1 ⊢; exact ⟨by subst e1; simp_all [kD hx1,zA],by omega,fun h=>by simp_all⟩⟩,by first | omega | (dsimp only; omega)⟩
 have g35':=g35
 simp at g35'
 refine aM ?_
 refine aE (aB y_move<|aB bI<|aB aC<|aD ?_)
 have OB0:=lo3
 exact ⟨(k + 1,m,OL3,(.slice A4 n4 c4)),ag5,⟨le,lr3,lx3,fun x hx=>(lb3 _ hx),OB0,o1,mo1,by have hr:fE l = true:=g17'.2; rw [if_pos hr] at e1 ⊢; exact ⟨by subst e1; simp_all [kD hx1,zA],by omega,fun h=>by simp_all⟩⟩,by first | omega | (dsimp only; omega)⟩
 refine eT (b:=(Op.bytesLess x1.key lo)) (fun g27=>?_) (fun g27=>?_)
 refine aN (neF (nT g27))<|aN (neF (nT g27))<|aN (neF (nT g27))<|aN (neF (nT g27))<|aN (neF (nT g27))<|aN (neF (nT g27))<|aN (neF (nT g27))<|aB (aR (nT g27))<|?_
 exact jn _ (aA (aA (aA (aA (aA (aA aJ (by simp [aH,g27])))))))
 refine aO (nF g27) y_move<|aO (nF g27) y_move<|aO (nF g27) (y_idxA k0.1)<|aO (nF g27) y_fieldAddr<|aO (nF g27) (y_load (RdF.cell k0.1 hx1 rfl))<|aO (nF g27) y_move<|aO (nF g27) aAG<|aB (y_pickT (nF g27))<|?_
 exact jn _ (aA (aA (aA (aA (aA (aA aJ (by simp [aH,g27])))))))
 have g17':=g17
 simp at g17'
 refine cI ?_
 have OB0:=lo3
 replace k0:=(k0.ns lb1 hO1 (fun x hv=>(ow1.vb hv).1)).lp lp3 la3
 exact ⟨(k,m,OL3,(.slice A4 n4 c4)),ag5,⟨le,lr3,lx3,fun x hx=>(lb3 _ hx),OB0,o1,mo1,by rcases Nat.lt_or_ge k l.length with hk | hk; (have hr:=g17' hk; simp_all [mT]); (rw [List.take_of_length_le (by omega)] at e1; exact e1)⟩⟩
 refine dA ((k:Int) < (l.length:Int)) (fun g14=>?_) (fun g14=>?_)
 replace k0:=(k0.ns lb1 hO1 (fun x hv=>(ow1.vb hv).1)).lp lp3 la3
 refine aO (dT g14) y_move<|gH (dT g14) aG (qX k0)<|aB (y_pickT (dT g14))<|?_
 exact jn _ (aA (aA (aA (aA (aA (aA aJ (by simp [aH,g14])))))))
 refine aN (neF (dF g14))<|aN (neF (dF g14))<|aB (aR (dF g14))<|?_
 exact jn _ (aA (aA (aA (aA (aA (aA aJ (by simp [aH,g14])))))))
 rintro ⟨k,m,OL3,ov⟩ r hl3 ⟨le,lp3,la3,lb3,lo3,o1,mo1,e1⟩
 obtain ⟨A9,n9,c9,rfl⟩:=o1.frm
 have zl3:=lp3.1
 refine hw_sr (aB y_move<|aB aC<|aD ?_)
 refine hw_rr ?_
 refine aQ rfl (.cons aU .nil) ?_
 exact ⟨le,(o1.wk (by omega)).cast (by first | rfl | (simp_all [oneOf] <;> omega))⟩
set_option maxHeartbeats 1000000 in
theorem aCv {w0:World} {h:Heap} {O:Nat → Prop} {l:List Row} {k0v:Value} (k0:Rs h O k0v l)  : HC (XM PP) w0 122 [k0v].toArray h (fun rv h'=>rv = vi (kR l)∧h' = h):=by
 obtain ⟨Ak0,nk0,ck0,rfl⟩:=k0.frm
 have hl:=k0.len
 refine aV 23 [(0,(.slice Ak0 nk0 ck0))] Tryz.func122 (fun r=>?_)
 refine hw_sr (aB aC<|aD ?_)
 refine hw_sr (aB aC<|aD ?_)
 refine aI ?_
 refine hw_sr (aB aC<|aD ?_)
 refine cT (fun (gx:Nat × Int)=>match gx with | (k,n)=>[(0,(.slice Ak0 nk0 ck0)),(3,vi n),(4,vi (k:Int))]) (fun (gx:Nat × Int) (h' : Heap)=>match gx with | (k,n)=>h = h' ∧ n = kR l) (aX (cK (fun (gx:Nat × Int)=>match gx with | (k,n)=>[(0,(.slice Ak0 nk0 ck0)),(3,vi n),(4,vi (k:Int))]) (fun (gx:Nat × Int) (h' : Heap)=>match gx with | (k,n)=>h = h' ∧ k ≤ l.length∧(fE l = false → k = 0)∧n = (l.take k).foldl (fun n x=>n + x.num) 0∧-999 * k ≤ n∧n ≤ 999 * k) (fun (gx:Nat × Int)=>match gx with | (k,n)=>l.length - k) (0,0) ag3 ⟨rfl,by simp⟩ ?_)) ?_
 rintro ⟨k,n⟩ r _ ⟨rfl,e1,e2,e3,e4,e5⟩
 refine aI ?_
 refine hw_sr (aB y_move<|aB y_move<|aB (y_lenA k0.1)<|aB dB<|aB y_move<|?_)
 refine bB 3 [(0,(.slice Ak0 nk0 ck0)),(3,vi n),(4,vi (k:Int)),(12,vb ((decide ((k:Int) < (l.length:Int))) && fE l))] (fun r=>?_) (fun jn=>?_)
 refine aD ?_
 refine bF (fun g12=>?_) (fun g12=>?_)
 have g12':=g12
 simp at g12'
 refine aM ?_
 refine aI ?_
 refine aX ?_
 refine aE (aB y_move<|aB y_move<|aB y_move<|?_)
 obtain ⟨x1,hx1⟩:∃ x,l[k]? = some x:=⟨_,List.getElem?_eq_getElem (by omega)⟩
 have sx1:SB x1.key:=k0.2.at hx1
 have hb:=wE g12'.2 hx1
 have hc:=pP g12'.2
 refine aB (y_idxA k0.1)<|aB y_fieldAddr<|aB (y_load (RdF.cell k0.1 hx1 rfl))<|?_
 refine aB bI<|aB aC<|aD ?_
 refine aF (ah3 0 3 4) fun r=>?_
 refine aE (aB y_move<|aB bI<|aB aC<|aD ?_)
 exact ⟨(k + 1,(n + x1.num)),ag3,⟨rfl,by exact ⟨by omega,fun h=>by simp_all,by rw [dK hx1,e3],by omega,by omega⟩⟩,by first | omega | (dsimp only; omega)⟩
 have g12':=g12
 simp at g12'
 refine cI ?_
 exact ⟨(k,n),ag3,⟨rfl,by rcases Nat.lt_or_ge k l.length with hk | hk; (have hr:=g12' hk; simp_all [kR]); (rw [List.take_of_length_le (by omega)] at e3; rw [e3,kR]; split; rfl; simp_all)⟩⟩
 refine dA ((k:Int) < (l.length:Int)) (fun g9=>?_) (fun g9=>?_)
 refine aO (dT g9) y_move<|gH (dT g9) aG (qX k0)<|aB (y_pickT (dT g9))<|?_
 exact jn _ (aA (aA (aA (aA aJ (by simp [aH,g9])))))
 refine aN (neF (dF g9))<|aN (neF (dF g9))<|aB (aR (dF g9))<|?_
 exact jn _ (aA (aA (aA (aA aJ (by simp [aH,g9])))))
 rintro ⟨k,n⟩ r _ ⟨rfl,e1⟩
 refine hw_sr (aB y_move<|aB aC<|aD ?_)
 refine hw_rr ?_
 refine aQ rfl (.cons aU .nil) ?_
 exact ⟨by first | rfl | (simp_all [oneOf] <;> omega),rfl⟩
end
end Go.Proofs.YtlpdccnjhpclbaaGreatDoor
