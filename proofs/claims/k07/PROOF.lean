import PyProof.Rows.All
import Wide.All
import OpenK.AllK
import Wide.FinOn
import KE.KStateDown
import Lean
import HandS.ForMost
import HandS.More
import HandS.Conv
import HandS.Codes
import HandS.IsInst
import HandS.FStr
import HandS.Style
import HandS.TupAny
import HandS.Wide
import HandS.Flow
import HandS.Defaults
import HandS.WordsExc
import HandS.Head0
import HandS.Head1
import HandS.Head2
import HandS.HeadEnd
import HandS.HeadHook1
import HandS.HeadHook2
import HandS.HeadHook3
import PyProof.Rows.MatchSeqLen
import KE.KExcSuper
import HandS.ExcInit
import HandS.ExcSuper
import HandS.ExcField
import HandS.MakeKwOnly
import HandS.ExcCtx
import HandS.SuiteRaise
import HandS.DictComp
import HandS.DictTup
import HandS.Small
import HandS.Slots
import HandS.SlotsOwn
import KE.KSortTupAny
import KE.KDictSum
import PyProof.DictMoreH
import HandS.HeadHook4
import HandS.DeepEq
import PySem.Challenge.RW_modlink_k07_whole_events
set_option Elab.async false
set_option linter.all false
set_option maxRecDepth 100000
set_option maxHeartbeats 0
namespace M
open PySem PySem.Spec PyProof.Rows L2

/-! ### heaps that grow -/
structure Keep (S : List Addr) (H H' : Hp) : Prop where
  obj : ∀ b u, b ∉ S → H b = some u → H' b = some u
  tup : ∀ b xs, H b = some (.tup xs) → H' b = some (.tup xs)
  frz : ∀ b o u, H b = some (.frz o u) → H' b = some (.frz o u)
  dom : ∀ b u, H b = some u → ∃ u', H' b = some u'
theorem Keep.refl (S : List Addr) (H : Hp) : Keep S H H := ⟨fun _ _ _ e => e, fun _ _ e => e, fun _ _ _ e => e, fun _ u e => ⟨u, e⟩⟩
theorem Keep.trans {S : List Addr} {H H1 H2 : Hp} (a : Keep S H H1) (b : Keep S H1 H2) : Keep S H H2 :=
  ⟨fun c u n e => b.obj c u n (a.obj c u n e), fun c xs e => b.tup c xs (a.tup c xs e), fun c o u e => b.frz c o u (a.frz c o u e), fun c u e => let ⟨_, e1⟩ := a.dom c u e; b.dom c _ e1⟩
theorem Keep.mono {S T : List Addr} {H H1 : Hp} (a : Keep S H H1) (h : ∀ b ∈ S, b ∈ T) : Keep T H H1 :=
  ⟨fun c u n e => a.obj c u (fun z => n (h c z)) e, a.tup, a.frz, a.dom⟩
theorem Keep.nil {T : List Addr} {H H1 : Hp} (a : Keep [] H H1) : Keep T H H1 := a.mono (fun _ h => nomatch h)
theorem Keep.step {S T : List Addr} {H H1 H2 : Hp} (a : Keep S H H1) (b : Keep T H1 H2) (h : ∀ x ∈ T, x ∈ S ∨ H x = none) : Keep S H H2 := by
  refine ⟨fun c u n e => b.obj c u (fun z => ?_) (a.obj c u n e), fun c xs e => b.tup c xs (a.tup c xs e), fun c o u e => b.frz c o u (a.frz c o u e), fun c u e => let ⟨_, e1⟩ := a.dom c u e; b.dom c _ e1⟩
  rcases h c z with q | q
  · exact n q
  · rw [q] at e; cases e
theorem Keep.step0 {S : List Addr} {H H1 H2 : Hp} (a : Keep S H H1) (b : Keep [] H1 H2) : Keep S H H2 := a.step b (fun _ h => nomatch h)
theorem Keep.step1 {S : List Addr} {H H1 H2 : Hp} {l : Addr} (a : Keep S H H1) (b : Keep [l] H1 H2) (h : H l = none) : Keep S H H2 := a.step b (fun x m => by simp at m; subst m; exact .inr h)
theorem Keep.back {S : List Addr} {H H1 H2 : Hp} (b : Keep S H1 H2) (a : Keep S H H1) : Keep S H H2 := a.trans b
theorem Keep.back0 {S : List Addr} {H H1 H2 : Hp} (b : Keep [] H1 H2) (a : Keep S H H1) : Keep S H H2 := a.step0 b
theorem Keep.step1' {S : List Addr} {H H1 H2 : Hp} {l : Addr} (a : Keep S H H1) (b : Keep [l] H1 H2) : Keep (l :: S) H H2 := (a.mono (fun x m => List.mem_cons_of_mem _ m)).trans (b.mono (fun x m => by simp at m; subst m; exact List.mem_cons_self))
/-- .. from further back (hidden from the search) -/
structure KC (S : List Addr) (H H' : Hp) : Prop where
  k : Keep S H H'
theorem Keep.new {H : Hp} {p : Addr} {o : HO} (h : H p = none) : Keep [] H (upd H p o) := by
  have z : ∀ b u, H b = some u → upd H p o b = some u := fun b u e => by rw [upd_ne (ne_of_none e h)]; exact e
  exact ⟨fun b u _ e => z b u e, fun b xs e => z b _ e, fun b o u e => z b _ e, fun b u e => ⟨u, z b u e⟩⟩
theorem Keep.put {H : Hp} {l : Addr} {o u : HO} (h : H l = some o) (m : Mut (some o)) : Keep [l] H (upd H l u) := by
  have z : ∀ b v, b ≠ l → H b = some v → upd H l u b = some v := fun b v n e => by rw [upd_ne n]; exact e
  refine ⟨fun b v n e => z b v (fun q => n (by simp [q])) e, fun b xs e => z b _ (fun q => ?_) e, fun b ob v e => z b _ (fun q => ?_) e, fun b v e => ?_⟩
  · rw [q, h] at e; cases e; exact m
  · rw [q, h] at e; cases e; exact m
  · by_cases q : b = l
    · rw [q]; exact ⟨u, upd_same⟩
    · exact ⟨v, z b v q e⟩
theorem Keep.ne {S : List Addr} {H H' : Hp} (k : Keep S H H') {a p : Addr} {u : HO} (h : H a = some u) (n : H' p = none) : a ≠ p := by
  rintro rfl
  obtain ⟨u', e⟩ := k.dom a u h
  rw [n] at e; cases e
theorem Keep.free {S : List Addr} {H H' : Hp} (k : Keep S H H') {p : Addr} (n : H' p = none) : H p = none := by
  cases q : H p with
  | none => rfl
  | some u =>
    obtain ⟨u', e⟩ := k.dom p u q
    rw [n] at e; cases e
theorem Keep.sqT {S : List Addr} {K : PySem.W.Frag} {H H' : Hp} {a : Addr} {xs : List V} (k : Keep S H H') (h : SqT K H a xs) : SqT K H' a xs := by
  rcases h with (h | ⟨o, h⟩) | h
  · exact .inl (.inl (k.tup _ _ h))
  · exact .inl (.inr ⟨o, k.frz _ _ _ h⟩)
  · exact .inr h
theorem Keep.sqL {S : List Addr} {K : PySem.W.Frag} {H H' : Hp} {a : Addr} {xs : List V} (k : Keep S H H') (n : a ∉ S) (h : SqL K H a xs) : SqL K H' a xs := by
  rcases h with (h | ⟨o, h⟩) | h
  · exact .inl (.inl (k.obj _ _ n h))
  · exact .inl (.inr ⟨o, k.frz _ _ _ h⟩)
  · exact .inr h

/-! ### data that never changes -/
mutual
inductive Im (K : PySem.W.Frag) (H : Hp) : V → PyData → Prop
  | non : Im K H .non .none
  | bl (b : Bool) : Im K H (.bl b) (.bool b)
  | int (i : Int) : Im K H (.int i) (.int i)
  | str (x : Str) : Im K H (.str x) (.str x)
  | tup {a : Addr} {xs : List V} {ds : List PyData} : SqT K H a xs → ImAll K H xs ds → Im K H (.ref a) (.tuple ds)
inductive ImAll (K : PySem.W.Frag) (H : Hp) : List V → List PyData → Prop
  | nil : ImAll K H [] []
  | cons {v : V} {vs : List V} {d : PyData} {ds : List PyData} : Im K H v d → ImAll K H vs ds → ImAll K H (v :: vs) (d :: ds)
end
section
variable {K : PySem.W.Frag} {S : List Addr} {H H' : Hp}
mutual
theorem Im.mono (k : Keep S H H') : ∀ {v : V} {d : PyData}, Im K H v d → Im K H' v d
  | _, _, .non => .non
  | _, _, .bl b => .bl b
  | _, _, .int i => .int i
  | _, _, .str x => .str x
  | _, _, .tup h a => .tup (k.sqT h) (ImAll.mono k a)
theorem ImAll.mono (k : Keep S H H') : ∀ {vs : List V} {ds : List PyData}, ImAll K H vs ds → ImAll K H' vs ds
  | _, _, .nil => .nil
  | _, _, .cons h t => .cons (Im.mono k h) (ImAll.mono k t)
end
mutual
theorem Im.dp : ∀ {v : V} {d : PyData}, Im K H v d → Dp K H v d
  | _, _, .non => .non
  | _, _, .bl b => .bl b
  | _, _, .int i => .int i
  | _, _, .str x => .str x
  | _, _, .tup h a => .tup h (ImAll.dp a)
theorem ImAll.dp : ∀ {vs : List V} {ds : List PyData}, ImAll K H vs ds → DpAll K H vs ds
  | _, _, .nil => .nil
  | _, _, .cons h t => .cons (Im.dp h) (ImAll.dp t)
end
theorem Im.of_str {v : V} {x : Str} (h : Im K H v (.str x)) : v = .str x := by cases h; rfl
theorem Im.of_int {v : V} {x : Int} (h : Im K H v (.int x)) : v = .int x := by cases h; rfl
theorem Im.of_tup {v : V} {ds : List PyData} (h : Im K H v (.tuple ds)) : ∃ a xs, v = .ref a ∧ SqT K H a xs ∧ ImAll K H xs ds := by
  cases h with
  | tup h a => exact ⟨_, _, rfl, h, a⟩
theorem ImAll.of_nil {vs : List V} (h : ImAll K H vs []) : vs = [] := by cases h; rfl
theorem ImAll.of_cons {vs : List V} {d : PyData} {ds : List PyData} (h : ImAll K H vs (d :: ds)) : ∃ v r, vs = v :: r ∧ Im K H v d ∧ ImAll K H r ds := by
  cases h with
  | cons h t => exact ⟨_, _, rfl, h, t⟩
theorem ImAll.length : ∀ {vs : List V} {ds : List PyData}, ImAll K H vs ds → vs.length = ds.length
  | _, _, .nil => rfl
  | _, _, .cons _ t => by simp [ImAll.length t]
theorem ImAll.get : ∀ {vs : List V} {ds : List PyData} {i : Nat} {v : V}, ImAll K H vs ds → vs[i]? = some v → ∃ d, ds[i]? = some d ∧ Im K H v d
  | _, _, _, _, .nil, e => by simp at e
  | _, _, 0, _, .cons h _, e => by simp at e; subst e; exact ⟨_, rfl, h⟩
  | _, _, i + 1, _, .cons _ t, e => by
    obtain ⟨d, h1, h2⟩ := ImAll.get (i := i) t (by simpa using e)
    exact ⟨d, by simpa using h1, h2⟩
theorem ImAll.append : ∀ {vs ws : List V} {ds es : List PyData}, ImAll K H vs ds → ImAll K H ws es → ImAll K H (vs ++ ws) (ds ++ es)
  | _, _, _, _, .nil, s => s
  | _, _, _, _, .cons h t, s => .cons h (ImAll.append t s)
end

/-! ### operators over all kinds -/
section
variable {X : Cx}
def rAdd (K : PySem.W.Frag) : R2 := fun x y H Q => (rI0 fun i j => .int (i + j)) x y H Q ∨ ((fun x y H Q => ∃ i j, x = .str i ∧ y = .str j ∧ i.length + j.length ≤ sizeLine ∧ Q (.str (i ++ j)) H) : R2) x y H Q ∨ rCat x y H Q ∨ rCatA K x y H Q
theorem op_addX : OpR X (binaryOp .Add) (rAdd X.K) := OpR.or op_add (OpR.or op_add_str (OpR.or op_cat op_catA))
def rEqX (K : PySem.W.Frag) : R2 := fun x y H Q => rEq x y H Q ∨ rEqD K x y H Q
def rNeX (K : PySem.W.Frag) : R2 := fun x y H Q => rNe x y H Q ∨ rNeD K x y H Q
theorem op_eqX (hu : X.A.units + 64 < cLine) : OpR X (compareOp .Eq) (rEqX X.K) := OpR.or op_eq (op_eqD hu)
theorem op_neX (hu : X.A.units + 64 < cLine) : OpR X (compareOp .NotEq) (rNeX X.K) := OpR.or op_ne (op_neD hu)
abbrev rSubI : R2 := rI0 fun i j => .int (i - j)
abbrev rMulI : R2 := rI CMul fun i j => .int (i * j)
abbrev rDivI : R2 := rI CDivW fun i j => .int (i / j)
abbrev rModI : R2 := rI (fun _ j => 0 < j) fun i j => .int (i % j)
abbrev rPowI : R2 := rI CPow fun i j => .int (i ^ j.toNat)
abbrev rLtI : R2 := rI0 fun i j => .bl (decide (i < j))
abbrev rLeI : R2 := rI0 fun i j => .bl (decide (i ≤ j))
abbrev rGtI : R2 := rI0 fun i j => .bl (decide (j < i))
abbrev rGeI : R2 := rI0 fun i j => .bl (decide (j ≤ i))
abbrev rNegI : V → Hp → VK → Prop := rU fun i => .int (-i)
end
end M


namespace M
open PySem PySem.Spec PyProof.Rows L2

/-! ### match over tuples and lists: literals and captures -/
inductive PEl where
  | lit (x : Str) | cap (i : Nat) | any
def pmV : List PEl → List V → Option (List (Nat × V))
  | .lit x :: ps, v :: vs => if v = .str x then pmV ps vs else none
  | .cap i :: ps, v :: vs => (pmV ps vs).map ((i, v) :: ·)
  | .any :: ps, _ :: vs => pmV ps vs
  | _, _ => some []
def litOk : List PEl → List V → Prop
  | .lit _ :: ps, v :: vs => (∃ y, v = .str y) ∧ litOk ps vs
  | _ :: ps, _ :: vs => litOk ps vs
  | _, _ => True
section
variable {X : Cx}
inductive PPt (X : Cx) : List Pattern → List PEl → Prop
  | nil : PPt X [] []
  | lit {x : Str} {j : Nat} {p pos : Pos} {ps : List Pattern} {es : List PEl} : PPt X ps es → PPt X (.MatchValue (.Constant (.str x) j p) pos :: ps) (.lit x :: es)
  | cap {i : Nat} {n : Str} {pos : Pos} {ps : List Pattern} {es : List PEl} (hi : X.N[i]? = some n) (hx : Loc X.env.scope n) (hf : X.fn n = true ∨ X.env.scope.names.lookup n = some .local) : PPt X ps es → PPt X (.MatchAs none (some n) pos :: ps) (.cap i :: es)
  | any {pos : Pos} {ps : List Pattern} {es : List PEl} : PPt X ps es → PPt X (.MatchAs none none pos :: ps) (.any :: es)
theorem ppt_nil : PPt X [] [] := .nil
theorem ppt_lit {x : Str} {j : Nat} {p pos : Pos} {ps : List Pattern} {es : List PEl} (h : PPt X ps es) : PPt X (.MatchValue (.Constant (.str x) j p) pos :: ps) (.lit x :: es) := .lit h
theorem ppt_cap {i : Nat} {n : Str} {pos : Pos} {ps : List Pattern} {es : List PEl} (hi : X.N[i]? = some n) (hx : Loc X.env.scope n) (h : PPt X ps es)
    (hf : X.fn n = true ∨ X.env.scope.names.lookup n = some .local := by first | exact .inl rfl | exact .inr rfl | assumption) : PPt X (.MatchAs none (some n) pos :: ps) (.cap i :: es) := .cap hi hx hf h
theorem ppt_any {pos : Pos} {ps : List Pattern} {es : List PEl} (h : PPt X ps es) : PPt X (.MatchAs none none pos :: ps) (.any :: es) := .any h
def BsR (X : Cx) (b : Nat × V) (c : Str × Value) : Prop := X.N[b.1]? = some c.1 ∧ Loc X.env.scope c.1 ∧ (X.fn c.1 = true ∨ X.env.scope.names.lookup c.1 = some .local) ∧ RelV b.2 c.2
theorem each_ok {pins : List (Addr × Obj)} {σ : L2.St} {H : Hp} : ∀ {ps : List Pattern} {es : List PEl} {vs : List V} {us : List Value} {s : Shared}, PPt X ps es → Inv X pins σ H s → Vals vs us → litOk es vs → es.length = vs.length →
    wpAny (model X.prog X.w) X.A (matchEach ps X.env us) (fun r s1 => Inv X pins σ H s1 ∧ match pmV es vs with
      | none => r = none
      | some bs => ∃ cs, r = some cs ∧ Paired (BsR X) bs cs) X.xe s := by
  intro ps
  induction ps with
  | nil =>
    intro es vs us s P I r ok hl
    cases P
    exact wpAny_matchEach_nil ⟨I, [], rfl, .nil⟩
  | cons p ps ih =>
    intro es vs us s P I r ok hl
    cases P with
    | @lit x j pp pos _ es P =>
      cases r with
      | nil => simp at hl
      | @cons v u vs us r rs =>
        obtain ⟨⟨y, rfl⟩, ok⟩ := ok
        refine wpAny_matchEach_cons (wpAny_matchPattern_Value (Calls.Constant_str ?_))
        refine thn (op_eq pins _ σ H (.str y) (.str x) _ _ (fun b H' => b = .bl (decide ((V.str y) = .str x)) ∧ H' = H) (I.tok _) r ⟨_, rfl⟩ ⟨rfl, rfl, rfl⟩) fun c s2 ⟨b, H2, I2, rb, e1, e2⟩ => ?_
        subst e1 e2
        cases rb
        refine wpAny_truthy_bool ?_
        by_cases e : (V.str y) = .str x
        · rw [decide_eq_true e]
          refine thn (ih P I2 rs ok (by simpa using hl)) fun r' s3 ⟨I3, q⟩ => ?_
          unfold pmV
          rw [if_pos e]
          cases z : pmV es vs with
          | none =>
            rw [z] at q
            cases q
            exact ⟨I3, rfl⟩
          | some bs =>
            rw [z] at q
            obtain ⟨cs, rfl, pr⟩ := q
            exact ⟨I3, cs, rfl, pr⟩
        · rw [decide_eq_false e]
          unfold pmV
          rw [if_neg e]
          exact ⟨I2, rfl⟩
    | @cap i n pos _ es hi hx hf P =>
      cases r with
      | nil => simp at hl
      | @cons v u vs us r rs =>
        refine wpAny_matchEach_cons (wpAny_matchPattern_Capture ?_)
        refine thn (ih P I rs ok (by simpa using hl)) fun r' s3 ⟨I3, q⟩ => ?_
        unfold pmV
        cases z : pmV es vs with
        | none =>
          rw [z] at q
          cases q
          exact ⟨I3, rfl⟩
        | some bs =>
          rw [z] at q
          obtain ⟨cs, rfl, pr⟩ := q
          exact ⟨I3, _, rfl, .cons ⟨hi, hx, hf, r⟩ pr⟩
    | @any pos _ es P =>
      cases r with
      | nil => simp at hl
      | @cons v u vs us r rs =>
        refine wpAny_matchEach_cons (wpAny_matchPattern_Capture ?_)
        refine thn (ih P I rs ok (by simpa using hl)) fun r' s3 ⟨I3, q⟩ => ?_
        unfold pmV
        cases z : pmV es vs with
        | none =>
          rw [z] at q
          cases q
          exact ⟨I3, rfl⟩
        | some bs =>
          rw [z] at q
          obtain ⟨cs, rfl, pr⟩ := q
          exact ⟨I3, _, rfl, pr⟩
def bindsV (σ : L2.St) : List (Nat × V) → L2.St
  | [] => σ
  | b :: bs => bindsV (σ.set b.1 (some b.2)) bs
theorem binds_ok {pins : List (Addr × Obj)} {H : Hp} (hN : X.N.Nodup) : ∀ {bs : List (Nat × V)} {cs : List (Str × Value)} {σ : L2.St} {s : Shared}, Paired (BsR X) bs cs → Inv X pins σ H s →
    wpAny (model X.prog X.w) X.A (assignInOrder (cs.map fun (n, _) => bindName X.env n) (cs.map (·.2))) (fun _ s' => Inv X pins (bindsV σ bs) H s') X.xe s
  | _, _, _, _, .nil, I => wpAny_assignInOrder_none I
  | b :: bs, _, σ, _, .cons ⟨hi, hx, hf, r⟩ pr, I => by
    have go : ∀ s1, Inv X pins (σ.set b.1 (some b.2)) H s1 → _ := fun s1 I1 => binds_ok (bs := bs) (σ := σ.set b.1 (some b.2)) hN pr I1
    exact wpAny_assignInOrder_more (wpAny_bindName (store_ok I hN hi hx r (fun s1 I1 => go s1 I1) hf))
/-- the cases: none is «case _» -/
def tCases : List (Option (List PEl) × TS) → List V → TS
  | [], _ => fun D σ H => D.nx σ H
  | (none, t) :: _, _ => t
  | (some es, t) :: r, xs => fun D σ H => if es.length = xs.length then litOk es xs ∧ (match pmV es xs with
    | some bs => t D (bindsV σ bs) H
    | none => tCases r xs D σ H) else tCases r xs D σ H
inductive PCs (X : Cx) : List MatchCase → List (Option (List PEl) × TS) → Prop
  | nil : PCs X [] []
  | any {pos : Pos} {body : List Stmt} {rest : List MatchCase} {t : TS} {r : List (Option (List PEl) × TS)} : PSs X body t → PCs X rest r → PCs X (⟨.MatchAs none none pos, none, body⟩ :: rest) ((none, t) :: r)
  | cons {ps : List Pattern} {pos : Pos} {body : List Stmt} {rest : List MatchCase} {es : List PEl} {t : TS} {r : List (Option (List PEl) × TS)} : PPt X ps es → ps.findIdx? (·.isStar) = none →
      (ps.all fun p => p.isWildcard || (p.isStar && p.names.isEmpty)) = false → PSs X body t → PCs X rest r → PCs X (⟨.MatchSequence ps pos, none, body⟩ :: rest) ((some es, t) :: r)
theorem pcs_nil : PCs X [] [] := .nil
theorem pcs_any {pos : Pos} {body : List Stmt} {rest : List MatchCase} {t : TS} {r : List (Option (List PEl) × TS)} (h : PSs X body t) (k : PCs X rest r) : PCs X (⟨.MatchAs none none pos, none, body⟩ :: rest) ((none, t) :: r) := .any h k
theorem pcs_cons {ps : List Pattern} {pos : Pos} {body : List Stmt} {rest : List MatchCase} {es : List PEl} {t : TS} {r : List (Option (List PEl) × TS)} (h : PPt X ps es) (b : PSs X body t) (k : PCs X rest r)
    (h1 : ps.findIdx? (·.isStar) = none := by rfl) (h2 : (ps.all fun p => p.isWildcard || (p.isStar && p.names.isEmpty)) = false := by rfl) : PCs X (⟨.MatchSequence ps pos, none, body⟩ :: rest) ((some es, t) :: r) := .cons h h1 h2 b k
theorem ppt_length : ∀ {ps : List Pattern} {es : List PEl}, PPt X ps es → ps.length = es.length
  | _, _, .nil => rfl
  | _, _, .lit h => by simp [ppt_length h]
  | _, _, .cap _ _ _ h => by simp [ppt_length h]
  | _, _, .any h => by simp [ppt_length h]
theorem cases_ok {pins : List (Addr × Obj)} {σ : L2.St} {H : Hp} {a : Addr} {xs : List V} {D : Ends} (hc : X.calm = true) (hN : X.N.Nodup) (hq : SqT X.K H a xs) : ∀ {cs : List MatchCase} {ts : List (Option (List PEl) × TS)} {s : Shared} {b : Bool}, PCs X cs ts → Inv X pins σ H s → tCases ts xs D σ H →
    wpAny (model X.prog X.w) X.A (matchCases cs X.env (.ref a) b) (SP X pins D) X.xe s
  | _, _, _, _, .nil, I, h => wpAny_matchCases_nil ⟨σ, H, I, h⟩
  | _, _, _, _, .any B _, I, h => wpAny_matchCases_cons (wpAny_matchPattern_Capture (wpAny_assignInOrder_none (B.run _ _ _ _ _ I h)))
  | _, _, s, _, @PCs.cons _ ps pos body rest es t r P h1 h2 B C, I, h => by
    obtain ⟨its, rv, p, hz⟩ := I.tuple hq
    have hl := rv.length
    have fit : ((its.toArray.size : Nat) : Int) < 2 ^ 63 := by
      have := sizeLine_eq
      simp only [List.size_toArray]
      omega
    unfold tCases at h
    have pl := ppt_length P
    refine wpAny_matchCases_cons ?_
    by_cases e : es.length = xs.length
    · rw [if_pos e] at h
      obtain ⟨ok, h⟩ := h
      have en : its.toArray.size = ps.length := by simp; omega
      refine matchSeq_tuple_hit p fit en ?_ h1 h2
      rw [← en]
      refine unpackItems_tuple (I.ok.hd hc) p fun h' hx => ?_
      have I1 : Inv X pins σ H { s with heap := h', toks := s.toks + 1 + 1 } := (I.kept (t' := s.toks + 1 + 1) fun b o e => hx b o (Nat.ne_of_lt (Heap.lt_size e)) e)
      refine thn (each_ok P I1 (by simpa using rv) ok e) fun r' s2 ⟨I2, q⟩ => ?_
      cases z : pmV es xs with
      | none =>
        rw [z] at q h
        cases q
        exact cases_ok hc hN hq C I2 h
      | some bs =>
        rw [z] at q h
        obtain ⟨cs, rfl, pr⟩ := q
        exact thn (binds_ok hN pr I2) fun _ s3 I3 => B.run _ _ _ _ _ I3 h
    · rw [if_neg e] at h
      refine matchSeq_tuple_miss p fit (by simp; omega) ?_ h1 h2
      exact cases_ok hc hN hq C (I.tok _) h
def tMatch (K : PySem.W.Frag) (te : TE) (cs : List (Option (List PEl) × TS)) : TS := fun D σ H => te σ H fun x H1 => ∃ a xs, x = .ref a ∧ SqT K H1 a xs ∧ tCases cs xs D σ H1
theorem ps_match {e : Expr} {te : TE} {cases : List MatchCase} {cs : List (Option (List PEl) × TS)} {pos : Pos} (hc : X.calm = true) (hN : X.N.Nodup) (he : PE X e te) (h : PCs X cases cs) : PS X (.Match e cases pos) (tMatch X.K te cs) := by
  refine ⟨fun pins s σ H D I hw => ?_⟩
  refine wpAny_Match (thn (he.run pins s σ H _ I hw) fun v s1 ⟨x, H1, I1, r1, q1⟩ => ?_)
  obtain ⟨a, xs, rfl, hq, q⟩ := q1
  cases r1
  exact cases_ok hc hN hq h I1 q
end
end M


namespace M
open PySem PySem.Spec PyProof.Rows L2

/-! ### the built-in names, unbound in the module -/
structure Blt (mg : Str → Option Value) : Prop where
  isinstance : mg "isinstance" = none
  int : mg "int" = none
  bool : mg "bool" = none
  str : mg "str" = none
  len : mg "len" = none
  max : mg "max" = none
  min : mg "min" = none
  range : mg "range" = none
  list : mg "list" = none
  tuple : mg "tuple" = none
  dict : mg "dict" = none
  sorted : mg "sorted" = none
  enumerate : mg "enumerate" = none
theorem bt_isinstance : bootBuiltins "isinstance" = some (.builtin "isinstance") := by decide +kernel
theorem bt_max : bootBuiltins "max" = some (.builtin "max") := by decide +kernel
theorem bt_len : bootBuiltins "len" = some (.builtin "len") := by decide +kernel
theorem bt_int : bootBuiltins "int" = some (.type "int") := by decide +kernel
theorem bt_bool : bootBuiltins "bool" = some (.type "bool") := by decide +kernel
theorem bt_str : bootBuiltins "str" = some (.type "str") := by decide +kernel
theorem bt_list : bootBuiltins "list" = some (.type "list") := by decide +kernel
theorem bt_tuple : bootBuiltins "tuple" = some (.type "tuple") := by decide +kernel
theorem bt_dict : bootBuiltins "dict" = some (.type "dict") := by decide +kernel

/-! ### rules in short -/
section
variable {X : Cx}
theorem sN (i : Nat) {x : Str} {e : Expr} {te : TE} {pos pos' : Pos} (hN : X.N.Nodup) (he : PE X e te) (hi : X.N[i]? = some x := by rfl) (hx : Loc X.env.scope x := by first | exact Or.inl rfl | exact Or.inr rfl)
    (hs : swapsWith e (some (.Name x pos')) pos.line X.env = pure false := by rfl) (hf : X.fn x = true ∨ X.env.scope.names.lookup x = some .local := by first | exact .inl rfl | exact .inr rfl | assumption) :
    PS X (.Assign [.Name x pos'] e pos) (tAsg te (gName i)) := ps_set hN hi hx he hs hf
theorem gN (i : Nat) {x : Str} {pos : Pos} (hN : X.N.Nodup) (hi : X.N[i]? = some x := by rfl) (hx : Loc X.env.scope x := by first | exact Or.inl rfl | exact Or.inr rfl)
    (hf : X.fn x = true ∨ X.env.scope.names.lookup x = some .local := by first | exact .inl rfl | exact .inr rfl | assumption) : PG X (.Name x pos) (gName i) := pg_name hN hi hx hf
theorem cN (i : Nat) {n : Str} {pos : Pos} {ps : List Pattern} {es : List PEl} (h : PPt X ps es) (hi : X.N[i]? = some n := by rfl) (hx : Loc X.env.scope n := by first | exact Or.inl rfl | exact Or.inr rfl)
    (hf : X.fn n = true ∨ X.env.scope.names.lookup n = some .local := by first | exact .inl rfl | exact .inr rfl | assumption) : PPt X (.MatchAs none (some n) pos :: ps) (.cap i :: es) := .cap hi hx hf h
/-- a list or a tuple walked -/
def iSeq (K : PySem.W.Frag) (tl : TE) : TI := fun σ H R => tl σ H fun x H1 => ∃ a, x = .ref a ∧ ((∃ xs, SqL K H1 a xs) ∧ R (Itl K a) H1 ∨ (∃ xs, SqT K H1 a xs) ∧ R (Itt K a) H1)
theorem pi_seq {tg l : Expr} {tl : TE} (hl : PE X l tl) : PI X tg l (iSeq X.K tl) := by
  refine ⟨fun pins s σ H R I h => ?_⟩
  refine thn (hl.run pins s σ H _ I h) fun v s1 ⟨x, H1, I1, r1, q1⟩ => ?_
  obtain ⟨a, e, q⟩ := q1
  subst e
  cases r1
  rcases q with ⟨⟨xs, hq⟩, q⟩ | ⟨⟨xs, hq⟩, q⟩
  · obtain ⟨its, rv, p, hz⟩ := I1.list hq
    refine wpAny_pyIter_list p.isList ?_
    refine ⟨s1.heap.objs.size, [s1.heap.objs.size], _, _, H1, rfl, I1.kept (t' := s1.toks) fun b o e => Heap.get?_push_of_some _ e, turn_list a _, ⟨_, Heap.get?_push_size _ rfl, rfl, rfl⟩, fun b hb => ?_, q⟩
    have e : b = s1.heap.objs.size := by simpa using hb
    subst e
    exact I1.fpOk (Nat.le_refl _) (I1.hok.fresh (Nat.le_refl _))
  · obtain ⟨its, rv, p, hz⟩ := I1.tuple hq
    refine wpAny_pyIter_tuple (show s1.heap.IsTuple a its.toArray from p) ?_
    refine ⟨s1.heap.objs.size, [s1.heap.objs.size], _, _, H1, rfl, I1.kept (t' := s1.toks) fun b o e => Heap.get?_push_of_some _ e, turn_tuple a _, ⟨_, Heap.get?_push_size _ rfl, rfl, rfl⟩, fun b hb => ?_, q⟩
    have e : b = s1.heap.objs.size := by simpa using hb
    subst e
    exact I1.fpOk (Nat.le_refl _) (I1.hok.fresh (Nat.le_refl _))
/-- built-in calls -/
def rInt1 : List V → Hp → VK → Prop := fun xs H Q => (∃ i, xs = [.int i] ∧ Q (.int i) H) ∨ ∃ k, xs = [.bl k] ∧ Q (.int (if k then 1 else 0)) H
theorem cb_int : CallR X (.type "int") rInt1 := call_int1
def rStr1 : List V → Hp → VK → Prop := fun xs H Q => ∃ i, xs = [.int i] ∧ i.natAbs.log2 < 1920 ∧ Q (.str (toString i)) H
theorem cb_str : CallR X (.type "str") rStr1 := call_str_int
theorem cb_len : CallR X (.builtin "len") (rLen X.K) := call_len
def rMax2 : List V → Hp → VK → Prop := fun xs H Q => ∃ i j, xs = [.int i, .int j] ∧ Q (.int (if j > i then j else i)) H
theorem cb_max (hc : X.calm = true) : CallR X (.builtin "max") rMax2 := call_max2 hc
def rListOf (K : PySem.W.Frag) : List V → Hp → VK → Prop := fun xs H Q => ∃ p ys, xs = [V.ref p] ∧ (SqL K H p ys ∨ SqT K H p ys) ∧ ∀ l, H l = none → Q (V.ref l) (upd H l (HO.lst ys))
theorem cb_list : CallR X (.type "list") (rListOf X.K) := call_list_of
def rJoin (K : PySem.W.Frag) : V → List V → Hp → VK → Prop := fun x xs H Q => ∃ a p, ∃ ys : List Str, x = .str a ∧ xs = [.ref p] ∧ (SqL K H p (ys.map V.str) ∨ SqT K H p (ys.map V.str)) ∧
      (ys.map (·.length)).sum + ys.length * a.length ≤ 16777216 ∧ Q (.str (Txt.join a ys)) H
theorem pe_joinX {o e : Expr} {to te : TE} {apos pos : Pos} (ho : PE X o to) (he : PE X e te) (hs : starEach [e] X.env = [(false, eval e X.env)] := by rfl) (hbase : attributeBase o "join" X.env (eval o X.env) = eval o X.env := by rfl) (hline : (apos.endLine == pos.line) = true := by rfl) :
    PE X (.Call (.Attribute o "join" apos) [e] [] pos) (tM1 (rJoin X.K) to te) := pe_join ho he hs hbase hline
def tFS (ts : List TE) : TE := fun σ H Q => tJs ts Str.empty σ H fun out H1 => Q (.str out) H1
theorem pe_fs {v1 v2 : Expr} {rest : List Expr} {ts : List TE} {pos : Pos} (h : PJ X (v1 :: v2 :: rest) ts) : PE X (.JoinedStr (v1 :: v2 :: rest) pos) (tFS ts) := pe_joined h
end

/-! ### readings, step by step -/
section
variable {K : PySem.W.Frag} {σ : L2.St} {H : Hp} {Q : VK} {D : Ends}
theorem s_c {v : V} (h : Q v H) : tC v σ H Q := h
theorem s_op {r : R2} {ta tb : TE} (h : ta σ H fun x H1 => tb σ H1 fun y H2 => r x y H2 Q) : tOp r ta tb σ H Q := h
theorem s_un {r : V → Hp → VK → Prop} {ta : TE} (h : ta σ H fun x H1 => r x H1 Q) : tUn r ta σ H Q := h
theorem s_cb {r : List V → Hp → VK → Prop} {t : TA} (h : t σ H fun vs H1 => r vs H1 Q) : tCB r t σ H Q := h
theorem s_call {sp : Sp} {E : XK} {t : TA} (h : t σ H fun vs H1 => sp vs H1 Q E) : tCall sp [] E t σ H Q := by
  show t σ H fun vs H1 => sp (vs ++ []) H1 Q E
  have e : (fun vs H1 => sp (vs ++ []) H1 Q E) = fun vs H1 => sp vs H1 Q E := by funext vs H1; rw [List.append_nil]
  rw [e]; exact h
theorem s_nil {R : List V → Hp → Prop} (h : R [] H) : tNil σ H R := h
theorem s_cons {ta : TE} {tr : TA} {R : List V → Hp → Prop} (h : ta σ H fun x H1 => tr σ H1 fun xs H2 => R (x :: xs) H2) : tCons ta tr σ H R := h
theorem s_tup {t : TA} (h : t σ H fun xs H1 => xs.length ≤ sizeLine ∧ ∀ p H2, H1 p = none → Keep [] H1 H2 → SqT K H2 p xs → Q (.ref p) H2)
    (mono : ∀ R R' : List V → Hp → Prop, (∀ xs H1, R xs H1 → R' xs H1) → t σ H R → t σ H R') : tTup t σ H Q :=
  mono _ _ (fun xs H1 ⟨z, q⟩ => ⟨z, fun p hp => q p _ hp (Keep.new hp) (SqT.of upd_same)⟩) h
theorem s_if {c : TT} {ta tb : TE} (h : c σ H fun b H1 => if b = true then ta σ H1 Q else tb σ H1 Q) : tIf c ta tb σ H Q := h
theorem s_test {t : TE} {R : Bool → Hp → Prop} (h : t σ H fun x H' => ∃ k, x = .bl k ∧ R k H') : tTest t σ H R := h
theorem s_tB {t : TE} {R : Bool → Hp → Prop} (h : t σ H fun x H1 => ∃ c, x = .bl c ∧ R c H1) : tB t σ H R := h
theorem s_bl {b : Bool} {P : Bool → Prop} (h : P b) : ∃ k, V.bl b = .bl k ∧ P k := ⟨b, rfl, h⟩
theorem s_and {t u : TT} {R : Bool → Hp → Prop} (h : t σ H fun c H1 => if c = true then u σ H1 R else R false H1) : tAnd t u σ H R := h
theorem s_or {t u : TT} {R : Bool → Hp → Prop} (h : t σ H fun c H1 => if c = true then R true H1 else u σ H1 R) : tOr t u σ H R := h
theorem s_not {t : TT} {R : Bool → Hp → Prop} (h : t σ H fun c H1 => R (!c) H1) : tNot t σ H R := h
theorem s_andV {ta tb : TE} (h : ta σ H fun x H1 => ∃ c, x = .bl c ∧ if c = true then tb σ H1 Q else Q (.bl false) H1) : tAndV ta tb σ H Q := h
theorem s_orV {ta tb : TE} (h : ta σ H fun x H1 => ∃ c, x = .bl c ∧ if c = true then Q (.bl true) H1 else tb σ H1 Q) : tOrV ta tb σ H Q := h
theorem s_notV {ta : TE} (h : ta σ H fun x H1 => ∃ c, x = .bl c ∧ Q (.bl (!c)) H1) : tNotV ta σ H Q := h
theorem s_seq {t u : TS} (h : t { D with nx := u D } σ H) : tSeq t u D σ H := h
theorem s_asg {te : TE} {g : TG} (h : te σ H fun x H1 => g x σ H1 D.nx) : tAsg te g D σ H := h
theorem s_gN {i : Nat} {v : V} {R : L2.St → Hp → Prop} (h : R (σ.set i (some v)) H) : gName i v σ H R := h
theorem s_ret {te : TE} (h : te σ H D.rt) : tRet te D σ H := h
theorem s_ifS {c : TT} {t u : TS} (h : c σ H fun b H1 => if b = true then t D σ H1 else u D σ H1) : tIfS c t u D σ H := h
theorem s_drop {te : TE} (h : te σ H fun _ H1 => D.nx σ H1) : tDrop te D σ H := h
theorem s_next (h : D.nx σ H) : tNext D σ H := h
theorem s_then {ta : TE} {k : V → Hp → VK → Prop} (h : ta σ H fun x H1 => k x H1 Q) : tThen ta k σ H Q := h
theorem s_M1 {r : V → List V → Hp → VK → Prop} {to te : TE} (h : to σ H fun x H1 => (∃ a, x = .str a) ∧ te σ H1 fun y H2 => r x [y] H2 Q) : tM1 r to te σ H Q := h
theorem s_BM {T : String} {r : V → List V → Hp → VK → Prop} {to : TE} {t : TA} (h : to σ H fun x H1 => tyV K T x H1 ∧ t σ H1 fun xs H2 => r x xs H2 Q) : tBM K T r to t σ H Q := h
theorem ite_d {p A B : Prop} [Decidable p] (h : p) (a : A) : if decide p = true then A else B := by rw [decide_eq_true h]; exact iteT a
theorem ite_n {p A B : Prop} [Decidable p] (h : ¬ p) (b : B) : if decide p = true then A else B := by rw [decide_eq_false h]; exact iteF b
theorem ite_nd {p A B : Prop} [Decidable p] (h : p) (b : B) : if (!decide p) = true then A else B := by rw [decide_eq_true h]; exact iteF b
theorem ite_nn {p A B : Prop} [Decidable p] (h : ¬ p) (a : A) : if (!decide p) = true then A else B := by rw [decide_eq_false h]; exact iteT a
theorem ite_c {p A B : Prop} [Decidable p] (ha : p → A) (hb : ¬ p → B) : if decide p = true then A else B := by
  by_cases h : p
  · exact ite_d h (ha h)
  · exact ite_n h (hb h)
/-- operators by values -/
theorem v_addI {i j : Int} (h : Q (.int (i + j)) H) : rAdd K (.int i) (.int j) H Q := .inl ⟨i, j, rfl, rfl, h⟩
theorem v_addS {i j : Str} (l : i.length + j.length ≤ sizeLine) (h : Q (.str (i ++ j)) H) : rAdd K (.str i) (.str j) H Q := .inr (.inl ⟨i, j, rfl, rfl, l, h⟩)
theorem v_addL {a b : Addr} {xs ys : List V} (ha : H a = some (.lst xs)) (hb : H b = some (.lst ys)) (l : xs.length + ys.length ≤ sizeLine) (h : ∀ p H', H p = none → Keep [] H H' → H' p = some (.lst (xs ++ ys)) → Q (.ref p) H') : rAdd K (.ref a) (.ref b) H Q :=
  .inr (.inr (.inl ⟨a, b, xs, ys, rfl, rfl, ha, hb, l, fun p hp => h p _ hp (Keep.new hp) upd_same⟩))
theorem v_addT {a b : Addr} {xs ys : List V} (ha : SqT K H a xs) (hb : SqT K H b ys) (l : xs.length + ys.length ≤ sizeLine) (h : ∀ p H', Keep [] H H' → SqT K H' p (xs ++ ys) → Q (.ref p) H') : rAdd K (.ref a) (.ref b) H Q := by
  refine .inr (.inr (.inr ⟨a, b, xs, ys, rfl, rfl, ha, hb, l, fun e => ?_, fun _ e => ?_, fun _ _ p hp => h p _ (Keep.new hp) (SqT.of upd_same)⟩))
  · subst e; exact h b H (Keep.refl _ _) hb
  · subst e; exact h a H (Keep.refl _ _) (by rw [List.append_nil]; exact ha)
theorem v_subI {i j : Int} (h : Q (.int (i - j)) H) : rSubI (.int i) (.int j) H Q := ⟨i, j, rfl, rfl, h⟩
theorem v_mulI {i j : Int} (c : CMul i j) (h : Q (.int (i * j)) H) : rMulI (.int i) (.int j) H Q := ⟨i, j, rfl, rfl, c, h⟩
theorem v_divI {i j : Int} (c : CDivW i j) (h : Q (.int (i / j)) H) : rDivI (.int i) (.int j) H Q := ⟨i, j, rfl, rfl, c, h⟩
theorem v_modI {i j : Int} (c : 0 < j) (h : Q (.int (i % j)) H) : rModI (.int i) (.int j) H Q := ⟨i, j, rfl, rfl, c, h⟩
theorem v_powI {i j : Int} (c : CPow i j) (h : Q (.int (i ^ j.toNat)) H) : rPowI (.int i) (.int j) H Q := ⟨i, j, rfl, rfl, c, h⟩
theorem v_ltI {i j : Int} (h : Q (.bl (decide (i < j))) H) : rLtI (.int i) (.int j) H Q := ⟨i, j, rfl, rfl, h⟩
theorem v_leI {i j : Int} (h : Q (.bl (decide (i ≤ j))) H) : rLeI (.int i) (.int j) H Q := ⟨i, j, rfl, rfl, h⟩
theorem v_gtI {i j : Int} (h : Q (.bl (decide (j < i))) H) : rGtI (.int i) (.int j) H Q := ⟨i, j, rfl, rfl, h⟩
theorem v_geI {i j : Int} (h : Q (.bl (decide (j ≤ i))) H) : rGeI (.int i) (.int j) H Q := ⟨i, j, rfl, rfl, h⟩
theorem v_negI {i : Int} (h : Q (.int (-i)) H) : rNegI (.int i) H Q := ⟨i, rfl, h⟩
theorem v_eqS {a b : Str} (h : Q (.bl (decide (a = b))) H) : rEqX K (.str a) (.str b) H Q := by
  refine .inl ⟨rfl, ?_⟩
  have e : decide (V.str a = V.str b) = decide (a = b) := by
    by_cases q : a = b
    · rw [decide_eq_true q, decide_eq_true (congrArg V.str q)]
    · rw [decide_eq_false q, decide_eq_false fun z => q (V.str.inj z)]
  rw [e]; exact h
theorem v_eqI {a b : Int} (h : Q (.bl (decide (a = b))) H) : rEqX K (.int a) (.int b) H Q := by
  refine .inl ⟨rfl, ?_⟩
  have e : decide (V.int a = V.int b) = decide (a = b) := by
    by_cases q : a = b
    · rw [decide_eq_true q, decide_eq_true (congrArg V.int q)]
    · rw [decide_eq_false q, decide_eq_false fun z => q (V.int.inj z)]
  rw [e]; exact h
theorem v_neS {a b : Str} (h : Q (.bl (!decide (a = b))) H) : rNeX K (.str a) (.str b) H Q := by
  refine .inl ⟨rfl, ?_⟩
  have e : decide (V.str a = V.str b) = decide (a = b) := by
    by_cases q : a = b
    · rw [decide_eq_true q, decide_eq_true (congrArg V.str q)]
    · rw [decide_eq_false q, decide_eq_false fun z => q (V.str.inj z)]
  rw [e]; exact h
theorem v_neI {a b : Int} (h : Q (.bl (!decide (a = b))) H) : rNeX K (.int a) (.int b) H Q := by
  refine .inl ⟨rfl, ?_⟩
  have e : decide (V.int a = V.int b) = decide (a = b) := by
    by_cases q : a = b
    · rw [decide_eq_true q, decide_eq_true (congrArg V.int q)]
    · rw [decide_eq_false q, decide_eq_false fun z => q (V.int.inj z)]
  rw [e]; exact h
theorem v_ixT {a : Addr} {xs : List V} {i : Int} {v : V} (h : SqT K H a xs) (e : atI xs i = some v) (q : Q v H) : rIx K (.ref a) (.int i) H Q := .inr (.inl ⟨a, xs, i, v, rfl, rfl, h, e, q⟩)
theorem v_ixL {a : Addr} {xs : List V} {i : Int} {v : V} (h : SqL K H a xs) (e : atI xs i = some v) (q : Q v H) : rIx K (.ref a) (.int i) H Q := .inl ⟨a, xs, i, v, rfl, rfl, h, e, q⟩
theorem v_ixS {z : Str} {i : Int} {c : Nat} (l : z.length ≤ sizeLine) (e : atI z.cps.toList i = some c) (q : Q (.str ⟨#[c]⟩) H) : rIx K (.str z) (.int i) H Q := .inr (.inr ⟨z, i, c, rfl, rfl, l, e, q⟩)
theorem v_int {i : Int} (h : Q (.int i) H) : rInt1 [.int i] H Q := .inl ⟨i, rfl, h⟩
theorem v_intB {b : Bool} (h : Q (.int (if b then 1 else 0)) H) : rInt1 [.bl b] H Q := .inr ⟨b, rfl, h⟩
theorem v_str {i : Int} (l : i.natAbs.log2 < 1920) (h : Q (.str (toString i)) H) : rStr1 [.int i] H Q := ⟨i, rfl, l, h⟩
theorem v_lenL {a : Addr} {xs : List V} (s : SqL K H a xs) (h : Q (.int xs.length) H) : rLen K [.ref a] H Q := ⟨_, _, rfl, .inl ⟨xs, s, rfl⟩, h⟩
theorem v_lenT {a : Addr} {xs : List V} (s : SqT K H a xs) (h : Q (.int xs.length) H) : rLen K [.ref a] H Q := ⟨_, _, rfl, .inr ⟨xs, s, rfl⟩, h⟩
theorem v_lenS {z : Str} (l : z.length ≤ sizeLine) (h : Q (.int z.length) H) : rLen K [.str z] H Q := ⟨_, _, rfl, ⟨l, rfl⟩, h⟩
theorem v_max {i j : Int} (h : Q (.int (if j > i then j else i)) H) : rMax2 [.int i, .int j] H Q := ⟨i, j, rfl, h⟩
theorem tyx_tup {a : Addr} {xs : List V} (h : SqT K H a xs) : TyX K H (.ref a) (.type "tuple") := by
  rcases h with (h | ⟨o, h⟩) | ⟨o, its, n, hk, hc, _⟩
  · exact .base (.tup h)
  · exact .fTuple h
  · exact .kTuple hk hc
theorem v_isi {x : V} {t n : String} {b : Bool} (ty : TyX K H x (.type t)) (k : kitB t n = some b) (q : Q (.bl b) H) : rIsi K [x, .ty n] H Q := ⟨x, .ty n, .type t, .type n, b, rfl, .ty n, ty, kit_ty k, q⟩
theorem v_isiI {i : Int} {n : String} {b : Bool} (k : kitB "int" n = some b) (q : Q (.bl b) H) : rIsi K [.int i, .ty n] H Q := v_isi (.base (.int i)) k q
theorem v_isiB {i : Bool} {n : String} {b : Bool} (k : kitB "bool" n = some b) (q : Q (.bl b) H) : rIsi K [.bl i, .ty n] H Q := v_isi (.base (.bl i)) k q
theorem v_isiS {i : Str} {n : String} {b : Bool} (k : kitB "str" n = some b) (q : Q (.bl b) H) : rIsi K [.str i, .ty n] H Q := v_isi (.base (.str i)) k q
theorem v_isiT {a : Addr} {xs : List V} {n : String} {b : Bool} (s : SqT K H a xs) (k : kitB "tuple" n = some b) (q : Q (.bl b) H) : rIsi K [.ref a, .ty n] H Q := v_isi (tyx_tup s) k q
end
end M


namespace M
open PySem PySem.Spec PyProof.Rows L2
/-! ### new objects, told by what stands behind -/
def mkT (K : PySem.W.Frag) (xs : List V) (H : Hp) (Q : VK) : Prop := xs.length ≤ sizeLine ∧ ∀ p H2, H p = none → Keep [] H H2 → SqT K H2 p xs → Q (.ref p) H2
def mkL (xs : List V) (H : Hp) (Q : VK) : Prop := xs.length ≤ sizeLine ∧ ∀ p H2, H p = none → Keep [] H H2 → H2 p = some (.lst xs) → Q (.ref p) H2
def tTupX (K : PySem.W.Frag) (t : TA) : TE := fun σ H Q => t σ H fun xs H1 => mkT K xs H1 Q
def tLstX (t : TA) : TE := fun σ H Q => t σ H fun xs H1 => mkL xs H1 Q
section
variable {X : Cx}
theorem pe_tupX {es : List Expr} {t : TA} {x1} {pos : Pos} (h : PA X es t) : PE X (.Tuple es x1 pos) (tTupX X.K t) := by
  refine ⟨fun pins s σ H Q I hq => ?_⟩
  refine wpAny_Tuple_spliced (thn (h.run pos pins s σ H _ I hq) fun us s1 ⟨xs, H1, I1, r, z, q⟩ => ⟨by rw [← r.length]; exact z, ?_⟩)
  have hf : H1 s1.heap.objs.size = none := I1.hok.fresh (Nat.le_refl _)
  refine ⟨.ref s1.heap.objs.size, upd H1 s1.heap.objs.size (.tup xs), I1.laid (t' := s1.toks) (fun b u e => Heap.get?_push_of_some _ e) (Nat.le_refl _) ?_, rfl, q _ _ hf (Keep.new hf) (SqT.of upd_same)⟩
  exact ⟨z, us, r, ⟨_, Heap.get?_push_size _ rfl, rfl, _, rfl⟩⟩
theorem pe_lstX {es : List Expr} {t : TA} {pos : Pos} (h : PA X es t) : PE X (.List es pos) (tLstX t) := by
  refine ⟨fun pins s σ H Q I hq => ?_⟩
  refine wpAny_List_spliced (thn (h.run pos pins s σ H _ I hq) fun us s1 ⟨xs, H1, I1, r, z, q⟩ => ⟨by rw [← r.length]; exact z, ?_⟩)
  have hf : H1 s1.heap.objs.size = none := I1.hok.fresh (Nat.le_refl _)
  refine ⟨.ref s1.heap.objs.size, upd H1 s1.heap.objs.size (.lst xs), I1.laid (t' := s1.toks) (fun b u e => Heap.get?_push_of_some _ e) (Nat.le_refl _) ?_, rfl, q _ _ hf (Keep.new hf) upd_same⟩
  exact ⟨z, us, 0, r, Heap.get?_push_size _ rfl⟩
end
section
variable {K : PySem.W.Frag} {σ : L2.St} {H : Hp} {Q : VK} {D : Ends}
theorem s_tupX {t : TA} (h : t σ H fun xs H1 => mkT K xs H1 Q) : tTupX K t σ H Q := h
theorem s_lstX {t : TA} (h : t σ H fun xs H1 => mkL xs H1 Q) : tLstX t σ H Q := h
theorem v_mkT {xs : List V} (l : xs.length ≤ sizeLine) (h : ∀ p H2, H p = none → Keep [] H H2 → SqT K H2 p xs → Q (.ref p) H2) : mkT K xs H Q := ⟨l, h⟩
theorem v_mkL {xs : List V} (l : xs.length ≤ sizeLine) (h : ∀ p H2, H p = none → Keep [] H H2 → H2 p = some (.lst xs) → Q (.ref p) H2) : mkL xs H Q := ⟨l, h⟩
theorem v_append {l : Addr} {xs : List V} {y : V} (h : H l = some (.lst xs)) (z : xs.length < sizeLine) (q : ∀ H', Keep [l] H H' → H' l = some (.lst (xs ++ [y])) → Q .non H') : rAppend (.ref l) [y] H Q :=
  ⟨l, xs, y, rfl, rfl, h, z, q _ (Keep.put h True.intro) upd_same⟩
theorem v_ext {l b : Addr} {xs ys : List V} (h : H l = some (.lst xs)) (h2 : H b = some (.lst ys)) (z : xs.length + ys.length ≤ sizeLine) (q : ∀ H', Keep [l] H H' → H' l = some (.lst (xs ++ ys)) → Q (.ref l) H') : rExt2 (.ref l) (.ref b) H Q :=
  ⟨l, b, xs, ys, rfl, rfl, h, h2, z, q _ (Keep.put h True.intro) upd_same⟩
theorem v_setL {l : Addr} {xs : List V} {i : Int} {v : V} {j : Nat} {R : Hp → Prop} (h : H l = some (.lst xs)) (e : ixN xs.length i = some j) (q : ∀ H', Keep [l] H H' → H' l = some (.lst (xs.set j v)) → R H') : rSetL (.ref l) (.int i) v H R :=
  ⟨l, xs, i, j, rfl, rfl, h, e, q _ (Keep.put h True.intro) upd_same⟩
theorem v_listOf {p : Addr} {xs : List V} (h : SqL K H p xs ∨ SqT K H p xs) (q : ∀ l H', H l = none → Keep [] H H' → H' l = some (.lst xs) → Q (.ref l) H') : rListOf K [.ref p] H Q :=
  ⟨p, xs, rfl, h, fun l hl => q l _ hl (Keep.new hl) upd_same⟩
theorem v_tupOf {p : Addr} {xs : List V} (h : SqL K H p xs) (q : ∀ l H', H l = none → Keep [] H H' → SqT K H' l xs → Q (.ref l) H') : kTup K (.ref p) H Q :=
  .inl ⟨p, xs, rfl, h, fun l hl => q l _ hl (Keep.new hl) (SqT.of upd_same)⟩
theorem s_sub {to ti : TE} {t : TSet} {v : V} {R : L2.St → Hp → Prop} (h : to σ H fun o H1 => ti σ H1 fun i H2 => t o i v H2 fun H3 => R σ H3) : gSub to ti t v σ H R := h
theorem s_aug {i : Nat} {te : TE} {ti : TIp} {x : V} (e : σ[i]? = some (some x)) (h : te σ H fun y H1 => ti x y H1 fun z H2 => D.nx (σ.set i (some z)) H2) : tAug i te ti D σ H := ⟨x, e, h⟩
theorem s_par {i j : Nat} {ta : TA} (h : ta σ H fun vs H1 => ∃ v w, vs = [v, w] ∧ D.nx ((σ.set i (some v)).set j (some w)) H1) : tPar i j ta D σ H := h
theorem v_par {x y : V} {P : V → V → Prop} (h : P x y) : ∃ v w, [x, y] = [v, w] ∧ P v w := ⟨x, y, rfl, h⟩
theorem s_tup3 {n : Nat} {t : TGs} {a : Addr} {xs : List V} {R : L2.St → Hp → Prop} (h : SqT K H a xs) (l : xs.length = n) (q : t xs σ H R) : gTup K n t (.ref a) σ H R := ⟨a, xs, rfl, h, l, q⟩
theorem s_gc {t : TG} {u : TGs} {v : V} {r : List V} {R : L2.St → Hp → Prop} (q : t v σ H fun σ' H' => u r σ' H' R) : gCons t u (v :: r) σ H R := ⟨v, r, rfl, q⟩
theorem s_gn {R : L2.St → Hp → Prop} (q : R σ H) : gNil [] σ H R := ⟨rfl, q⟩
theorem s_fs {ts : List TE} (h : tJs ts Str.empty σ H fun out H1 => Q (.str out) H1) : tFS ts σ H Q := h
theorem s_js {t : TE} {ts : List TE} {acc : Str} {R : Str → Hp → Prop} (h : t σ H fun x H1 => ∃ y : Str, x = .str y ∧ (acc ++ y).length ≤ sizeLine ∧ tJs ts (acc ++ y) σ H1 R) : tJs (t :: ts) acc σ H R := h
theorem s_js0 {acc : Str} {R : Str → Hp → Prop} (h : R acc H) : tJs [] acc σ H R := h
theorem v_js {y : Str} {P : Str → Prop} {q : Str → Prop} (l : P y) (h : q y) : ∃ z : Str, V.str y = .str z ∧ P z ∧ q z := ⟨y, rfl, l, h⟩
theorem s_fmt {te : TE} (h : te σ H fun x H1 => (∃ y : Str, x = .str y ∧ y.length ≤ sizeLine ∧ Q (.str y) H1) ∨ ∃ i : Int, x = .int i ∧ i.natAbs.log2 < 1920 ∧ Q (.str (toString i)) H1) : tFmt te σ H Q := h
theorem v_fmtS {y : Str} {P : Str → Prop} {R : Prop} (l : y.length ≤ sizeLine) (h : P y) : (∃ z : Str, V.str y = .str z ∧ z.length ≤ sizeLine ∧ P z) ∨ R := .inl ⟨y, rfl, l, h⟩
theorem v_isStr {y : Str} {P : Prop} (h : P) : (∃ z : Str, V.str y = .str z) ∧ P := ⟨⟨y, rfl⟩, h⟩
theorem v_tyL {a : Addr} {xs : List V} {P : Prop} (h : H a = some (.lst xs)) (q : P) : tyV K "list" (.ref a) H ∧ P := ⟨.inl ⟨rfl, xs, SqL.of h⟩, q⟩
theorem v_join {a : Str} {p : Addr} {ys : List Str} (h : SqL K H p (ys.map V.str)) (l : (ys.map (·.length)).sum + ys.length * a.length ≤ 16777216) (q : Q (.str (Txt.join a ys)) H) : rJoin K (.str a) [.ref p] H Q := ⟨a, p, ys, rfl, rfl, .inl h, l, q⟩
theorem s_iseqL {tl : TE} {R : It → Hp → Prop} (h : tl σ H fun x H1 => ∃ a, x = .ref a ∧ ((∃ xs, SqL K H1 a xs) ∧ R (Itl K a) H1 ∨ (∃ xs, SqT K H1 a xs) ∧ R (Itt K a) H1)) : iSeq K tl σ H R := h
theorem v_itL {a : Addr} {xs : List V} {A : Addr → Prop} {B : Addr → Prop} {C : Addr → Prop} {P : Addr → Prop} (h : SqL K H a xs) (q : P a) : ∃ b, V.ref a = .ref b ∧ ((∃ xs, SqL K H b xs) ∧ P b ∨ B b) := ⟨a, rfl, .inl ⟨⟨xs, h⟩, q⟩⟩
theorem v_itT {a : Addr} {xs : List V} {A P : Addr → Prop} (h : SqT K H a xs) (q : P a) : ∃ b, V.ref a = .ref b ∧ (A b ∨ (∃ xs, SqT K H b xs) ∧ P b) := ⟨a, rfl, .inr ⟨⟨xs, h⟩, q⟩⟩
theorem s_match {te : TE} {cs : List (Option (List PEl) × TS)} (h : te σ H fun x H1 => ∃ a xs, x = .ref a ∧ SqT K H1 a xs ∧ tCases cs xs D σ H1) : tMatch K te cs D σ H := h
theorem v_match {a : Addr} {xs : List V} {P : List V → Prop} (h : SqT K H a xs) (q : P xs) : ∃ b ys, V.ref a = .ref b ∧ SqT K H b ys ∧ P ys := ⟨a, xs, rfl, h, q⟩
theorem c_no {es : List PEl} {t : TS} {r : List (Option (List PEl) × TS)} {xs : List V} (e : es.length ≠ xs.length) (h : tCases r xs D σ H) : tCases ((some es, t) :: r) xs D σ H := by
  unfold tCases; rw [if_neg e]; exact h
theorem c_miss {es : List PEl} {t : TS} {r : List (Option (List PEl) × TS)} {xs : List V} (e : es.length = xs.length) (o : litOk es xs) (z : pmV es xs = none) (h : tCases r xs D σ H) : tCases ((some es, t) :: r) xs D σ H := by
  unfold tCases; rw [if_pos e, z]; exact ⟨o, h⟩
theorem c_hit {es : List PEl} {t : TS} {r : List (Option (List PEl) × TS)} {xs : List V} {bs : List (Nat × V)} (e : es.length = xs.length) (o : litOk es xs) (z : pmV es xs = some bs) (h : t D (bindsV σ bs) H) : tCases ((some es, t) :: r) xs D σ H := by
  unfold tCases; rw [if_pos e, z]; exact ⟨o, h⟩
theorem c_end {xs : List V} (h : D.nx σ H) : tCases [] xs D σ H := h
end
end M


namespace M
open PySem
/-! ### expressions and statements as data -/
inductive Ex where
  | int (i : Int) | nm (n : Str) | of (n a : Str) | bin (s : Bool) (l r : Ex)
  deriving DecidableEq
def opW (s : Bool) : Str := if s then "sum" else "less"
def Ex.d : Ex → PyData
  | .int i => .int i
  | .nm n => .tuple [.str "name", .str n]
  | .of n a => .tuple [.str "of", .str n, .str a]
  | .bin s l r => .tuple [.str (opW s), l.d, r.d]
inductive Stm where
  | set (n : Str) (e : Ex) | del (n : Str) | shw (e : Ex) | call (e : Ex) | raise
  | imp (m n : Str) | frm (m w n : Str) | star (m : Str)
  | fn (n : Str) (b : List Stm) | ite (e : Ex) (b o : List Stm) | tri (k : Str) (b h : List Stm)
mutual
def Stm.d : Stm → PyData
  | .set n e => .tuple [.str "set", .str n, e.d]
  | .del n => .tuple [.str "del", .str n]
  | .shw e => .tuple [.str "show", e.d]
  | .call e => .tuple [.str "call", e.d]
  | .raise => .tuple [.str "raise"]
  | .imp m n => .tuple [.str "\x69mport", .str m, .str n]
  | .frm m w n => .tuple [.str "from", .str m, .str w, .str n]
  | .star m => .tuple [.str "star", .str m]
  | .fn n b => .tuple [.str "def", .str n, .tuple (blkD b)]
  | .ite e b o => .tuple [.str "if", e.d, .tuple (blkD b), .tuple (blkD o)]
  | .tri k b h => .tuple [.str "try", .str k, .tuple (blkD b), .tuple (blkD h)]
def blkD : List Stm → List PyData
  | [] => []
  | s :: r => s.d :: blkD r
end
theorem blkD_map : ∀ b : List Stm, blkD b = b.map Stm.d
  | [] => by simp [blkD]
  | s :: r => by simp [blkD, blkD_map r]
def Ex.dep : Ex → Nat
  | .bin _ l r => max l.dep r.dep + 1
  | _ => 0
mutual
def Stm.dep : Stm → Nat
  | .fn _ b => depL b + 1
  | .ite _ b o => max (depL b) (depL o) + 1
  | .tri _ b h => max (depL b) (depL h) + 1
  | _ => 0
def depL : List Stm → Nat
  | [] => 0
  | s :: r => max s.dep (depL r)
end
/-! ### the text -/
def Ex.txt : Ex → Str
  | .int i => (toString i : String)
  | .nm n => n
  | .of n a => n ++ "." ++ a
  | .bin s l r => "(" ++ l.txt ++ (if s then " + " else " < ") ++ r.txt ++ ")"
def Stm.head : Stm → Str
  | .set n e => "set " ++ n ++ " = " ++ e.txt
  | .del n => "del " ++ n
  | .shw e => "show" ++ " " ++ e.txt
  | .call e => "call" ++ " " ++ e.txt
  | .raise => "raise"
  | .imp m n => "\x69mport " ++ m ++ " as " ++ n
  | .frm m w n => "from " ++ m ++ " \x69mport " ++ w ++ " as " ++ n
  | .star m => "from " ++ m ++ " \x69mport *"
  | .fn n _ => "def" ++ " " ++ n ++ ":"
  | .ite e _ _ => "if " ++ e.txt ++ ":"
  | .tri k _ _ => "try" ++ " " ++ k ++ ":"
mutual
def Stm.lines (ind : Str) : Stm → List Str
  | .fn n b => [ind ++ (Stm.fn n b).head] ++ inner (ind ++ "  ") b
  | .ite e b o => [ind ++ (Stm.ite e b o).head] ++ inner (ind ++ "  ") b ++ [ind ++ "else:"] ++ inner (ind ++ "  ") o
  | .tri k b h => [ind ++ (Stm.tri k b h).head] ++ inner (ind ++ "  ") b ++ [ind ++ "except:"] ++ inner (ind ++ "  ") h
  | .set n e => [ind ++ (Stm.set n e).head]
  | .del n => [ind ++ (Stm.del n).head]
  | .shw e => [ind ++ (Stm.shw e).head]
  | .call e => [ind ++ (Stm.call e).head]
  | .raise => [ind ++ Stm.raise.head]
  | .imp m n => [ind ++ (Stm.imp m n).head]
  | .frm m w n => [ind ++ (Stm.frm m w n).head]
  | .star m => [ind ++ (Stm.star m).head]
def inner (ind : Str) : List Stm → List Str
  | [] => [ind ++ "pass"]
  | s :: r => s.lines ind ++ linesL ind r
def linesL (ind : Str) : List Stm → List Str
  | [] => []
  | s :: r => s.lines ind ++ linesL ind r
end
theorem inner_cons (ind : Str) (b : List Stm) (h : b ≠ []) : inner ind b = linesL ind b := by
  cases b with
  | nil => exact absurd rfl h
  | cons s r => simp [inner, linesL]
theorem linesL_append (ind : Str) : ∀ (a b : List Stm), linesL ind (a ++ b) = linesL ind a ++ linesL ind b
  | [], b => by simp [linesL]
  | s :: r, b => by simp [linesL, linesL_append ind r b]
/-- ints that have a text -/
def Ex.fits : Ex → Prop
  | .int i => i.natAbs.log2 < 1920
  | .bin _ l r => l.fits ∧ r.fits
  | _ => True
mutual
def Stm.fits : Stm → Prop
  | .set _ e => e.fits ∧ e.dep < 10
  | .shw e => e.fits ∧ e.dep < 10
  | .call e => e.fits ∧ e.dep < 10
  | .ite e b o => (e.fits ∧ e.dep < 10) ∧ fitsL b ∧ fitsL o
  | .fn _ b => fitsL b
  | .tri _ b h => fitsL b ∧ fitsL h
  | _ => True
def fitsL : List Stm → Prop
  | [] => True
  | s :: r => s.fits ∧ fitsL r
end
theorem fitsL_get : ∀ {b : List Stm} {i : Nat} {s : Stm}, fitsL b → b[i]? = some s → s.fits
  | [], _, _, _, e => by simp at e
  | t :: r, 0, s, h, e => by simp only [List.getElem?_cons_zero, Option.some.injEq] at e; subst e; simp only [fitsL] at h; exact h.1
  | t :: r, i + 1, s, h, e => by simp only [List.getElem?_cons_succ] at e; simp only [fitsL] at h; exact fitsL_get h.2 e
theorem depL_get : ∀ {b : List Stm} {i : Nat} {s : Stm}, b[i]? = some s → s.dep ≤ depL b
  | [], _, _, e => by simp at e
  | t :: r, 0, s, e => by simp only [List.getElem?_cons_zero, Option.some.injEq] at e; subst e; simp only [depL]; omega
  | t :: r, i + 1, s, e => by simp only [List.getElem?_cons_succ] at e; simp only [depL]; have := depL_get e; omega
/-- few and short lines -/
def Small (ls : List Str) : Prop := ls.length ≤ 4000 ∧ ∀ l ∈ ls, l.length ≤ 4000
theorem Small.left {a b : List Str} (h : Small (a ++ b)) : Small a := ⟨by have := h.1; simp at this; omega, fun l m => h.2 l (by simp [m])⟩
theorem Small.right {a b : List Str} (h : Small (a ++ b)) : Small b := ⟨by have := h.1; simp at this; omega, fun l m => h.2 l (by simp [m])⟩
theorem lines_split (ind : Str) {b : List Stm} {i : Nat} {s : Stm} (e : b[i]? = some s) : linesL ind b = linesL ind (b.take i) ++ (s.lines ind ++ linesL ind (b.drop (i + 1))) := by
  have h : b = b.take i ++ (s :: b.drop (i + 1)) := by
    obtain ⟨hi, e2⟩ := List.getElem?_eq_some_iff.mp e
    rw [← e2, ← List.drop_eq_getElem_cons hi, List.take_append_drop]
  conv => lhs; rw [h]
  rw [linesL_append]
  simp [linesL]
theorem lines_take (ind : Str) {b : List Stm} {i : Nat} {s : Stm} (e : b[i]? = some s) : linesL ind (b.take (i + 1)) = linesL ind (b.take i) ++ s.lines ind := by
  obtain ⟨hi, e2⟩ := List.getElem?_eq_some_iff.mp e
  rw [List.take_add_one, e, linesL_append]
  simp [linesL]
theorem blkD_get : ∀ {b : List Stm} {i : Nat} {d : PyData}, (blkD b)[i]? = some d → ∃ s, b[i]? = some s ∧ d = s.d
  | [], _, _, e => by simp [blkD] at e
  | t :: r, 0, d, e => by simp only [blkD, List.getElem?_cons_zero, Option.some.injEq] at e; exact ⟨t, by simp, e.symm⟩
  | t :: r, i + 1, d, e => by simp only [blkD, List.getElem?_cons_succ] at e; obtain ⟨s, h1, h2⟩ := blkD_get e; exact ⟨s, by simpa using h1, h2⟩
theorem blkD_length (b : List Stm) : (blkD b).length = b.length := by rw [blkD_map, List.length_map]
theorem str_e (x : Str) : Str.empty ++ x = x := by
  show (⟨#[] ++ x.cps⟩ : Str) = x
  simp
theorem str_len (a b : Str) : (a ++ b).length = a.length + b.length := Str.length_append a b
theorem sl_eq : sizeLine = 16777216 := rfl
end M


namespace M
open PySem PySem.Spec PyProof.Rows L2
section
variable {X : Cx}
/-- {x}, a text -/
def tFmtS (te : TE) : TE := fun σ H Q => te σ H fun x H1 => ∃ y : Str, x = .str y ∧ y.length ≤ sizeLine ∧ Q (.str y) H1
theorem pe_fmtS {e : Expr} {te : TE} {pos : Pos} (he : PE X e te) : PE X (.FormattedValue e (-1) none pos) (tFmtS te) := by
  refine ⟨fun pins s σ H Q I h => ?_⟩
  refine wpAny_FormattedValue_plain (thn (he.run pins s σ H _ I h) fun v s1 hv => ?_)
  obtain ⟨x, H1, I1, r1, q⟩ := hv
  obtain ⟨y, rfl, hz, q⟩ := q
  obtain ⟨t, rfl⟩ := r1
  exact wpAny_formatField_str ⟨.str y, H1, I1, ⟨t, rfl⟩, q⟩ ⟨.str y, H1, I1.tok _, ⟨_, rfl⟩, q⟩ hz
/-- x in xs, texts -/
def rInX (K : PySem.W.Frag) : R2 := fun x y H Q => rIn K false x y H Q ∨ (∃ (c : Nat) (z : Str), x = .str ⟨#[c]⟩ ∧ y = .str z ∧ Q (.bl (decide (c ∈ z.cps.toList))) H)
theorem op_inX : OpR X (compareOp .In) (rInX X.K) := OpR.or op_in_seq op_in_sign
def rNotInX (K : PySem.W.Frag) : R2 := fun x y H Q => rIn K true x y H Q ∨ (∃ (c : Nat) (z : Str), x = .str ⟨#[c]⟩ ∧ y = .str z ∧ Q (.bl (!decide (c ∈ z.cps.toList))) H)
theorem op_notInX : OpR X (compareOp .NotIn) (rNotInX X.K) := OpR.or op_notIn_seq op_notIn_sign
/-- op= -/
def rAddIp : TIp := fun x y H Q => (rI0 fun i j => .int (i + j)) x y H Q ∨ rExt2 x y H Q
theorem ip_addX : PIp X .Add rAddIp := OpR.or iop_add iop_ext
end
theorem inV_strs (x : Str) : ∀ l : List Str, inV (.str x) (l.map V.str) = decide (x ∈ l)
  | [] => by simp [inV]
  | y :: r => by
    have ih := inV_strs x r
    have e1 : inV (.str x) ((y :: r).map V.str) = (eqV (.str y) (.str x) || inV (.str x) (r.map V.str)) := rfl
    have e2 : eqV (.str y) (.str x) = decide (x = y) := by
      show (y == x) = _
      by_cases e : x = y
      · subst e; simp
      · have e2 : ¬ y = x := fun z => e z.symm
        simp [e, e2]
    rw [e1, ih, e2]
    simp only [List.mem_cons, Bool.decide_or]
theorem flat_strs : ∀ l : List Str, (l.map V.str).all flatV = true
  | [] => rfl
  | y :: r => by simp [flatV, flat_strs r]
/-! ### readings as equations -/
section
variable {K : PySem.W.Frag} {σ : L2.St} {H : Hp} {Q : VK} {D : Ends}
def csO (o : Option (List (Nat × V))) (t : TS) (D : Ends) (σ : L2.St) (H : Hp) (R : Prop) : Prop := match o with
  | some bs => t D (bindsV σ bs) H
  | none => R
def Nx (u : TS) (D : Ends) : L2.St → Hp → Prop := u D
theorem q_seq {t u : TS} (h : t { D with nx := Nx u D } σ H) : tSeq t u D σ H := h
theorem q_nx {u : TS} (h : u D σ H) : Nx u D σ H := h
theorem q_var0 {v : V} : tVar 0 (some v :: σ) H Q = Q v H := by
  apply propext
  constructor
  · rintro ⟨w, e, h⟩; simp at e; subst e; exact h
  · exact fun h => ⟨v, rfl, h⟩
theorem q_varS {i : Nat} {x : Option V} : tVar (i + 1) (x :: σ) H Q = tVar i σ H Q := by
  unfold tVar; simp
theorem q_c {v : V} : tC v σ H Q = Q v H := rfl
theorem q_op {r : R2} {ta tb : TE} : tOp r ta tb σ H Q = ta σ H fun x H1 => tb σ H1 fun y H2 => r x y H2 Q := rfl
theorem q_un {r : V → Hp → VK → Prop} {ta : TE} : tUn r ta σ H Q = ta σ H fun x H1 => r x H1 Q := rfl
theorem q_cb {r : List V → Hp → VK → Prop} {t : TA} : tCB r t σ H Q = t σ H fun vs H1 => r vs H1 Q := rfl
theorem q_call {sp : Sp} {E : XK} {t : TA} : tCall sp [] E t σ H Q = t σ H fun vs H1 => sp vs H1 Q E := by
  show (t σ H fun vs H1 => sp (vs ++ []) H1 Q E) = _
  have e : (fun vs H1 => sp (vs ++ []) H1 Q E) = fun vs H1 => sp vs H1 Q E := by funext vs H1; rw [List.append_nil]
  rw [e]
theorem q_nil {R : List V → Hp → Prop} : tNil σ H R = R [] H := rfl
theorem q_cons {ta : TE} {tr : TA} {R : List V → Hp → Prop} : tCons ta tr σ H R = ta σ H fun x H1 => tr σ H1 fun xs H2 => R (x :: xs) H2 := rfl
theorem q_if {c : TT} {ta tb : TE} : tIf c ta tb σ H Q = c σ H fun b H1 => if b = true then ta σ H1 Q else tb σ H1 Q := rfl
theorem q_test {t : TE} {R : Bool → Hp → Prop} : tTest t σ H R = t σ H fun x H' => ∃ k, x = .bl k ∧ R k H' := rfl
theorem q_tB {t : TE} {R : Bool → Hp → Prop} : tB t σ H R = t σ H fun x H1 => ∃ c, x = .bl c ∧ R c H1 := rfl
theorem q_bl {b : Bool} {P : Bool → Prop} : (∃ k, V.bl b = .bl k ∧ P k) = P b := by
  apply propext; constructor
  · rintro ⟨k, e, h⟩; cases e; exact h
  · exact fun h => ⟨b, rfl, h⟩
theorem q_and {t u : TT} {R : Bool → Hp → Prop} : tAnd t u σ H R = t σ H fun c H1 => if c = true then u σ H1 R else R false H1 := rfl
theorem q_or {t u : TT} {R : Bool → Hp → Prop} : tOr t u σ H R = t σ H fun c H1 => if c = true then R true H1 else u σ H1 R := rfl
theorem q_not {t : TT} {R : Bool → Hp → Prop} : tNot t σ H R = t σ H fun c H1 => R (!c) H1 := rfl
theorem q_andV {ta tb : TE} : tAndV ta tb σ H Q = ta σ H fun x H1 => ∃ c, x = .bl c ∧ if c = true then tb σ H1 Q else Q (.bl false) H1 := rfl
theorem q_orV {ta tb : TE} : tOrV ta tb σ H Q = ta σ H fun x H1 => ∃ c, x = .bl c ∧ if c = true then Q (.bl true) H1 else tb σ H1 Q := rfl
theorem q_notV {ta : TE} : tNotV ta σ H Q = ta σ H fun x H1 => ∃ c, x = .bl c ∧ Q (.bl (!c)) H1 := rfl
theorem q_asg {te : TE} {g : TG} : tAsg te g D σ H = te σ H fun x H1 => g x σ H1 D.nx := rfl
theorem q_gN {i : Nat} {v : V} {R : L2.St → Hp → Prop} : gName i v σ H R = R (σ.set i (some v)) H := rfl
theorem q_ret {te : TE} : tRet te D σ H = te σ H D.rt := rfl
theorem q_retN : tRetN D σ H = D.rt .non H := rfl
theorem q_ifS {c : TT} {t u : TS} : tIfS c t u D σ H = c σ H fun b H1 => if b = true then t D σ H1 else u D σ H1 := rfl
theorem q_drop {te : TE} : tDrop te D σ H = te σ H fun _ H1 => D.nx σ H1 := rfl
theorem q_next : tNext D σ H = D.nx σ H := rfl
theorem q_then {ta : TE} {k : V → Hp → VK → Prop} : tThen ta k σ H Q = ta σ H fun x H1 => k x H1 Q := rfl
theorem q_tupX {t : TA} : tTupX K t σ H Q = t σ H fun xs H1 => mkT K xs H1 Q := rfl
theorem q_lstX {t : TA} : tLstX t σ H Q = t σ H fun xs H1 => mkL xs H1 Q := rfl
theorem q_sub {to ti : TE} {t : TSet} {v : V} {R : L2.St → Hp → Prop} : gSub to ti t v σ H R = to σ H fun o H1 => ti σ H1 fun i H2 => t o i v H2 fun H3 => R σ H3 := rfl
theorem q_par {i j : Nat} {ta : TA} : tPar i j ta D σ H = ta σ H fun vs H1 => ∃ v w, vs = [v, w] ∧ D.nx ((σ.set i (some v)).set j (some w)) H1 := rfl
theorem q_par1 {x y : V} {P : V → V → Prop} : (∃ v w, [x, y] = [v, w] ∧ P v w) = P x y := by
  apply propext; constructor
  · rintro ⟨v, w, e, h⟩; cases e; exact h
  · exact fun h => ⟨x, y, rfl, h⟩
theorem q_par3 {i j l : Nat} {ta : TA} : tPar3 i j l ta D σ H = ta σ H fun vs H1 => ∃ u v w, vs = [u, v, w] ∧ D.nx (((σ.set i (some u)).set j (some v)).set l (some w)) H1 := rfl
theorem q_par31 {x y z : V} {P : V → V → V → Prop} : (∃ u v w, [x, y, z] = [u, v, w] ∧ P u v w) = P x y z := by
  apply propext; constructor
  · rintro ⟨u, v, w, e, h⟩; cases e; exact h
  · exact fun h => ⟨x, y, z, rfl, h⟩
theorem q_M1 {r : V → List V → Hp → VK → Prop} {to te : TE} : tM1 r to te σ H Q = to σ H fun x H1 => (∃ a, x = .str a) ∧ te σ H1 fun y H2 => r x [y] H2 Q := rfl
theorem q_isStr {y : Str} : (∃ z : Str, V.str y = .str z) = True := eq_true ⟨y, rfl⟩
theorem q_BM {T : String} {r : V → List V → Hp → VK → Prop} {to : TE} {t : TA} : tBM K T r to t σ H Q = to σ H fun x H1 => tyV K T x H1 ∧ t σ H1 fun xs H2 => r x xs H2 Q := rfl
theorem q_fs {ts : List TE} : tFS ts σ H Q = tJs ts Str.empty σ H fun out H1 => Q (.str out) H1 := rfl
theorem q_js {t : TE} {ts : List TE} {acc : Str} {R : Str → Hp → Prop} : tJs (t :: ts) acc σ H R = t σ H fun x H1 => ∃ y : Str, x = .str y ∧ (acc ++ y).length ≤ sizeLine ∧ tJs ts (acc ++ y) σ H1 R := rfl
theorem q_js0 {acc : Str} {R : Str → Hp → Prop} : tJs [] acc σ H R = R acc H := rfl
theorem q_js1 {y : Str} {P : Str → Prop} : (∃ z : Str, V.str y = .str z ∧ P z) = P y := by
  apply propext; constructor
  · rintro ⟨k, e, h⟩; cases e; exact h
  · exact fun h => ⟨y, rfl, h⟩
theorem q_fmt {te : TE} : tFmt te σ H Q = te σ H fun x H1 => (∃ y : Str, x = .str y ∧ y.length ≤ sizeLine ∧ Q (.str y) H1) ∨ ∃ i : Int, x = .int i ∧ i.natAbs.log2 < 1920 ∧ Q (.str (toString i : String)) H1 := rfl
theorem q_fmtS {te : TE} : tFmtS te σ H Q = te σ H fun x H1 => ∃ y : Str, x = .str y ∧ y.length ≤ sizeLine ∧ Q (.str y) H1 := rfl
theorem v_inT {x : Str} {a : Addr} {l : List Str} (h : SqT K H a (l.map V.str)) (q : Q (.bl (decide (x ∈ l))) H) : rInX K (.str x) (.ref a) H Q := .inl ⟨a, _, rfl, .inr h, rfl, flat_strs l, by simpa [inV_strs] using q⟩
theorem v_inL {x : Str} {a : Addr} {l : List Str} (h : SqL K H a (l.map V.str)) (q : Q (.bl (decide (x ∈ l))) H) : rInX K (.str x) (.ref a) H Q := .inl ⟨a, _, rfl, .inl h, rfl, flat_strs l, by simpa [inV_strs] using q⟩
theorem v_ninT {x : Str} {a : Addr} {l : List Str} (h : SqT K H a (l.map V.str)) (q : Q (.bl (!decide (x ∈ l))) H) : rNotInX K (.str x) (.ref a) H Q := .inl ⟨a, _, rfl, .inr h, rfl, flat_strs l, by simpa [inV_strs] using q⟩
theorem v_ninL {x : Str} {a : Addr} {l : List Str} (h : SqL K H a (l.map V.str)) (q : Q (.bl (!decide (x ∈ l))) H) : rNotInX K (.str x) (.ref a) H Q := .inl ⟨a, _, rfl, .inl h, rfl, flat_strs l, by simpa [inV_strs] using q⟩
theorem v_in2 {x a b : Str} {p : Addr} (h : SqT K H p [.str a, .str b]) (q : Q (.bl (decide (x = a) || decide (x = b))) H) : rInX K (.str x) (.ref p) H Q :=
  v_inT (l := [a, b]) h (by simpa [Bool.decide_or] using q)
theorem v_in3 {x a b c : Str} {p : Addr} (h : SqT K H p [.str a, .str b, .str c]) (q : Q (.bl (decide (x = a) || decide (x = b) || decide (x = c))) H) : rInX K (.str x) (.ref p) H Q :=
  v_inT (l := [a, b, c]) h (by simpa [Bool.decide_or, Bool.or_assoc] using q)
theorem v_ipL {l b : Addr} {xs ys : List V} (h : H l = some (.lst xs)) (h2 : H b = some (.lst ys)) (z : xs.length + ys.length ≤ sizeLine) (q : ∀ H', Keep [l] H H' → H' l = some (.lst (xs ++ ys)) → Q (.ref l) H') : rAddIp (.ref l) (.ref b) H Q := .inr (v_ext h h2 z q)
theorem v_ipI {i j : Int} (q : Q (.int (i + j)) H) : rAddIp (.int i) (.int j) H Q := .inl ⟨i, j, rfl, rfl, q⟩
theorem q_aug {i : Nat} {te : TE} {ti : TIp} : tAug i te ti D σ H = ∃ x, σ[i]? = some (some x) ∧ te σ H fun y H1 => ti x y H1 fun z H2 => D.nx (σ.set i (some z)) H2 := rfl
theorem q_get {v : V} {P : V → Prop} : (∃ x, some (some v) = some (some x) ∧ P x) = P v := by
  apply propext; constructor
  · rintro ⟨x, e, h⟩; cases e; exact h
  · exact fun h => ⟨v, rfl, h⟩
theorem q_fmt1 {y : Str} {P : Str → Prop} {P2 : Int → Prop} : ((∃ z : Str, V.str y = .str z ∧ P z) ∨ ∃ i : Int, V.str y = .int i ∧ P2 i) = P y := by
  apply propext; constructor
  · rintro (⟨k, e, h⟩ | ⟨i, e, _⟩)
    · cases e; exact h
    · cases e
  · exact fun h => .inl ⟨y, rfl, h⟩
theorem q_iseq {tl : TE} {R : It → Hp → Prop} : iSeq K tl σ H R = tl σ H fun x H1 => ∃ a, x = .ref a ∧ ((∃ xs, SqL K H1 a xs) ∧ R (Itl K a) H1 ∨ (∃ xs, SqT K H1 a xs) ∧ R (Itt K a) H1) := rfl
theorem q_ref {a : Addr} {P : Addr → Prop} : (∃ b, V.ref a = .ref b ∧ P b) = P a := by
  apply propext; constructor
  · rintro ⟨k, e, h⟩; cases e; exact h
  · exact fun h => ⟨a, rfl, h⟩
theorem q_match {te : TE} {cs : List (Option (List PEl) × TS)} : tMatch K te cs D σ H = te σ H fun x H1 => ∃ a xs, x = .ref a ∧ SqT K H1 a xs ∧ tCases cs xs D σ H1 := rfl
theorem q_yes {R : Bool → Hp → Prop} : tYes σ H R = R true H := rfl
theorem q_iteT {A B : Prop} : (if true = true then A else B) = A := by simp
theorem q_iteF {A B : Prop} : (if false = true then A else B) = B := by simp
theorem ite_and {p q A T : Prop} [Decidable p] [Decidable q] (ha : p → q → A) (t : T) : if decide p = true then (if decide q = true then A else T) else T := by
  by_cases hp : p
  · refine ite_d hp ?_
    by_cases hq : q
    · exact ite_d hq (ha hp hq)
    · exact ite_n hq t
  · exact ite_n hp t
theorem q_set0 {α : Type} {x y : α} {l : List α} : (x :: l).set 0 y = y :: l := rfl
theorem q_setS {α : Type} {x y : α} {l : List α} {i : Nat} : (x :: l).set (i + 1) y = x :: l.set i y := rfl
theorem map_toNat_inj : ∀ {a b : List Char}, a.map Char.toNat = b.map Char.toNat → a = b
  | [], [], _ => rfl
  | [], _ :: _, h => by simp at h
  | _ :: _, [], h => by simp at h
  | x :: a, y :: b, h => by
    simp only [List.map_cons, List.cons.injEq] at h
    rw [map_toNat_inj h.2, Char.ext (UInt32.toNat_inj.mp h.1)]
theorem q_lit {a b : String} : (Str.ofString a = Str.ofString b) = (a = b) := by
  apply propext; constructor
  · intro h
    rw [Str.ofString_eq_toList, Str.ofString_eq_toList] at h
    have h2 := congrArg (fun s : Str => s.cps.toList) h
    simp only at h2
    exact String.toList_inj.mp (map_toNat_inj h2)
  · exact fun h => by rw [h]
/-! loops -/
def LoopX (J : It) (g : TG) (tb : TS) (D : Ends) (σ : L2.St) (H : Hp) : Prop := ∃ W : Nat → Nat → L2.St → Hp → Prop, (∃ m, W 0 m σ H) ∧ ∀ i m σ H, W i m σ H →
  (J.stop i H ∧ D.nx σ H) ∨ (J.go i H ∧ ∃ N : L2.St → Hp → Prop, (∀ σ' H', N σ' H' → ∃ m', m' < m ∧ W (i + 1) m' σ' H') ∧ ∀ x H', J.yld i H x H' → g x σ H' fun σ2 H2 => tb { D with nx := N, ct := N, bk := D.nx } σ2 H2)
theorem q_for {wi : TI} {g : TG} {tb : TS} : tFor wi g tb D σ H = wi σ H fun J H1 => LoopX J g tb D σ H1 := rfl
theorem loop_T {a : Addr} {xs : List V} {g : TG} {tb : TS} (Pv : Nat → L2.St → Hp → Prop) (h0 : Pv 0 σ H) (hl : ∀ i σ H, i ≤ xs.length → Pv i σ H → SqT K H a xs)
    (hs : ∀ i x σ H, xs[i]? = some x → Pv i σ H → g x σ H fun σ2 H2 => tb { D with nx := Pv (i + 1), ct := Pv (i + 1), bk := D.nx } σ2 H2) (hd : ∀ σ H, Pv xs.length σ H → D.nx σ H) : LoopX (Itt K a) g tb D σ H := for_tup Pv h0 hl hs hd
theorem loop_L {a : Addr} {xs : List V} {g : TG} {tb : TS} (Pv : Nat → L2.St → Hp → Prop) (h0 : Pv 0 σ H) (hl : ∀ i σ H, i ≤ xs.length → Pv i σ H → SqL K H a xs)
    (hs : ∀ i x σ H, xs[i]? = some x → Pv i σ H → g x σ H fun σ2 H2 => tb { D with nx := Pv (i + 1), ct := Pv (i + 1), bk := D.nx } σ2 H2) (hd : ∀ σ H, Pv xs.length σ H → D.nx σ H) : LoopX (Itl K a) g tb D σ H := for_list Pv h0 hl hs hd
theorem loop_R {lo : Int} {n : Nat} {g : TG} {tb : TS} (Pv : Nat → L2.St → Hp → Prop) (h0 : Pv 0 σ H)
    (hs : ∀ i σ H, i < n → Pv i σ H → g (.int (lo + i)) σ H fun σ2 H2 => tb { D with nx := Pv (i + 1), ct := Pv (i + 1), bk := D.nx } σ2 H2) (hd : ∀ σ H, Pv n σ H → D.nx σ H) : LoopX (Itr lo n) g tb D σ H := for_range Pv h0 hs hd
theorem q_rng1 {ta : TA} {R : It → Hp → Prop} : iRng1 ta σ H R = ta σ H fun vs H1 => ∃ j : Int, vs = [.int j] ∧ -(2 ^ 62) ≤ j ∧ j < 2 ^ 62 ∧ R (Itr 0 j.toNat) H1 := rfl
theorem q_one {i : Int} {P : Int → Prop} : (∃ j, [V.int i] = [.int j] ∧ P j) = P i := by
  apply propext; constructor
  · rintro ⟨j, e, h⟩; cases e; exact h
  · exact fun h => ⟨i, rfl, h⟩
/-! comprehensions -/
def CompX (J : It) (g : TG) (tt : TT) (te : TE) (vs : List Nat) (σ : L2.St) (H1 : Hp) (Q : VK) : Prop := ∀ D, H1 D = none → ∃ W : Nat → Nat → Hp → Prop, (∃ m, W 0 m (upd H1 D (.lst []))) ∧ ∀ i m H, W i m H →
  (J.stop i H ∧ Q (.ref D) H) ∨ (J.go i H ∧ ∃ Nx : Hp → Prop, (∀ H', Nx H' → ∃ m', m' < m ∧ W (i + 1) m' H') ∧ ∀ x H', J.yld i H x H' → g x (wipe σ vs) H' fun σ2 H2 => wipe σ2 vs = wipe σ vs ∧ tt σ2 H2 fun b H3 =>
    if b = true then te σ2 H3 fun y H4 => ∃ acc, H4 D = some (.lst acc) ∧ acc.length < sizeLine ∧ Nx (upd H4 D (.lst (acc ++ [y]))) else Nx H3)
theorem q_lc {wi : TI} {g : TG} {tt : TT} {te : TE} {vs : List Nat} : tLc wi g tt te vs σ H Q = wi σ H fun J H1 => CompX J g tt te vs σ H1 Q := rfl
/-- what is wanted of a turn's element: it is laid at the end of D -/
def Laid (D : Addr) (R : Hp → List V → Prop) (y : V) (H4 : Hp) : Prop := ∃ acc, H4 D = some (.lst acc) ∧ acc.length < sizeLine ∧ ∀ H5, Keep [D] H4 H5 → H5 D = some (.lst (acc ++ [y])) → R H5 (acc ++ [y])
theorem comp_gen {J : It} {g : TG} {tt : TT} {te : TE} {vs : List Nat} (n : Nat) (Pv : Addr → Nat → Hp → Prop) (h0 : ∀ D H2, H D = none → Keep [] H H2 → H2 D = some (.lst []) → Pv D 0 H2)
    (hstop : ∀ D H2, Pv D n H2 → J.stop n H2) (hgo : ∀ D i H2, i < n → Pv D i H2 → J.go i H2)
    (hs : ∀ D i H2 x H3, H D = none → i < n → Pv D i H2 → J.yld i H2 x H3 → g x (wipe σ vs) H3 fun σ2 H4 => wipe σ2 vs = wipe σ vs ∧ tt σ2 H4 fun b H5 =>
      if b = true then te σ2 H5 fun y H6 => ∃ acc, H6 D = some (.lst acc) ∧ acc.length < sizeLine ∧ Pv D (i + 1) (upd H6 D (.lst (acc ++ [y]))) else Pv D (i + 1) H5)
    (hd : ∀ D H2, H D = none → Pv D n H2 → Q (.ref D) H2) : CompX J g tt te vs σ H Q := by
  intro D hD
  refine ⟨fun i m H2 => m = n - i ∧ i ≤ n ∧ Pv D i H2, ⟨n, by simp, Nat.zero_le _, h0 D _ hD (Keep.new hD) upd_same⟩, ?_⟩
  rintro i m H2 ⟨rfl, hi, p⟩
  by_cases hlt : i < n
  · exact .inr ⟨hgo D i H2 hlt p, Pv D (i + 1), fun H' p' => ⟨n - (i + 1), by omega, rfl, hlt, p'⟩, fun x H3 y => hs D i H2 x H3 hD hlt p y⟩
  · have e : i = n := by omega
    subst e
    exact .inl ⟨hstop D H2 p, hd D H2 hD p⟩
theorem q_wp0 {σ : L2.St} : wipe σ [] = σ := rfl
theorem q_wpS {σ : L2.St} {v : Nat} {vs : List Nat} : wipe σ (v :: vs) = (wipe σ vs).set v none := rfl
/-! cases -/
theorem q_cs0 {xs : List V} : tCases [] xs D σ H = D.nx σ H := rfl
theorem q_csN {t : TS} {r : List (Option (List PEl) × TS)} {xs : List V} : tCases ((none, t) :: r) xs D σ H = t D σ H := rfl
theorem q_cs {es : List PEl} {t : TS} {r : List (Option (List PEl) × TS)} {xs : List V} : tCases ((some es, t) :: r) xs D σ H = if es.length = xs.length then litOk es xs ∧ csO (pmV es xs) t D σ H (tCases r xs D σ H) else tCases r xs D σ H := by
  conv => lhs; unfold tCases
  unfold csO
  cases pmV es xs <;> rfl
theorem q_csO {bs : List (Nat × V)} {t : TS} {R : Prop} : csO (some bs) t D σ H R = t D (bindsV σ bs) H := rfl
theorem q_csM {t : TS} {R : Prop} : csO none t D σ H R = R := rfl
theorem q_pm0 {vs : List V} : pmV [] vs = some [] := by unfold pmV; rfl
theorem q_pmL {x y : Str} {ps : List PEl} {vs : List V} : pmV (.lit x :: ps) (.str y :: vs) = if y = x then pmV ps vs else none := by
  rw [pmV]
  by_cases e : y = x
  · rw [if_pos e, if_pos (congrArg V.str e)]
  · rw [if_neg e, if_neg fun z => e (V.str.inj z)]
theorem q_pmC {i : Nat} {v : V} {ps : List PEl} {vs : List V} : pmV (.cap i :: ps) (v :: vs) = (pmV ps vs).map ((i, v) :: ·) := by rw [pmV]
theorem q_pmA {v : V} {ps : List PEl} {vs : List V} : pmV (.any :: ps) (v :: vs) = pmV ps vs := by rw [pmV]
theorem q_lo0 {vs : List V} : litOk [] vs = True := by unfold litOk; rfl
theorem q_loL {x y : Str} {ps : List PEl} {vs : List V} : litOk (.lit x :: ps) (.str y :: vs) = litOk ps vs := by
  rw [litOk]; exact propext ⟨fun h => h.2, fun h => ⟨⟨y, rfl⟩, h⟩⟩
theorem q_loC {i : Nat} {v : V} {ps : List PEl} {vs : List V} : litOk (.cap i :: ps) (v :: vs) = litOk ps vs := by rw [litOk]; intro x h; cases h
theorem q_loA {v : V} {ps : List PEl} {vs : List V} : litOk (.any :: ps) (v :: vs) = litOk ps vs := by rw [litOk]; intro x h; cases h
theorem q_bv0 : bindsV σ [] = σ := rfl
theorem q_bvS {i : Nat} {v : V} {bs : List (Nat × V)} : bindsV σ ((i, v) :: bs) = bindsV (σ.set i (some v)) bs := rfl
/-! values -/
theorem q_addI {i j : Int} : rAdd K (.int i) (.int j) H Q = Q (.int (i + j)) H := by
  apply propext; constructor
  · rintro (⟨a, b, e1, e2, h⟩ | ⟨a, b, e1, _⟩ | ⟨a, b, _, _, e1, _⟩ | ⟨a, b, _, _, e1, _⟩) <;> cases e1
    cases e2; exact h
  · exact v_addI
theorem q_addS {i j : Str} : rAdd K (.str i) (.str j) H Q = (i.length + j.length ≤ sizeLine ∧ Q (.str (i ++ j)) H) := by
  apply propext; constructor
  · rintro (⟨a, b, e1, e2, h⟩ | ⟨a, b, e1, e2, h⟩ | ⟨a, b, _, _, e1, _⟩ | ⟨a, b, _, _, e1, _⟩) <;> cases e1
    cases e2; exact h
  · exact fun h => v_addS h.1 h.2
theorem q_i0 {g : Int → Int → V} {i j : Int} : rI0 g (.int i) (.int j) H Q = Q (g i j) H := by
  apply propext; constructor
  · rintro ⟨a, b, e1, e2, h⟩; cases e1; cases e2; exact h
  · exact fun h => ⟨i, j, rfl, rfl, h⟩
theorem q_i {C : Int → Int → Prop} {g : Int → Int → V} {i j : Int} : rI C g (.int i) (.int j) H Q = (C i j ∧ Q (g i j) H) := by
  apply propext; constructor
  · rintro ⟨a, b, e1, e2, h⟩; cases e1; cases e2; exact h
  · exact fun h => ⟨i, j, rfl, rfl, h⟩
theorem q_u {g : Int → V} {i : Int} : rU g (.int i) H Q = Q (g i) H := by
  apply propext; constructor
  · rintro ⟨a, e1, h⟩; cases e1; exact h
  · exact fun h => ⟨i, rfl, h⟩
theorem dec_str {a b : Str} : decide (V.str a = V.str b) = decide (a = b) := by
  by_cases q : a = b
  · rw [decide_eq_true q, decide_eq_true (congrArg V.str q)]
  · rw [decide_eq_false q, decide_eq_false fun z => q (V.str.inj z)]
theorem dec_int {a b : Int} : decide (V.int a = V.int b) = decide (a = b) := by
  by_cases q : a = b
  · rw [decide_eq_true q, decide_eq_true (congrArg V.int q)]
  · rw [decide_eq_false q, decide_eq_false fun z => q (V.int.inj z)]
theorem q_eqS {a b : Str} : rEqX K (.str a) (.str b) H Q = Q (.bl (decide (a = b))) H := by
  apply propext; constructor
  · rintro (⟨_, h⟩ | ⟨d, e, hd, he, _, _, h⟩)
    · rw [dec_str] at h; exact h
    · cases hd; cases he
      have e : PyData.eqv (.str a) (.str b) = decide (a = b) := by simp [PyData.eqv]; rfl
      rw [e] at h; exact h
  · exact v_eqS
theorem q_neS {a b : Str} : rNeX K (.str a) (.str b) H Q = Q (.bl (!decide (a = b))) H := by
  apply propext; constructor
  · rintro (⟨_, h⟩ | ⟨d, e, hd, he, _, _, h⟩)
    · rw [dec_str] at h; exact h
    · cases hd; cases he
      have e : PyData.eqv (.str a) (.str b) = decide (a = b) := by simp [PyData.eqv]; rfl
      rw [e] at h; exact h
  · exact v_neS
theorem q_eqI {a b : Int} : rEqX K (.int a) (.int b) H Q = Q (.bl (decide (a = b))) H := by
  apply propext; constructor
  · rintro (⟨_, h⟩ | ⟨d, e, hd, he, _, _, h⟩)
    · rw [dec_int] at h; exact h
    · cases hd; cases he
      have e : PyData.eqv (.int a) (.int b) = decide (a = b) := by simp [PyData.eqv]; rfl
      rw [e] at h; exact h
  · exact v_eqI
theorem q_neI {a b : Int} : rNeX K (.int a) (.int b) H Q = Q (.bl (!decide (a = b))) H := by
  apply propext; constructor
  · rintro (⟨_, h⟩ | ⟨d, e, hd, he, _, _, h⟩)
    · rw [dec_int] at h; exact h
    · cases hd; cases he
      have e : PyData.eqv (.int a) (.int b) = decide (a = b) := by simp [PyData.eqv]; rfl
      rw [e] at h; exact h
  · exact v_neI
theorem q_int1 {i : Int} : rInt1 [.int i] H Q = Q (.int i) H := by
  apply propext; constructor
  · rintro (⟨a, e, h⟩ | ⟨a, e, h⟩) <;> cases e; exact h
  · exact v_int
theorem q_int1B {b : Bool} : rInt1 [.bl b] H Q = Q (.int (if b then 1 else 0)) H := by
  apply propext; constructor
  · rintro (⟨a, e, h⟩ | ⟨a, e, h⟩) <;> cases e; exact h
  · exact v_intB
theorem q_str1 {i : Int} : rStr1 [.int i] H Q = (i.natAbs.log2 < 1920 ∧ Q (.str (toString i : String)) H) := by
  apply propext; constructor
  · rintro ⟨a, e, h⟩; cases e; exact h
  · exact fun h => v_str h.1 h.2
theorem q_max2 {i j : Int} : rMax2 [.int i, .int j] H Q = Q (.int (if j > i then j else i)) H := by
  apply propext; constructor
  · rintro ⟨a, b, e, h⟩; cases e; exact h
  · exact v_max
end
end M


namespace M
open PySem PySem.Spec PyProof.Rows L2
open Sem (wp)
open AutoSeq1 (wpAny_loadPart')
/-! ### enumerate of a tuple -/
section
variable {prog : Program} {w : World} {A : Around} {E : Value → Shared → Prop} {s : Shared}
theorem tnext_item {it t : Addr} {i : Nat} {items : Array Value} {x : Value} {Q : Value → Shared → Prop} (hit : s.heap.IsTupleIter it t i) (ht : s.heap.IsTuple t items) (hx : items[i]? = some x)
    (k : ∀ h', h'.IsTupleIter it t (i + 1) → Heap.SameBut it s.heap h' → Q x { s with heap := h' }) : wpAny (model prog w) A (Builtin.SmallTypes.nextOf (.ref it)) Q E s := by
  obtain ⟨o, e1, e2, e3⟩ := id hit
  obtain ⟨u, f1, _, m, f2⟩ := ht
  unfold Builtin.SmallTypes.nextOf
  refine wpAny_bind (wpAny_callSpecial?_slot (name := Str.ofString "__next__") hit.typeIs F.slot_tuple_iterator_next (wpAny_call_entry F.slot_tuple_iterator_next hit.typeIs F.entry_tuple_iterator_next ?_ (F.args_tuple_iterator_next_1 _)))
  show wpAny _ _ (field (.ref it) 0 >>= _) _ _ s
  refine wpAny_bind (wpAny_field e1 e3 (x := .ref t) rfl ?_)
  show wpAny _ _ (if (Value.ref t == Value.none) = true then _ else _) _ _ s
  rw [if_neg (show ¬ ((Value.ref t == Value.none) = true) from Bool.false_ne_true)]
  show wpAny _ _ (field (.ref it) 1 >>= _) _ _ s
  refine wpAny_bind (wpAny_field e1 e3 (x := .int i 0) rfl ?_)
  show wpAny _ _ (seqItems? (.ref t) >>= _) _ _ s
  refine wpAny_bind (wpAny_seqItems f1 f2 ?_)
  simp only [Int.toNat_natCast, hx]
  refine wpAny_bind (wpAny_setField e1 e3 (by simp) (wpAny_pure ⟨x, rfl, wpAny_pure (k _ ?_ (Heap.SameBut.update ..))⟩))
  exact ⟨_, Heap.get?_update_self _ e1 (Obj.isFreed_of_fields (Obj.data_mapFields e3 _)), (Obj.cls_mapFields ..).trans e2, by rw [Obj.data_mapFields e3]; simp [rawInt]⟩
theorem tnext_end {it t : Addr} {i : Nat} {items : Array Value} {Q : Value → Shared → Prop} (hh : A.handled = none) (hit : s.heap.IsTupleIter it t i) (ht : s.heap.IsTuple t items) (hx : items[i]? = none)
    (k : ∀ h' e, Heap.ExtBut it s.heap h' → (∃ o, h'.get? e = some o ∧ o.cls = .type "StopIteration") → E (.ref e) { s with heap := h' }) : wpAny (model prog w) A (Builtin.SmallTypes.nextOf (.ref it)) Q E s := by
  obtain ⟨o, e1, e2, e3⟩ := id hit
  obtain ⟨u, f1, _, m, f2⟩ := ht
  unfold Builtin.SmallTypes.nextOf
  refine wpAny_bind (wpAny_callSpecial?_slot (name := Str.ofString "__next__") hit.typeIs F.slot_tuple_iterator_next (wpAny_call_entry F.slot_tuple_iterator_next hit.typeIs F.entry_tuple_iterator_next ?_ (F.args_tuple_iterator_next_1 _)))
  show wpAny _ _ (field (.ref it) 0 >>= _) _ _ s
  refine wpAny_bind (wpAny_field e1 e3 (x := .ref t) rfl ?_)
  show wpAny _ _ (if (Value.ref t == Value.none) = true then _ else _) _ _ s
  rw [if_neg (show ¬ ((Value.ref t == Value.none) = true) from Bool.false_ne_true)]
  show wpAny _ _ (field (.ref it) 1 >>= _) _ _ s
  refine wpAny_bind (wpAny_field e1 e3 (x := .int i 0) rfl ?_)
  show wpAny _ _ (seqItems? (.ref t) >>= _) _ _ s
  refine wpAny_bind (wpAny_seqItems f1 f2 ?_)
  simp only [Int.toNat_natCast, hx]
  refine wpAny_bind (wpAny_rule (wpAny_bind (wpAny_setField e1 e3 (by simp) ?_)))
  show wpAny _ _ (newExc (.type "StopIteration") [] >>= _) _ _ _
  refine wpAny_bind ?_
  simp only [newExc, newTuple]
  refine wpAny_bind (wpAny_newObj_type ?_ (by size_fits))
  refine wpAny_bind (m := firstArgMember _ _) (wpAny_of_eq (a := Value.none) (by first | rfl | (simp only [firstArgMember]; rfl)) ?_)
  refine wpAny_newObj_type ?_ (by size_fits)
  simp only [raiseNew]
  refine wpAny_bind (wpAny_handled ?_)
  first | rw [show A.in1.handled = none from hh] | rw [hh]
  refine wpAny_bind (wpAny_pure (wpAny_throw ?_))
  exact k _ _ (((Heap.SameBut.update ..).extBut.push _).push _) ⟨_, Heap.get?_push_size _ rfl, rfl⟩
theorem enum_tup_item {e it t : Addr} {i : Nat} {items : Array Value} {x old : Value} {Q : Value → Shared → Prop} (he : IsEnum s.heap e it i old) (hit : s.heap.IsTupleIter it t i) (ht : s.heap.IsTuple t items) (hx : items[i]? = some x) (hne : e ≠ it)
    (k : ∀ h', IsEnumOut h' e it ((i : Int) + 1) x s.heap.objs.size → h'.IsTupleIter it t (i + 1) → h'.get? s.heap.objs.size = some { cls := .type "tuple", data := .seq #[.int i s.toks, x] } → h'.objs.size = s.heap.objs.size + 1 →
      (∀ b o, b ≠ e → b ≠ it → s.heap.get? b = some o → h'.get? b = some o) → Q (.ref s.heap.objs.size) { s with heap := h', toks := s.toks + 1 }) :
    wpAny (model prog w) A (Builtin.«enumerate.__next__» ⟨[.ref e], []⟩) (fun fin s' => ∃ v, fin = .done (.ret v) ∧ Q v s') E s := by
  obtain ⟨hp, g, d, tk, os⟩ := s
  show wpAny _ _ (field (.ref e) 2 >>= _) _ _ _
  refine wpAny_bind (wpAny_field he rfl (x := .ref it) rfl ?_)
  refine wpAny_bind (tnext_item hit ht hx fun ha ia sa => ?_)
  replace sa : Heap.SameBut it hp ha := sa
  have ea : IsEnum ha e it i old := (sa.2 e hne).trans he
  show wpAny _ _ (field (.ref e) 3 >>= _) _ _ ⟨ha, g, d, tk, os⟩
  refine wpAny_bind (wpAny_field ea rfl (x := rawInt i) rfl ?_)
  show wpAny _ _ (field (.ref e) 4 >>= _) _ _ ⟨ha, g, d, tk, os⟩
  refine wpAny_bind (wpAny_field ea rfl (x := .none) rfl ?_)
  show wpAny _ _ (mkInt i >>= _) _ _ ⟨ha, g, d, tk, os⟩
  refine wpAny_bind (wpAny_mkInt ?_)
  show wpAny _ _ (setField (.ref e) 3 (rawInt ((i : Int) + 1)) >>= _) _ _ ⟨ha, g, d, tk + 1, os⟩
  refine wpAny_bind (wpAny_setField_rec ea (by simp) fun hb eb sb => ?_)
  replace sb : Heap.SameBut e ha hb := sb
  replace eb : IsEnum hb e it ((i : Int) + 1) old := eb
  show wpAny _ _ (setField (.ref e) 4 .none >>= _) _ _ ⟨hb, g, d, tk + 1, os⟩
  refine wpAny_bind (wpAny_setField_rec eb (by simp) fun hc ec sc => ?_)
  replace sc : Heap.SameBut e hb hc := sc
  replace ec : IsEnum hc e it ((i : Int) + 1) old := ec
  show wpAny _ _ (newTuple [.int i tk, x] >>= _) _ _ ⟨hc, g, d, tk + 1, os⟩
  refine wpAny_bind (wpAny_newTuple ?_)
  have ed : IsEnum (hc.push { cls := .type "tuple", data := .seq #[.int i tk, x] }) e it ((i : Int) + 1) old := Heap.get?_push_of_some _ ec
  generalize hhd : hc.push { cls := .type "tuple", data := .seq #[.int i tk, x] } = hd at ed
  have hsz : hc.objs.size = hp.objs.size := by rw [sc.1, sb.1, sa.1]
  have hel : e < hp.objs.size := Heap.lt_size he
  have td : hd.get? hp.objs.size = some { cls := .type "tuple", data := .seq #[.int i tk, x] } := by rw [← hhd, ← hsz]; exact Heap.get?_push_size _ rfl
  have zd : hd.objs.size = hp.objs.size + 1 := by rw [← hhd, Heap.size_push, hsz]
  have kd : ∀ b o, b ≠ e → b ≠ it → hp.get? b = some o → hd.get? b = some o := fun b o n1 n2 q => by
    rw [← hhd]; exact Heap.get?_push_of_some _ (sc.extBut b o n1 (sb.extBut b o n1 (sa.extBut b o n2 q)))
  have idd : hd.IsTupleIter it t (i + 1) := by
    rw [← hhd]; obtain ⟨o, ho, r⟩ := (ia.extBut sb.extBut (Ne.symm hne)).extBut sc.extBut (Ne.symm hne); exact ⟨o, Heap.get?_push_of_some _ ho, r⟩
  show wpAny _ _ (Builtin.SmallTypes.ownedTupleIsFree (.ref e) >>= _) _ _ ⟨hd, g, d, tk + 1, os⟩
  rw [hsz]
  clear hhd ec sc eb sb ea sa ia hsz hc hb ha
  refine wpAny_bind ?_
  · unfold Builtin.SmallTypes.ownedTupleIsFree
    refine wpAny_bind (wpAny_field ed rfl (x := .none) rfl (wpAny_pure ?_))
    simp only [if_true]
    refine wpAny_bind (wpAny_rule ?_)
    refine wpAny_bind (wpAny_field ed rfl (x := old) rfl ?_)
    refine wpAny_bind (wpAny_setField_rec ed (by simp) fun hf ef sf => ?_)
    replace sf : Heap.SameBut e hd hf := sf
    replace ef : IsEnum hf e it ((i : Int) + 1) x := ef
    show wpAny _ _ (Builtin.SmallTypes.ownedTupleHandOut (.ref e) (.ref hp.objs.size) >>= _) _ _ ⟨hf, g, d, tk + 1, os⟩
    refine wpAny_bind ?_
    · unfold Builtin.SmallTypes.ownedTupleHandOut
      refine wpAny_bind (wpAny_setField_rec ef (by simp) fun hg eg sg => ?_)
      replace sg : Heap.SameBut e hf hg := sg
      replace eg : IsEnumOut hg e it ((i : Int) + 1) x hp.objs.size := eg
      refine wpAny_setField_rec eg (by simp) fun hi ei si => ?_
      replace si : Heap.SameBut e hg hi := si
      replace ei : IsEnumOut hi e it ((i : Int) + 1) x hp.objs.size := ei
      refine wpAny_bind (wpAny_letGo (wpAny_pure ⟨_, rfl, k hi ei ?_ ?_ ?_ ?_⟩))
      · exact ((idd.extBut sf.extBut (Ne.symm hne)).extBut sg.extBut (Ne.symm hne)).extBut si.extBut (Ne.symm hne)
      · exact si.extBut _ _ (Nat.ne_of_gt hel) (sg.extBut _ _ (Nat.ne_of_gt hel) (sf.extBut _ _ (Nat.ne_of_gt hel) td))
      · rw [si.1, sg.1, sf.1, zd]
      · exact fun b o n1 n2 q => si.extBut b o n1 (sg.extBut b o n1 (sf.extBut b o n1 (kd b o n1 n2 q)))
theorem pyNext_enumT {e it t : Addr} {i : Nat} {items : Array Value} {x old : Value} {Q : Option Value → Shared → Prop} (he : IsEnum s.heap e it i old) (hit : s.heap.IsTupleIter it t i) (ht : s.heap.IsTuple t items) (hx : items[i]? = some x) (hne : e ≠ it)
    (k : ∀ h', IsEnumOut h' e it ((i : Int) + 1) x s.heap.objs.size → h'.IsTupleIter it t (i + 1) → h'.get? s.heap.objs.size = some { cls := .type "tuple", data := .seq #[.int i s.toks, x] } → h'.objs.size = s.heap.objs.size + 1 →
      (∀ b o, b ≠ e → b ≠ it → s.heap.get? b = some o → h'.get? b = some o) → Q (some (.ref s.heap.objs.size)) { s with heap := h', toks := s.toks + 1 }) : wpAny (model prog w) A (pyNext (.ref e)) Q E s := by
  have hT : s.TypeIs (.ref e) "enumerate" := ⟨_, he, rfl⟩
  unfold pyNext
  exact wpAny_bind (wpAny_attempt (wpAny_callSpecial?_slot (name := Str.ofString "__next__") hT F.slot_enumerate_next (wpAny_call_entry F.slot_enumerate_next hT F.entry_enumerate_next
      (enum_tup_item he hit ht hx hne fun h' a b c d q => wpAny_pure (k h' a b c d q)) (F.args_enumerate_next_1 _))))
theorem pyNext_enumTend {e it t : Addr} {i : Nat} {items : Array Value} {old : Value} {Q : Option Value → Shared → Prop} (hh : A.handled = none) (he : IsEnum s.heap e it i old) (hit : s.heap.IsTupleIter it t i) (ht : s.heap.IsTuple t items) (hx : items[i]? = none)
    (k : ∀ h', Heap.ExtBut it s.heap h' → Q none { s with heap := h' }) : wpAny (model prog w) A (pyNext (.ref e)) Q E s := by
  have hT : s.TypeIs (.ref e) "enumerate" := ⟨_, he, rfl⟩
  unfold pyNext
  refine wpAny_bind (wpAny_attempt (wpAny_callSpecial?_slot (name := Str.ofString "__next__") hT F.slot_enumerate_next (wpAny_call_entry F.slot_enumerate_next hT F.entry_enumerate_next ?_ (F.args_enumerate_next_1 _))))
  show wpAny _ _ (field (.ref e) 2 >>= _) _ _ _
  refine wpAny_bind (wpAny_field he rfl (x := .ref it) rfl ?_)
  refine wpAny_bind (tnext_end hh hit ht hx fun h' z he' hz => ?_)
  obtain ⟨o, ho, hc⟩ := hz
  refine wpAny_bind (wpAny_isInstance (T := "StopIteration") (b := true) ⟨o, ho, hc⟩ isSubtype_stop ?_)
  exact wpAny_pure (k _ he')
theorem enum_newT (t : Addr) (items : Array Value) (n : Nat) (dct : Option Addr) (sl : Array (Option Value)) :
    Meets (Builtin.«enumerate.__new__» ⟨[.type "enumerate", .ref t], []⟩) (fun _ R s => s.heap.get? t = some { cls := .type "tuple", dict := dct, data := .seq items n, slots := sl } ∧
      R (.ok (.ret (.ref (s.heap.push { cls := .type "tuple_iterator", data := .fields #[.ref t, .int 0 0] }).objs.size)))
        { s with heap := (s.heap.push { cls := .type "tuple_iterator", data := .fields #[.ref t, .int 0 0] }).push { cls := .type "enumerate", data := .fields #[.none, .bool false, .ref s.heap.objs.size, rawInt 0, .none, .none] } }) :=
  .of_wp fun prog w A R s h => by
    obtain ⟨hp, g, d, tk, os⟩ := s; obtain ⟨hl, h⟩ := h
    have hsub := sub_enumerate
    have hL : Heap.IsTuple (Shared.heap ⟨hp, g, d, tk, os⟩) t items := ⟨_, hl, rfl, n, rfl⟩
    wp_walk using wpAny_loadPart' hl
    refine wpAny_stack_any fun st => wpAny_pure ?_
    split
    · rename_i c _ _ _ _ _
      cases (c == Value.type "enumerate")
      · wp_walk using wpAny_loadPart' hl, wpAny_pyIter_tuple hL
        exact ⟨_, rfl, h⟩
      · wp_walk using wpAny_loadPart' hl, wpAny_pyIter_tuple hL
        exact ⟨_, rfl, h⟩
    · wp_walk using wpAny_loadPart' hl, wpAny_pyIter_tuple hL
      exact ⟨_, rfl, h⟩
theorem call_enumT {t : Addr} {items : Array Value} {Q : Value → Shared → Prop} (hL : s.heap.IsTuple t items)
    (k : ∀ h', IsEnum h' (s.heap.objs.size + 1) s.heap.objs.size 0 .none → h'.IsTupleIter s.heap.objs.size t 0 → h'.objs.size = s.heap.objs.size + 2 → (∀ b o, s.heap.get? b = some o → h'.get? b = some o) → Q (.ref (s.heap.objs.size + 1)) { s with heap := h' }) :
    wpAny (model prog w) A (call (.type "enumerate") [.ref t]) Q E s := by
  obtain ⟨⟨c, dct, dt, sl⟩, hl, hc, n, hd⟩ := hL
  replace hc : c = .type "tuple" := hc
  replace hd : dt = .seq items n := hd
  subst hc hd
  refine callType_new F.called_enumerate (by decide) (F.typeCall_enumerate_1 _) (F.newCall_enumerate_1 _) (fun obj => F.args_object_init_2 obj _) F.entry_enumerate_new (enum_newT t items n dct sl) ⟨hl, ?_⟩
  have hz : (s.heap.push { cls := .type "tuple_iterator", data := .fields #[.ref t, .int 0 0] }).objs.size = s.heap.objs.size + 1 := Heap.size_push ..
  show _ ∧ _
  rw [hz]
  have he : IsEnum ((s.heap.push { cls := .type "tuple_iterator", data := .fields #[.ref t, .int 0 0] }).push { cls := .type "enumerate", data := .fields #[.none, .bool false, .ref s.heap.objs.size, rawInt 0, .none, .none] }) (s.heap.objs.size + 1) s.heap.objs.size 0 .none := by
    have q := Heap.get?_push_size (s.heap.push { cls := .type "tuple_iterator", data := .fields #[.ref t, .int 0 0] }) (o := { cls := .type "enumerate", data := .fields #[.none, .bool false, .ref s.heap.objs.size, rawInt 0, .none, .none] }) rfl
    rw [hz] at q; exact q
  exact ⟨⟨_, he, rfl⟩, k _ he ⟨_, Heap.get?_push_of_some _ (Heap.get?_push_size _ rfl), rfl, rfl⟩ (by rw [Heap.size_push, hz]) fun b o q => Heap.get?_push_of_some _ (Heap.get?_push_of_some _ q)⟩
end
/-- the tuple at a, each item in a new pair with its number -/
def IteT (K : PySem.W.Frag) (a : Addr) : It :=
  ⟨fun i H => ∃ (xs : List V) (x : V), SqT K H a xs ∧ xs[i]? = some x, fun i H v H' => ∃ T x, v = .ref T ∧ H T = none ∧ H' = upd H T (.tup [.int (i : Nat), x]) ∧ ∀ xs, SqT K H a xs → xs[i]? = some x, fun i H => ∃ xs : List V, SqT K H a xs ∧ xs.length ≤ i⟩
theorem turn_enumT {P : Program} {w : World} {K : PySem.W.Frag} {elts : List Expr} {kk : Nat} {tpos : Pos} (a e it : Addr) :
    Turn P w K (.Tuple elts kk tpos) (IteT K a) [e, it] e (fun i h => (∃ old, IsEnum h e it ((i : Nat) : Int) old) ∧ h.IsTupleIter it a i ∧ e ≠ it) where
  mem := by simp
  obj := fun i h st b hb => by
    obtain ⟨⟨old, he⟩, ⟨o, ho, hc, hd⟩, _⟩ := st
    have z : b = e ∨ b = it := by simpa using hb
    rcases z with rfl | rfl
    · exact ⟨_, he, fun v q => nomatch q⟩
    · exact ⟨o, ho, fun v q => by rw [hd] at q; cases q⟩
  keep := fun i h h' st k => let ⟨⟨old, he⟩, hi, hne⟩ := st; ⟨⟨old, k e (by simp) _ he⟩, hi.at fun o q => k it (by simp) o q, hne⟩
  item := by
    intro X hP hw hK hc i pins s σ H E I hf st hg
    subst hP hw hK
    obtain ⟨⟨old, he⟩, hit, hne⟩ := st
    obtain ⟨xs, x, hq, hx⟩ := hg
    obtain ⟨its, rv, p, hz⟩ := I.tuple hq
    obtain ⟨u, hu, ru⟩ := rv.get hx
    have hel : e < s.heap.objs.size := Heap.lt_size he
    have hil : it < s.heap.objs.size := by obtain ⟨_, q, _⟩ := hit; exact Heap.lt_size q
    refine pyNext_enumT he hit (show s.heap.IsTuple a its.toArray from p) (x := u) (by simpa using hu) hne fun h' ho hit' hT hsz hk => ?_
    refine ⟨_, rfl, wpAny_letOwnedTupleGo_enum (s := { s with heap := h', toks := s.toks + 1 }) ho fun h2 he2 sb => ?_⟩
    have hT2 : h2.get? s.heap.objs.size = some { cls := .type "tuple", data := .seq #[.int i s.toks, u] } := (sb.2 _ (Nat.ne_of_gt hel)).trans hT
    have new : ObjOk X.prog X.w (upd H s.heap.objs.size (.tup [.int (i : Nat), x])) h2 s.heap.objs.size (.tup [.int (i : Nat), x]) :=
      ⟨by show 2 ≤ sizeLine; decide, [.int i s.toks, u], .cons ⟨_, rfl⟩ (.cons ru .nil), ⟨_, hT2, rfl, _, rfl⟩⟩
    have I1 : Inv X pins σ (upd H s.heap.objs.size (.tup [.int (i : Nat), x])) { s with heap := h2, toks := s.toks + 1 } :=
      I.turnedNew (ch := [e, it]) (fun b ob hb q => (sb.2 b (fun z => hb (by simp [z]))).trans (hk b ob (fun z => hb (by simp [z])) (fun z => hb (by simp [z])) q)) hf (Nat.le_refl _) new
    refine ⟨.ref s.heap.objs.size, _, I1, rfl, ⟨_, x, rfl, I.hok.fresh (Nat.le_refl _), rfl, fun ys hy => by rw [I.tuple_inj hy hq]; exact hx⟩, ⟨⟨u, ?_⟩, hit'.at fun o q => (sb.2 it (Ne.symm hne)).trans q, hne⟩, fun b hb => ?_⟩
    · rw [show ((i + 1 : Nat) : Int) = (i : Int) + 1 by omega]; exact he2
    · have hb' : b < s.heap.objs.size := by
        have z : b = e ∨ b = it := by simpa using hb
        rcases z with rfl | rfl
        · exact hel
        · exact hil
      rw [upd_ne (Nat.ne_of_lt hb')]
      exact (hf b hb).1
  done := by
    intro X hP hw hK hc i pins s σ H E I hf st hg
    subst hP hw hK
    obtain ⟨⟨old, he⟩, hit, hne⟩ := st
    obtain ⟨xs, hq, hx⟩ := hg
    obtain ⟨its, rv, p, hz⟩ := I.tuple hq
    obtain ⟨f0, f1, f2, f3, f4, f5⟩ := hf it (by simp)
    have hl := rv.length
    exact pyNext_enumTend (I.ok.hd hc) he hit (show s.heap.IsTuple a its.toArray from p) (by simp; omega) fun h' eb => ⟨rfl, I.turned (t' := s.toks) (fun b o hb q => eb b o hb q) f0 f1 f3 f4 f5⟩
  self := fun A i s Q E st h => let ⟨⟨_, he⟩, _⟩ := st; wpAny_pyIter_enum he h
def iEnumX (K : PySem.W.Frag) (ta : TA) : TI := fun σ H R => ta σ H fun vs H1 => ∃ a, vs = [.ref a] ∧ ((∃ xs, SqL K H1 a xs) ∧ R (Ite K a) H1 ∨ (∃ xs, SqT K H1 a xs) ∧ R (IteT K a) H1)
theorem pi_enumX {X : Cx} {e : Expr} {ta : TA} {p pos tpos : Pos} {elts : List Expr} {kk : Nat} (hg : Gl X "enumerate") (hm : X.mg "enumerate" = none) (ha : PA X [e] ta) (hs : starEach [e] X.env = [(false, eval e X.env)] := by rfl) :
    PI X (.Tuple elts kk tpos) (.Call (.Name "enumerate" p) [e] [] pos) (iEnumX X.K ta) := by
  refine ⟨fun pins s σ H R I h => ?_⟩
  refine Call_ (ld_blt I hg hm boot_enumerate (PyProof.Rows.callWith_type1 (thn (ha.run pos pins s σ H _ I h) fun us s1 ⟨vs, H1, I1, r1, q1⟩ => ?_) hs rfl))
  obtain ⟨a, ex, q1⟩ := q1
  subst ex
  cases r1 with
  | cons r rr =>
    cases rr
    cases r
    have fp : ∀ b ∈ [s1.heap.objs.size + 1, s1.heap.objs.size], FpOk X pins H1 b := fun b hb => by
      have hle : s1.heap.objs.size ≤ b := by
        have z : b = s1.heap.objs.size + 1 ∨ b = s1.heap.objs.size := by simpa using hb
        omega
      exact I1.fpOk hle (I1.hok.fresh hle)
    rcases q1 with ⟨⟨xs, hq⟩, q⟩ | ⟨⟨xs, hq⟩, q⟩
    · obtain ⟨its, rv, p', hz⟩ := I1.list hq
      refine call_enumerate_list p'.isList fun h' he hit hsz hk => wpAny_pyIter_enum he ?_
      exact ⟨s1.heap.objs.size + 1, _, _, _, H1, rfl, I1.kept (t' := s1.toks) hk, turn_enum a (s1.heap.objs.size + 1) s1.heap.objs.size, ⟨⟨.none, he⟩, hit, Nat.succ_ne_self _⟩, fp, q⟩
    · obtain ⟨its, rv, p', hz⟩ := I1.tuple hq
      refine call_enumT (show s1.heap.IsTuple a its.toArray from p') fun h' he hit hsz hk => wpAny_pyIter_enum he ?_
      exact ⟨s1.heap.objs.size + 1, _, _, _, H1, rfl, I1.kept (t' := s1.toks) hk, turn_enumT a (s1.heap.objs.size + 1) s1.heap.objs.size, ⟨⟨.none, he⟩, hit, Nat.succ_ne_self _⟩, fp, q⟩
section
variable {K : PySem.W.Frag} {σ : L2.St} {H : Hp} {Q : VK} {D : Ends}
theorem q_enum {ta : TA} {R : It → Hp → Prop} : iEnumX K ta σ H R = ta σ H fun vs H1 => ∃ a, vs = [.ref a] ∧ ((∃ xs, SqL K H1 a xs) ∧ R (Ite K a) H1 ∨ (∃ xs, SqT K H1 a xs) ∧ R (IteT K a) H1) := rfl
theorem q_chain {r r' : R2} {ta tb tc : TE} : tChain r r' ta tb tc σ H Q = ta σ H fun x H1 => tb σ H1 fun y H2 => r x y H2 fun z H3 => ∃ k, z = .bl k ∧ (if k = true then tc σ H3 fun w' H4 => r' y w' H4 Q else Q (.bl false) H3) := rfl
theorem q_istr {te : TE} {R : It → Hp → Prop} : iStr te σ H R = te σ H fun v H1 => ∃ x, v = .str x ∧ R (Its x) H1 := rfl
theorem q_strE {y : Str} {P : Str → Prop} : (∃ x, V.str y = .str x ∧ P x) = P y := by
  apply propext; constructor
  · rintro ⟨j, e, h⟩; cases e; exact h
  · exact fun h => ⟨y, rfl, h⟩
theorem v_eqD {x y : V} {d e : PyData} (hx : Dp K H x d) (hy : Dp K H y e) (sd : SeqAt.shaped d = true) (se : SeqAt.shaped e = true) (q : Q (.bl (PyData.eqv d e)) H) : rEqX K x y H Q := .inr ⟨d, e, hx, hy, sd, se, q⟩
theorem v_neD {x y : V} {d e : PyData} (hx : Dp K H x d) (hy : Dp K H y e) (sd : SeqAt.shaped d = true) (se : SeqAt.shaped e = true) (q : Q (.bl (!PyData.eqv d e)) H) : rNeX K x y H Q := .inr ⟨d, e, hx, hy, sd, se, q⟩
theorem q_oneR {a : Addr} {P : Addr → Prop} : (∃ b, [V.ref a] = [.ref b] ∧ P b) = P a := by
  apply propext; constructor
  · rintro ⟨j, e, h⟩; cases e; exact h
  · exact fun h => ⟨a, rfl, h⟩
/-- for i, x in enumerate(..): a word over the number of turns -/
theorem loop_gen {J : It} {g : TG} {tb : TS} (n : Nat) (Pv : Nat → L2.St → Hp → Prop) (h0 : Pv 0 σ H) (hstop : ∀ σ H, Pv n σ H → J.stop n H) (hgo : ∀ i σ H, i < n → Pv i σ H → J.go i H)
    (hs : ∀ i σ H x H', i < n → Pv i σ H → J.yld i H x H' → g x σ H' fun σ2 H2 => tb { D with nx := Pv (i + 1), ct := Pv (i + 1), bk := D.nx } σ2 H2) (hd : ∀ σ H, Pv n σ H → D.nx σ H) : LoopX J g tb D σ H := by
  refine ⟨fun i m σ H => m = n - i ∧ i ≤ n ∧ Pv i σ H, ⟨n, by simp, Nat.zero_le _, h0⟩, ?_⟩
  rintro i m σ H ⟨rfl, hi, p⟩
  by_cases hlt : i < n
  · exact .inr ⟨hgo i σ H hlt p, Pv (i + 1), fun σ' H' p' => ⟨n - (i + 1), by omega, rfl, hlt, p'⟩, fun x H' y => hs i σ H x H' hlt p y⟩
  · have e : i = n := by omega
    subst e
    exact .inl ⟨hstop σ H p, hd σ H p⟩
theorem loop_ET {a : Addr} {xs : List V} {g : TG} {tb : TS} (Pv : Nat → L2.St → Hp → Prop) (h0 : Pv 0 σ H) (hl : ∀ i σ H, i ≤ xs.length → Pv i σ H → SqT K H a xs)
    (hs : ∀ i x T σ H H', xs[i]? = some x → Pv i σ H → Keep [] H H' → SqT K H' T [.int (i : Nat), x] → g (.ref T) σ H' fun σ2 H2 => tb { D with nx := Pv (i + 1), ct := Pv (i + 1), bk := D.nx } σ2 H2) (hd : ∀ σ H, Pv xs.length σ H → D.nx σ H) : LoopX (IteT K a) g tb D σ H := by
  refine loop_gen xs.length Pv h0 (fun σ H p => ⟨xs, hl _ σ H (Nat.le_refl _) p, Nat.le_refl _⟩) (fun i σ H hi p => ⟨xs, xs[i], hl i σ H (by omega) p, by simp [hi]⟩) ?_ hd
  rintro i σ H x H' hi p ⟨T, y, rfl, hT, rfl, hy⟩
  exact hs i y T σ H _ (hy xs (hl i σ H (by omega) p)) p (Keep.new hT) (SqT.of upd_same)
theorem loop_EL {a : Addr} {xs : List V} {g : TG} {tb : TS} (Pv : Nat → L2.St → Hp → Prop) (h0 : Pv 0 σ H) (hl : ∀ i σ H, i ≤ xs.length → Pv i σ H → SqL K H a xs)
    (hs : ∀ i x T σ H H', xs[i]? = some x → Pv i σ H → Keep [] H H' → SqT K H' T [.int (i : Nat), x] → g (.ref T) σ H' fun σ2 H2 => tb { D with nx := Pv (i + 1), ct := Pv (i + 1), bk := D.nx } σ2 H2) (hd : ∀ σ H, Pv xs.length σ H → D.nx σ H) : LoopX (Ite K a) g tb D σ H := by
  refine loop_gen xs.length Pv h0 (fun σ H p => ⟨xs, hl _ σ H (Nat.le_refl _) p, Nat.le_refl _⟩) (fun i σ H hi p => ⟨xs, xs[i], hl i σ H (by omega) p, by simp [hi]⟩) ?_ hd
  rintro i σ H x H' hi p ⟨T, y, rfl, hT, rfl, hy⟩
  exact hs i y T σ H _ (hy xs (hl i σ H (by omega) p)) p (Keep.new hT) (SqT.of upd_same)
end
end M


namespace M
open PySem PySem.Spec PyProof.Rows L2
/-! ### a written dict of texts -/
/-- the dict at d of the written part has just these texts -/
structure KTab (K : PySem.W.Frag) (w : World) (d : Addr) (kvs : List (Str × Str)) : Prop where
  dict : ∃ es n, KDict K w d es n
  has : ∀ p ∈ kvs, ∃ u, PySem.W.nsIn K d p.1 = some (some u) ∧ RelV (.str p.2) u
  not : ∀ x : Str, (∀ p ∈ kvs, p.1 ≠ x) → PySem.W.nsIn K d x = some none
def rKin (d : Addr) (kvs : List (Str × Str)) : R2 := fun x y H Q => ∃ z : Str, x = .str z ∧ y = .ref d ∧ Q (.bl (kvs.any fun p => decide (p.1 = z))) H
def rKget (d : Addr) (kvs : List (Str × Str)) : R2 := fun x y H Q => ∃ (z v : Str), x = .ref d ∧ y = .str z ∧ (z, v) ∈ kvs ∧ Q (.str v) H
section
variable {X : Cx}
theorem op_kin {d : Addr} {kvs : List (Str × Str)} (T : KTab X.K X.w d kvs) : OpR X (compareOp .In) (rKin d kvs) := by
  intro pins s σ H x y v u Q I rx ry h
  obtain ⟨z, rfl, rfl, q⟩ := h
  obtain ⟨es, n, D⟩ := T.dict
  refine op_in_kd D pins s σ H _ _ v u Q I rx ry ?_
  by_cases e : ∃ p ∈ kvs, p.1 = z
  · obtain ⟨p, hp, rfl⟩ := e
    obtain ⟨u0, h1, h2⟩ := T.has p hp
    refine ⟨p.1, some u0, rfl, rfl, h1, ?_⟩
    have e2 : (kvs.any fun q => decide (q.1 = p.1)) = true := List.any_eq_true.mpr ⟨p, hp, by simp⟩
    rw [e2] at q
    exact q
  · refine ⟨z, none, rfl, rfl, T.not z fun p hp e2 => e ⟨p, hp, e2⟩, ?_⟩
    have e2 : (kvs.any fun q => decide (q.1 = z)) = false := by
      rw [List.any_eq_false]
      intro p hp
      simp only [decide_eq_true_eq]
      exact fun e3 => e ⟨p, hp, e3⟩
    rw [e2] at q
    exact q
theorem ix_kget {d : Addr} {kvs : List (Str × Str)} (T : KTab X.K X.w d kvs) : IxR X (rKget d kvs) := by
  intro value slice pins s σ H x y v u Q I rx ry h hs
  obtain ⟨z, t, rfl, rfl, hp, q⟩ := h
  obtain ⟨es, n, D⟩ := T.dict
  obtain ⟨u0, h1, h2⟩ := T.has _ hp
  exact ix_kdict value slice pins s σ H _ _ v u Q I rx ry ⟨d, z, .str t, rfl, rfl, ⟨es, n, u0, D.at_, D.lit, h1, h2⟩, q⟩ hs
end
section
variable {K : PySem.W.Frag} {σ : L2.St} {H : Hp} {Q : VK} {D : Ends}
theorem q_kin {d : Addr} {kvs : List (Str × Str)} {z : Str} : rKin d kvs (.str z) (.ref d) H Q = Q (.bl (kvs.any fun p => decide (p.1 = z))) H := by
  apply propext; constructor
  · rintro ⟨z', e, _, h⟩; cases e; exact h
  · exact fun h => ⟨z, rfl, rfl, h⟩
theorem v_kget {d : Addr} {kvs : List (Str × Str)} {z : Str} (v : Str) (m : (z, v) ∈ kvs) (q : Q (.str v) H) : rKget d kvs (.ref d) (.str z) H Q := ⟨z, v, rfl, rfl, m, q⟩
/-- == with the empty tuple -/
theorem v_eqE {a p : Addr} {ds : List PyData} (h : Im K H (.ref a) (.tuple ds)) (h2 : SqT K H p []) (sh : SeqAt.shaped (.tuple ds) = true) (q : Q (.bl ds.isEmpty) H) : rEqX K (.ref a) (.ref p) H Q := by
  refine .inr ⟨.tuple ds, .tuple [], h.dp, .tup h2 .nil, sh, by decide +kernel, ?_⟩
  have e : PyData.eqv (.tuple ds) (.tuple []) = ds.isEmpty := by
    cases ds <;> simp [PyData.eqv, PyData.eqvAll]
  rw [e]; exact q
end
/-! ### blocks that == can look at -/
def LayB (b : List Stm) : Prop := SeqAt.shaped (.tuple (blkD b)) = true
theorem shaped_iff (d : PyData) : SeqAt.shaped d = true ↔ d.canLay0 = true ∧ d.depth ≤ 64 := by
  unfold SeqAt.shaped; simp
theorem lay_tup (ds : List PyData) : SeqAt.shaped (.tuple ds) = true ↔ (∀ d ∈ ds, d.canLay0 = true ∧ d.depth ≤ 63) := by
  rw [shaped_iff]
  simp only [PyData.canLay0, PyData.depth]
  have h1 : ∀ l : List PyData, PyData.canLayAll0 l = true ↔ ∀ d ∈ l, d.canLay0 = true := by
    intro l
    induction l with
    | nil => simp [PyData.canLayAll0]
    | cons x r ih => simp [PyData.canLayAll0, ih]
  have h2 : ∀ (l : List PyData) (n : Nat), PyData.depthAll l ≤ n ↔ ∀ d ∈ l, d.depth ≤ n := by
    intro l n
    induction l with
    | nil => simp [PyData.depthAll]
    | cons x r ih =>
      simp only [PyData.depthAll, List.mem_cons, forall_eq_or_imp, ← ih]
      omega
  rw [h1, show PyData.depthAll ds + 1 ≤ 64 ↔ PyData.depthAll ds ≤ 63 by omega, h2]
  constructor
  · exact fun h d m => ⟨h.1 d m, h.2 d m⟩
  · exact fun h => ⟨fun d m => (h d m).1, fun d m => (h d m).2⟩
theorem lay_sub {ds es : List PyData} (h : SeqAt.shaped (.tuple ds) = true) (m : .tuple es ∈ ds) : SeqAt.shaped (.tuple es) = true := by
  have h2 := (lay_tup ds).mp h _ m
  exact (shaped_iff _).mpr ⟨h2.1, by omega⟩
theorem LayB.get {b : List Stm} (h : LayB b) {i : Nat} {s : Stm} (e : b[i]? = some s) : SeqAt.shaped s.d = true := by
  have m : s.d ∈ blkD b := by rw [blkD_map]; exact List.mem_map_of_mem (List.mem_of_getElem? e)
  have h2 := (lay_tup (blkD b)).mp h _ m
  exact (shaped_iff _).mpr ⟨h2.1, by omega⟩
theorem map_str_append_one (a : List Str) (x : Str) : (a ++ [x]).map V.str = a.map V.str ++ [V.str x] := by simp
end M


/-! exceptions made by keywords -/
namespace PySem
namespace MXP
open PySem.W PyProof.Rows
section
variable {M : Model} {A : Around} {E : Value → Shared → Prop} {h : Heap} {g : Array GenState} {d : Drawn} {t : Nat} {os : OsState}
variable {nm q : Str} {C N : Addr} {bs bm bmB : List Value} {hdct : Bool} {sn : List Str} {sub : List Value} {ab : Bool} {col : Option Bool} {dd : Option Addr} {k0 k1 k2 k3 k5 : Option Value} {B newId initId : String}
theorem check_new_kw (F : ExcBaseFacts B newId initId bmB) (hT : ∀ X : String, bm.contains (.type X) = bmB.contains (.type X)) {rest : List Value} {kw : List (Str × Value)} {Q : Unit → Shared → Prop}
    (hC : h.get? C = some (excClassObj nm q C N bs bm hdct sn sub ab col dd k0 k1 k2 k3 k5 newId)) (hq : Q () ⟨h, g, d, t, os⟩) : wpAny M A (checkBuiltinCall newId ⟨.ref C :: rest, kw⟩) Q E ⟨h, g, d, t, os⟩ := by
  have hcont : (Value.ref C :: bm).contains (.type B) = true := by rw [List.contains_cons, hT, F.hasB, Bool.or_true]
  have hstar := F.noStar
  simp only [checkBuiltinCall, F.newKind, F.newSplit, F.newRow]
  repeat (first | refine wpAny_loadPart_at hC ?_ | (refine wpAny_isSubtype_exc hC ?_; rw [hcont]) | refine wpAny_staticBase_exc hC ?_ | refine wpAny_madeBy_exc hC ?_ | simp only [bne_self_eq_false, Bool.false_eq_true, if_false] | wp_step)
  exact hq
end
section
variable {prog : Program} {w : World} {A : Around} {E : Value → Shared → Prop} {R : Result → Shared → Prop} {h : Heap} {g : Array GenState} {d : Drawn} {t : Nat} {os : OsState}
variable {nm q : Str} {C N : Addr} {bs bm bmB : List Value} {hdct : Bool} {sn : List Str} {sub : List Value} {ab : Bool} {col : Option Bool} {dd : Option Addr} {k0 k1 k2 k3 k5 : Option Value} {B newId initId : String}
theorem new_kw (F : ExcBaseFacts B newId initId bmB) (hT : ∀ X : String, bm.contains (.type X) = bmB.contains (.type X)) {rest : List Value} {kw : List (Str × Value)}
    (hC : h.get? C = some (excClassObj nm q C N bs bm hdct sn sub ab col dd k0 k1 k2 k3 k5 newId))
    (hq : R (.ok (.ret (.ref (h.objs.size + 1)))) ⟨(h.push { cls := .type "tuple", data := .seq rest.toArray }).push
      { cls := .ref C, data := .fields #[.ref h.objs.size, .none, .none, .none, .bool false, .none] }, g, d, t, os⟩) (hrest : rest.length ≤ sizeLine) :
    codeAny (model prog w) A (.builtin newId ⟨.ref C :: rest, kw⟩) R ⟨h, g, d, t, os⟩ := by
  have hends := F.ends
  have hcB : (Value.ref C :: bm).contains (.type B) = true := by rw [List.contains_cons, hT, F.hasB, Bool.or_true]
  have hcA : (Value.ref C :: bm).contains (.type "AttributeError") = false := by rw [List.contains_cons, hT, F.noAttr]; rfl
  have hcN : (Value.ref C :: bm).contains (.type "NameError") = false := by rw [List.contains_cons, hT, F.noName]; rfl
  refine codeAny_builtinAt F.entry ?_
  unfold Builtin.«BaseException.__new__»
  refine wpAt_bind ?_
  show wpAt _ _ _ (stack >>= _) _ _ _
  refine wpAt_bind (wpAt_stack fun p below => wpAt_of_wpAny ?_)
  wp_walk
  refine wpAt_of_wpAny ?_
  rw [F.owner]
  repeat (first | with_reducible refine wpAny_madeHere_exc F.canon hC ?_ | with_reducible refine wpAny_loadPart_at hC ?_ | (with_reducible refine wpAny_isSubtype_exc hC ?_; first | rw [hcB] | rw [hcA] | rw [hcN]) | wp_step)
  show R _ _
  rw [Heap.size_push]
  exact hq
theorem type_call_kw (F : ExcBaseFacts B newId initId bmB) (hT : ∀ X : String, bm.contains (.type X) = bmB.contains (.type X)) {rest : List Value} {kw : List (Str × Value)} {fI : Addr} {Q : Fin → Shared → Prop}
    (hC : h.get? C = some (excClassObj nm q C N bs bm hdct sn sub ab col dd k0 k1 k2 k3 k5 newId))
    (hi : W.Looks (model prog w) h (typeLookup (.ref C) "__init__") (some (.ref fI))) (hb : ∀ self, W.Looks (model prog w) h (bindSpecial (.ref fI) self) (.ref fI, [self])) (hrest : rest.length ≤ sizeLine)
    (hq : codeAny (model prog w) A (.call (.ref fI) ⟨.ref (h.objs.size + 1) :: rest, kw⟩)
      (fun r s' => match r with | .ok (.ret v) => v = .none ∧ Q (.done (.ret (.ref (h.objs.size + 1)))) s' | .ok _ => False | .error e => E e s')
      ⟨(h.push (W.kdv_tup rest)).push (PySem.HandSPX.excO C h.objs.size), g, d, t, os⟩) :
    wpAny (model prog w) A (Builtin.«type.__call__» ⟨.ref C :: rest, kw⟩) Q E ⟨h, g, d, t, os⟩ := by
  repeat (first | with_reducible refine wpAny_loadPart_at hC ?_ | with_reducible refine wpAny_madeBy_exc hC ?_ | wp_step)
  refine codeAny_call_builtin_code (Code.quiet_builtin _ F.quiet) (check_new_kw F hT hC ?_)
  refine new_kw F hT hC ?_ hrest
  show wpAny _ _ _ _ _ _
  have k : ∀ b o, h.get? b = some o → ((h.push (W.kdv_tup rest)).push (PySem.HandSPX.excO C h.objs.size)).get? b = some o := fun b o e => Heap.get?_push_of_some _ (Heap.get?_push_of_some _ e)
  have hC₁ := k _ _ hC
  have hget : ((h.push (W.kdv_tup rest)).push (PySem.HandSPX.excO C h.objs.size)).get? (h.objs.size + 1) = some (PySem.HandSPX.excO C h.objs.size) := by heap_get
  have hcC : (Value.ref C :: bm).contains (.ref C) = true := by simp
  have i1 := hi.keeps k
  have b1 := (hb (.ref (h.objs.size + 1))).keeps k
  unfold isInstance
  repeat (first | with_reducible refine wpAny_loadPart_at hget ?_ | (with_reducible refine wpAny_isSubtype_exc hC₁ ?_; rw [hcC]) | wp_step)
  show wpAny _ _ (typeLookup (.ref C) _) _ _ _
  refine i1.at ?_
  refine wpAny_holding (wpAny_bind (b1.at ?_))
  refine wpAny_bind (wpAny_call (codeAny_mono hq fun r s' z => ?_))
  rcases r with e | (v | _ | _ | _) <;> first | exact z | exact z.elim | skip
  obtain ⟨rfl, z⟩ := z
  first
    | exact wpAny_pure (wpAny_pure z)
    | (wp_walk; exact z)
theorem call_kw (F : ExcBaseFacts B newId initId bmB) (hT : ∀ X : String, bm.contains (.type X) = bmB.contains (.type X)) {rest : List Value} {kw : List (Str × Value)} {fI : Addr}
    (hC : h.get? C = some (excClassObj nm q C N bs bm hdct sn sub ab col dd k0 k1 k2 k3 k5 newId))
    (hi : W.Looks (model prog w) h (typeLookup (.ref C) "__init__") (some (.ref fI))) (hb : ∀ self, W.Looks (model prog w) h (bindSpecial (.ref fI) self) (.ref fI, [self])) (hrest : rest.length ≤ sizeLine)
    (hq : codeAny (model prog w) (A.under (.builtin "type.__call__" ⟨.ref C :: rest, kw⟩)) (.call (.ref fI) ⟨.ref (h.objs.size + 1) :: rest, kw⟩) (W.InitBack (h.objs.size + 1) R)
      ⟨(h.push (W.kdv_tup rest)).push (PySem.HandSPX.excO C h.objs.size), g, d, t, os⟩) :
    codeAny (model prog w) A (.call (.ref C) ⟨rest, kw⟩) R ⟨h, g, d, t, os⟩ := by
  have f1 := tc_lookup
  have f2 := tc_bind (.ref C)
  have hTy : (⟨h, g, d, t, os⟩ : Shared).TypeIs (.ref C) "type" := ⟨_, hC, rfl⟩
  refine codeAny_of_tree ?_
  show wpAny _ _ (callAny (.ref C) _) _ _ _
  repeat (any_goals (first | assumption | with_reducible refine wpAny_loadPart_at hC ?_ | wp_step))
  refine ⟨rfl, ?_⟩
  refine codeAny_call_builtin_at (Code.quiet_builtin _ (by decide +kernel)) entry_typeCall (wpAny_check_type_call_sub hC (type_call_kw F hT hC hi hb hrest ?_))
  refine codeAny_mono hq fun r s' z => ?_
  rcases r with e | (v | _ | _ | _) <;> exact z
end
end MXP
end PySem


namespace M
open PySem PySem.Spec PyProof.Rows L2
/-! ### a def with the cell `__class__` -/
structure SuScope (N P : List Str) (sc : Scope) : Prop where
  kind : sc.kind = .function
  co : sc.isCoroutine = false
  gen : sc.isGenerator = false
  nd : N.Nodup
  pre : N.take P.length = P
  par : ∀ x ∈ P, sc.names.lookup x = some .local
  nocell : ∀ y ∈ sc.names, y.2 ≠ .cell
  free : ∀ y ∈ sc.names, y.2 = .free → y.1 = "__class__"
abbrev envS (qual : Str) (scope : Scope) (L f : Addr) (cd : Value) (cc : Addr) : Env := PySem.W.envX qual scope L f cd [("__class__", cc)]
def cxS (CX : CXT) (P : Program) (w : World) (K : PySem.W.Frag) (mg : Str → Option Value) (base : Heap) (N : List Str) (qual : Str) (scope : Scope) (f : Addr) (cd : Value) (cc : Addr) (A : Around) (outer : List Env) (s : Shared) (H : Hp) (E : XK) : Cx where
  prog := P
  w := w
  K := K
  mg := mg
  base := base
  A := A.deeper (envS qual scope s.heap.objs.size f cd cc)
  N := N
  s_0 := s
  H_0 := H
  env := envS qual scope s.heap.objs.size f cd cc
  outer := outer
  stack := envS qual scope s.heap.objs.size f cd cc :: outer
  ex := []
  calm := true
  fn := fun x => !(x == ("__class__" : Str))
  pn := []
  xe := fun e s' => wpAny (model P w) (A.deeper (envS qual scope s.heap.objs.size f cd cc)) (leaving (envS qual scope s.heap.objs.size f cd cc) e) (fun _ s'' => CX outer H s E e s'') (fun e' s'' => CX outer H s E e' s'') s'
theorem one_lookup {cc c : Addr} {y : Str} (h : ([("__class__", cc)] : List (Str × Addr)).lookup y = some c) : y = "__class__" ∧ c = cc := by
  simp only [List.lookup_cons, List.lookup_nil] at h
  split at h
  · rename_i e
    cases h
    exact ⟨eq_of_beq e, rfl⟩
  · cases h
theorem zip_rev {ps : List Str} {us : List Value} {i : Nat} {y : Str} {u : Value} (nd : ps.Nodup) (hp : ps[i]? = some y) (hu : us[i]? = some u) : (ps.zip us).reverse.lookup y = some u := by
  induction ps generalizing us i with
  | nil => simp at hp
  | cons p r ih =>
    cases us with
    | nil => simp at hu
    | cons v vs =>
      obtain ⟨n1, n2⟩ := List.nodup_cons.mp nd
      simp only [List.zip_cons_cons, List.reverse_cons]
      rw [List.lookup_append]
      cases i with
      | zero =>
        simp at hp hu
        subst hp hu
        have e : (r.zip vs).reverse.lookup p = none := by
          rw [List.lookup_eq_none_iff]
          intro q hq
          have m : q.1 ∈ r := (List.of_mem_zip (List.mem_reverse.mp hq : (q.1, q.2) ∈ r.zip vs)).1
          simp only [bne_iff_ne, ne_eq]
          rintro rfl
          exact n1 m
        rw [e]
        simp
      | succ i =>
        rw [ih n2 (by simpa using hp) (by simpa using hu)]
        simp
theorem inv_startS {CX : CXT} {P : Program} {w : World} {K : PySem.W.Frag} {mg : Str → Option Value} {base : Heap} {N ps : List Str} {qual : Str} {scope : Scope} {f cc : Addr} {cd : Value} {A : Around} {outer : List Env} {s : Shared} {H : Hp} {E : XK} {us : List Value} {vs : List V} {h1 : Heap} {tk : Nat} {ocl : Obj} {vc : Option Value}
    (S : SuScope N ps scope) (hd : A.handled = none) (e0 : Env0 P w K mg base A outer s H) (hl : vs.length = ps.length) (r : Vals vs us) (hcc : K.lookup cc = some ocl) (hcv : ocl.data = .cell vc)
    (hns : h1.Ns s.heap.objs.size (fun x => (ps.zip us).reverse.lookup x)) (hk : ∀ b o, s.heap.get? b = some o → h1.get? b = some o) :
    Inv (cxS CX P w K mg base N qual scope f cd cc A outer s H E) [] (start N vs) H { s with heap := h1, toks := tk } := by
  have hpl : ps.length ≤ N.length := by have := congrArg List.length S.pre; rw [List.length_take] at this; omega
  have noA : ∀ b : Addr, b ∉ (cxS CX P w K mg base N qual scope f cd cc A outer s H E).ex := fun b z => absurd (show b ∈ ([] : List Addr) from z) (by simp)
  have bcc : base.get? cc = some ocl := e0.mod.kin _ _ hcc
  refine ⟨⟨e0.mod, S.kind, rfl, rfl, Nat.le_refl _, fun y z c h1 h2 => ?_, fun y hy => ?_, fun y c hf h => ?_, fun _ => hd, Around.frames_deeper e0.frames, .inr ⟨rfl, rfl⟩, fun b z => absurd z (noA b), e0.bs, e0.bsz, fun b _ _ => noA b, fun b z => absurd z (noA b), e0.funs, e0.frf⟩,
    rfl, e0.bare, Un.kept hk, ⟨_, hns, fun i y v h1 h2 h3 => ?_⟩, fun y c h => ?_, e0.hok.fresh (Nat.le_refl _), fun y c h => ?_, fun p hp => absurd (show p ∈ ([] : List (Addr × Obj)) from hp) (by simp), e0.hok.kept hk, ?_⟩
  · exact (one_lookup h1).1.trans (one_lookup h2).1.symm
  · have hy : scope.names.lookup y = some .cell ∨ scope.names.lookup y = some .free := hy
    rcases hy with hy | hy
    · exact absurd rfl (S.nocell _ (PySem.mem_of_lookup hy))
    · have e := S.free _ (PySem.mem_of_lookup hy) rfl
      exact ⟨cc, by show ([("__class__", cc)] : List (Str × Addr)).lookup y = _; rw [show y = "__class__" from e]; simp⟩
  · have e := (one_lookup h).1
    subst e
    have hf2 : (!(("__class__" : Str) == ("__class__" : Str))) = true := hf
    simp at hf2
  · have hi : i < vs.length := by
      unfold L2.start at h2
      by_cases hi : i < vs.length
      · exact hi
      · rw [List.getElem?_append_right (by simpa using hi)] at h2
        rw [List.getElem?_replicate] at h2
        split at h2 <;> cases h2
    have ha : vs[i]? = some v := by
      unfold L2.start at h2
      rw [List.getElem?_append_left (by simpa using hi), List.getElem?_map] at h2
      cases e : vs[i]? with
      | none => rw [e] at h2; cases h2
      | some a => rw [e] at h2; cases h2; rfl
    obtain ⟨u, hu, rv⟩ := r.get ha
    have hp : ps[i]? = some y := by
      rw [← S.pre, List.getElem?_take_of_lt (by omega)]; exact h1
    have ndP : ps.Nodup := by rw [← S.pre]; exact S.nd.sublist (List.take_sublist _ _)
    exact ⟨u, rv, .inl ⟨S.par y (List.mem_of_getElem? hp), zip_rev ndP hp hu⟩⟩
  · obtain ⟨_, rfl⟩ := one_lookup h
    exact ⟨vc, ocl, hk _ _ (e0.bs _ _ bcc).1, hcv⟩
  · obtain ⟨_, rfl⟩ := one_lookup h
    exact (e0.bs _ _ bcc).2
  · unfold L2.start
    show _ = N.length
    rw [List.length_append, List.length_map, List.length_replicate]
    omega
end M


namespace M
open PySem PySem.Spec PyProof.Rows L2
abbrev fnS (name qual : Str) (params : Arguments) (body : List Stmt) (scope : Scope) (dV kV doc pm : Value) (an : Option Addr) (cdv ct : Value) (cc : Addr) : FuncData := PySem.W.fnX name qual params body scope [("__class__", cc)] dV kV doc pm an cdv ct
theorem fn_ofS {CX : CXT} {P : Program} {w : World} {K : PySem.W.Frag} {mg : Str → Option Value} {base : Heap} {k : Nat} {f cc : Addr} {name qual : Str} {params : Arguments} {body : List Stmt} {scope : Scope} {dV kV doc pm cdv ct oc : Value} {an od : Option Addr}
    {osl : Array (Option Value)} {N ps : List Str} {sp : Sp} {ocl : Obj} {vc : Option Value} (lk : K.lookup f = some ⟨oc, od, .func (fnS name qual params body scope dV kV doc pm an cdv ct cc), osl⟩) (hcd : PySem.W.codeIn K cdv qual = true) (S : SuScope N ps scope)
    (hcc : K.lookup cc = some ocl) (hcv : ocl.data = .cell vc)
    (len : ∀ vs H Q E, sp vs H Q E → vs.length = ps.length)
    (hbody : ∀ (A : Around) (outer : List Env) (s : Shared) (H : Hp) (vs : List V) (Q : VK) (E : XK) (s1 : Shared), Room k (A.deeper (envS qual scope s.heap.objs.size f cdv cc)) → sp vs H Q E →
      Inv (cxS CX P w K mg base N qual scope f cdv cc A outer s H E) [] (L2.start N vs) H s1 →
      PySem.wpAt (model P w) (cxS CX P w K mg base N qual scope f cdv cc A outer s H E).A (.func body (envS qual scope s.heap.objs.size f cdv cc)) (execs body (envS qual scope s.heap.objs.size f cdv cc))
        (SP (cxS CX P w K mg base N qual scope f cdv cc A outer s H E) [] { nx := fun _ H' => Q .non H', rt := Q }) (cxS CX P w K mg base N qual scope f cdv cc A outer s H E).xe s1) :
    FnOk P w K mg base CX (k + 1) f (fnS name qual params body scope dV kV doc pm an cdv ct cc) ps sp := by
  refine ⟨len, fun A outer s H args us vs Q E hr e0 hb r hsp => ?_⟩
  have hl := len _ _ _ _ hsp
  have KX : K.In s.heap := e0.mod.kin.keeps fun b o e => (e0.bs b o e).1
  have lim : s.heap.NoLimit := e0.mod.nolimit.keeps fun b o e => (e0.bs b o e).1
  refine PySem.ks_codeAny_call_defAt hr.depth (KX _ _ lk) rfl lim (PySem.W.codeRec_of KX hcd) rfl hb S.nocell (fun y hy => S.par y.1 (List.of_mem_zip (show (y.1, y.2) ∈ ps.zip us from hy)).1) (fun h1 hns hk => ?_) S.co S.gen S.kind
  have I := inv_startS (CX := CX) (qual := qual) (f := f) (cd := cdv) (E := E) (tk := s.toks + (ps.zip us).length) S hr.hd e0 hl r hcc hcv hns hk
  refine PySem.ks_wpAt_mono (hbody A outer s H vs Q E _ (hr.deeper _) hsp I) (fun fl s' hs => ?_) fun e s' hs => hs
  have fin : ∀ {σ' : L2.St} {H' : Hp} {v : V} {u : Value}, Inv (cxS CX P w K mg base N qual scope f cdv cc A outer s H E) [] σ' H' s' → RelV v u → Q v H' → CE outer P w H s Q u s' :=
    fun {σ' H' v u} J rv q => ⟨v, H', J.os, J.bare, J.base, J.hok, rv, q⟩
  cases fl with
  | ret u =>
    obtain ⟨v, σ', H', J, rv, q⟩ := hs
    exact fin J rv q
  | next =>
    obtain ⟨σ', H', J, q⟩ := hs
    exact fin (v := V.non) (u := Value.none) J rfl q
  | brk =>
    obtain ⟨_, _, _, q⟩ := hs
    exact False.elim q
  | cont =>
    obtain ⟨_, _, _, q⟩ := hs
    exact False.elim q
end M


namespace M
open PySem PySem.Spec PyProof.Rows L2
/-! ### super().__init__(text) in an own exception -/
section
open PySem.W
variable {prog : Program} {w : World} {A : Around} {E : Value → Shared → Prop} {h : Heap} {g : Array GenState} {d : Drawn} {t : Nat} {os : OsState} {K : Frag} {C : Addr} {B newId i : String} {bmB : List Value}
theorem mw_call {u e t0 : Addr} {rest : List Value} {Q : Value → Shared → Prop} (FB : ExcBaseFacts B newId i bmB) (X : K.In h) (q : excInitIn K C bmB newId = true) (he : h.get? e = some (excObj C t0 none .none)) (hu : h.get? u = some (kxs_mw i e)) (hz : rest.length ≤ sizeLine)
    (hq : ∀ h' t1, (∀ b o, b ≠ e → h.get? b = some o → h'.get? b = some o) → h'.get? e = some (excObj C t1 none .none) → Q .none ⟨h', g, d, t, os⟩) :
    wpAny (model prog w) A (call (.ref u) rest) Q E ⟨h, g, d, t, os⟩ := by
  obtain ⟨nm, N', qn, bs, bm, hdct, sn, sub, ab, col, dd, k0, k1, k2, k3, k5, hC, hT⟩ := excInit_of X q
  refine wpAny_call (codeAny_of_tree ?_)
  show wpAny _ A.in1 (callAny (.ref u) ⟨rest, []⟩) _ _ _
  simp only [callAny]
  refine wpAny_bind (wpAny_load hu ?_)
  simp only [kxs_mw, show (Value.type "method-wrapper" == Value.type "method" || Value.type "method-wrapper" == Value.type "builtin_function_or_method" || Value.type "method-wrapper" == Value.type "method-wrapper") = true by decide, if_true]
  refine KFB.if_so (by decide) ?_
  refine wpAny_bind (check_bound_init FB.toExcCallFacts hC he rfl ?_)
  refine wpAny_bind (wpAny_pure (wpAny_pure ?_))
  refine ⟨plainId_quiet FB.init.plain _, codeAny_builtin FB.initEntry ?_⟩
  exact exc_init_tree (cls := .ref C) (t0 := t0) (dv := none) (c2 := .none) (c3 := .none) (b4 := .bool false) he hz fun h' k e' _ => hq h' _ k e'
end
/-- what the written part says of the class, for super().__init__ -/
structure SuC (K : PySem.W.Frag) (C D : Addr) (B newId i : String) (bmB : List Value) : Prop where
  fb : ExcBaseFacts B newId i bmB
  kx : PySem.W.KxsFacts B i
  cls : PySem.W.excInitIn K C bmB newId = true
  sub : PySem.W.mroIn K C (.ref D) = some true
  sup : PySem.W.ks_superIn K C D "__init__" = some (some (.builtin i))
  isB : PySem.W.subIn K (.ref C) (.type B) = some true
  no : PySem.W.nsIn K PySem.cStatics "thirdparty.any" = some none
/-- what the text and the written part say of the def -/
structure SuF (X : Cx) (me : Str) (D : Addr) : Prop where
  ks : X.env.kindOf "super" = some .globalImplicit
  kc : X.env.kindOf "__class__" = some .free
  loc : X.env.kindOf me = some .local
  N0 : X.N[0]? = some me
  mg : X.mg "super" = none
  top : (X.prog.main.scope.names.lookup ("super" : Str)).isSome = false
  fn : ∃ (f : Addr) (oc : Value) (od : Option Addr) (fd : FuncData) (osl : Array (Option Value)) (ar : Arg), X.env.func = some f ∧ X.K.lookup f = some ⟨oc, od, .func fd, osl⟩ ∧ (fd.params.posonlyargs ++ fd.params.args).head? = some ar ∧ ar.arg = me
  code : ∃ (cda : Addr) (ccl : Value) (cdd : Option Addr) (vs : Array Value) (ccs : Array (Option Value)) (file : Str) (tf : Tok), X.env.code = .ref cda ∧ X.K.lookup cda = some ⟨ccl, cdd, .fields vs, ccs⟩ ∧ vs[2]? = some (.str file tf) ∧ ((X.prog.main.file : Str) == file) = true
  cell : ∃ (cc : Addr) (cl : Value) (cld : Option Addr) (csl : Array (Option Value)), X.env.cells.lookup ("__class__" : Str) = some cc ∧ X.K.lookup cc = some ⟨cl, cld, .cell (some (.ref D)), csl⟩
  clsD : ∃ cdD, PySem.W.clsIn X.K D = some cdD
theorem super_row {X : Cx} {pins : List (Addr × Obj)} {σ : L2.St} {H : Hp} {s : Shared} {a C D : Addr} {B newId i : String} {bmB : List Value} {body : List Stmt} {me txt : Str} {j : Nat} {p0 p1 apos cp pos epos : Pos} {pl : Sem Bool} {Q : Flow → Shared → Prop}
    (T : SuC X.K C D B newId i bmB) (G : SuF X me D) (I : Inv X pins σ H s) (e : H a = some (exo a C none)) (hv : σ[0]? = some (some (.ref a))) (h : ∀ s', Inv X pins σ H s' → Q .next s')
    (hsw : swapsWith (.Call (.Attribute (.Call (.Name "super" p0) [] [] p1) "__init__" apos) [.Constant (.str txt) j cp] [] pos) none epos.line X.env = pure false)
    (he : eval (.Call (.Attribute (.Call (.Name "super" p0) [] [] p1) "__init__" apos) [.Constant (.str txt) j cp] [] pos) X.env = (do
      let ov ← attributeBase (.Call (.Name "super" p0) [] [] p1) "__init__" X.env (eval (.Call (.Name "super" p0) [] [] p1) X.env)
      standAt apos.atName
      let (f, first) ← holding [ov] (getMethod ov "__init__" pl)
      callWith pos f first (backTo pos (starEach [.Constant (.str txt) j cp] X.env)) []) := by rfl) :
    PySem.wpAt (model X.prog X.w) X.A (.func body X.env) (exec (.Expr (.Call (.Attribute (.Call (.Name "super" p0) [] [] p1) "__init__" apos) [.Constant (.str txt) j cp] [] pos) epos) X.env) Q X.xe s := by
  obtain ⟨f, oc, od, fd, osl, ar, hfu, lk, hp, har⟩ := G.fn
  obtain ⟨cda, ccl, cdd, vs, ccs, file, tf, hco, hcode, hvs, hfile⟩ := G.code
  obtain ⟨cc, cl, cld, csl, hcell, hcc⟩ := G.cell
  obtain ⟨cdD, hD⟩ := G.clsD
  have KX := I.kIn
  obtain ⟨oD, hD1, hD2⟩ : ∃ oD, s.heap.get? D = some oD ∧ oD.data = .cls cdD := by
    unfold PySem.W.clsIn at hD
    split at hD
    · rename_i c d cd' sl ho
      cases hD
      exact ⟨_, KX _ _ ho, rfl⟩
    · cases hD
  obtain ⟨mL, hnL, hL⟩ := I.loc
  obtain ⟨us, rus, lus⟩ := hL 0 me _ G.N0 hv (.inl G.loc)
  obtain rfl : us = Value.ref a := rus
  have hml : mL me = some (.ref a) := by
    rcases lus with ⟨_, q⟩ | ⟨q, _⟩
    · exact q
    · rw [G.loc] at q; rcases q with q | q <;> cases q
  obtain ⟨t1, ho⟩ := exo_at I.hok e
  obtain ⟨mb, b1, b2⟩ := I.mod.blt
  refine PySem.ks_wpAt_Expr_any (hi := I.quiet) (hs := hsw) (PySem.ks_wpAt_MethodCall (PySem.ks_wpAt_super_base G.ks G.kc (by decide) hfu (KX _ _ lk) rfl hp hco (KX _ _ hcode) rfl hvs hfile G.top ?_) he)
  refine PySem.W.ks_loadName_global I.ok.kind G.ks (Calls.loadGlobal_builtin (by rw [I.ok.glob]; exact I.mod.glob.keeps I.bk) G.mg (by rw [I.ok.blt]; exact b1.keeps I.bk) ((b2 "super" (by decide)).trans (show bootBuiltins "super" = some (.type "super") by decide +kernel)) ⟨rfl, ?_⟩)
  refine wpAny_loadName_free I.ok.kind G.kc hcell ⟨_, KX _ _ hcc, rfl⟩ ?_
  rw [har]
  refine wpAny_loadName_local I.ok.kind G.loc hnL hml ?_
  refine PySem.ks_wpAny_isType_cls hD1 hD2 ⟨rfl, ?_⟩
  obtain ⟨hh, g, d, t, os⟩ := s
  refine PySem.ks_wpAny_call_super hD1 hD2 ho rfl (fun c z => by cases z) (PySem.W.looks_mroIn KX T.sub) (fun h1 e1 kk1 => ?_)
  have I1 : Inv X pins σ H ⟨h1, g, d, t, os⟩ := I.kept (t' := t) kk1
  have hsup := T.sup
  unfold PySem.W.ks_superIn at hsup
  cases hc : PySem.W.clsIn X.K C with
  | none => rw [hc] at hsup; cases hsup
  | some cd =>
    rw [hc, Option.bind_some] at hsup
    have IA : PySem.W.InstAt h1 a { cls := .ref C, dict := none, data := .fields #[.ref t1, .none, .none, .none, .bool false, .none] } C none := ⟨kk1 _ _ ho, rfl, rfl, trivial⟩
    have KX1 := I1.kIn
    refine PySem.W.kxs_getMethod T.kx e1 (PySem.W.looks_opaque KX1 T.no) (l₀ := cd.mro) ?_ rfl KX1 hsup (IA.type.andThen (PySem.W.looks_subIn KX1 T.isB)) (PySem.W.ks_ne KX1 IA hc) (by decide) ?_
    · exact fun A Q E s k q => wpAny_bind ((PySem.W.looks_clsIn KX1 hc) A _ E s k (wpAny_pure q))
    · have kk2 : ∀ b o, h1.get? b = some o → (h1.push (PySem.W.kxs_mw i a)).get? b = some o := fun b o z => Heap.get?_push_of_some _ z
      have hu : (h1.push (PySem.W.kxs_mw i a)).get? h1.objs.size = some (PySem.W.kxs_mw i a) := Heap.get?_push_at rfl rfl
      have I2 : Inv X pins σ H ⟨h1.push (PySem.W.kxs_mw i a), g, d, t + 2, os⟩ := I1.kept (t' := t + 2) kk2
      refine PySem.W.kxs_callWith (i := i) (x := a) rfl (PySem.Calls.evalArgs_plain (Calls.spliced_cons (Calls.Constant_str (k := j) (pos := cp) (Calls.spliced_nil ⟨hu, ?_⟩))))
      refine mw_call T.fb I2.kIn T.cls (kk2 _ _ (kk1 _ _ ho)) hu (by show 1 ≤ sizeLine; decide) fun h3 t3 k3 e3 => ?_
      have J := I2.write (t' := t + 2) (x := a) (e := a) (o := exo a C none) (by rw [e]; exact True.intro) (.inl rfl) k3 ⟨_, e3⟩ (exo_ok e3)
      have eu : upd H a (exo a C none) = H := by
        funext b
        by_cases hb : b = a
        · rw [hb, upd_same, e]
        · rw [upd_ne hb]
      rw [eu] at J
      exact h _ J
end M


namespace M
open PySem PySem.Spec PyProof.Rows L2
/-! ### fields of an own exception, of either base -/
structure OexG (K : PySem.W.Frag) (C : Addr) : Prop where
  sa : PySem.W.findIn K (.ref C) "__setattr__" = some (some (.builtin "object.__setattr__"))
  new : ∀ {prog : Program} {w : World} {A : Around} {R : Result → Shared → Prop} {hp : Heap} {g : Array GenState} {d : Drawn} {t : Nat} {os : OsState} {name : Str} {tk : Tok} {v : Value} {x : Addr} {fv : Array Value},
    K.In hp → hp.get? x = some { cls := .ref C, data := .fields fv } → PySem.W.findIn K (.ref C) name = some none →
    (∀ h' tk' dx, (∀ b o, b ≠ x → hp.get? b = some o → h'.get? b = some o) → hp.objs.size ≤ dx → dx ≠ x → h'.get? x = some { cls := .ref C, dict := some dx, data := .fields fv } →
      h'.Ns1 dx (fun y => if y = name then some v else none) → R (.ok (.ret .none)) ⟨h', g, d, tk', os⟩) →
    codeAny (model prog w) A (.call (.builtin "object.__setattr__") ⟨[.ref x, .str name tk, v], []⟩) R ⟨hp, g, d, t, os⟩
  old : ∀ {prog : Program} {w : World} {A : Around} {R : Result → Shared → Prop} {hp : Heap} {g : Array GenState} {d : Drawn} {t : Nat} {os : OsState} {name : Str} {tk : Tok} {v : Value} {x dx : Addr} {fv : Array Value} {m0 : Str → Option Value} {nl : List Str},
    K.In hp → hp.get? x = some { cls := .ref C, dict := some dx, data := .fields fv } → hp.Ns1 dx m0 → Within m0 nl → nl.length ≤ 1000 → PySem.W.findIn K (.ref C) name = some none →
    (∀ h' tk', (∀ b o, b ≠ dx → hp.get? b = some o → h'.get? b = some o) → h'.Ns1 dx (fun y => if y = name then some v else m0 y) → R (.ok (.ret .none)) ⟨h', g, d, tk', os⟩) →
    codeAny (model prog w) A (.call (.builtin "object.__setattr__") ⟨[.ref x, .str name tk, v], []⟩) R ⟨hp, g, d, t, os⟩
theorem OexG.ve {K : PySem.W.Frag} {C : Addr} (T : OexC K C) : OexG K C := by
  obtain ⟨nm, q, N, bs, bm, sn, sub, ab, col, dd, k0, k1, k2, k3, k5, hC, hbm⟩ := T.cls
  have hcl : PySem.W.clsIn K C = some { name := nm, bases := bs, mro := .ref C :: bm, ns := N, qualname := q, hasDict := true, slotNames := sn, subclasses := sub, abstract := ab, collection := col, hasDel := false } := by unfold PySem.W.clsIn; rw [hC] <;> rfl
  have hm : PySem.HandSPX.refsVE (.ref C :: bm) = true := hbm
  exact ⟨T.sa, fun X hx ha hq => PySem.HandSPX.exc_osa X hx hcl hm rfl ha hq, fun X hx hn hw hz ha hq => PySem.OEX.osa_old X hx hn hw hz hcl hm rfl ha hq⟩
theorem OexG.ex {K : PySem.W.Frag} {C : Addr} {cd : ClassData} (sa : PySem.W.findIn K (.ref C) "__setattr__" = some (some (.builtin "object.__setattr__"))) (hcl : PySem.W.clsIn K C = some cd) (hm : cd.mro = .ref C :: PySem.ESX.exTail) (hh : cd.hasDict = true) : OexG K C :=
  ⟨sa, fun X hx ha hq => PySem.ESX.osa_new X hx hcl hm hh ha hq, fun X hx hn hw hz ha hq => PySem.ESX.osa_old X hx hn hw hz hcl hm hh ha hq⟩
section
variable {X : Cx} {pins : List (Addr × Obj)} {σ : L2.St} {H : Hp} {s : Shared} {a C dx : Addr} {f : Str} {y : V} {u : Value} {fs : List (Str × V)} {Q : Unit → Shared → Prop} {E : Value → Shared → Prop} {A : Around}
theorem ostG_new (T : OexG X.K C) (I : Inv X pins σ H s) (e : H a = some (exo a C none)) (hno : PySem.W.findIn X.K (.ref C) f = some none) (ry : RelV y u)
    (h : ∀ dx s', H dx = none → dx ≠ a → Inv X pins σ (upd (upd H dx (exd dx [(f, y)])) a (exo a C (some dx))) s' → Q () s') : wpAny (model X.prog X.w) A (setAttr (.ref a) f u) Q E s := by
  obtain ⟨t1, ho⟩ := exo_at I.hok e
  obtain ⟨hp, g, d, t, os⟩ := s
  refine PySem.W.set_plain I.kIn (ox := { cls := .ref C, dict := none, data := .fields #[.ref t1, .none, .none, .none, .bool false, .none] }) (od := none) ⟨ho, rfl, rfl, trivial⟩ T.sa ?_
  refine T.new I.kIn ho hno fun h2 tk2 dx k dn dne hx hn => ?_
  have nH : H dx = none := I.hok.fresh dn
  have ne1 : ∀ {b : Addr} {o : Obj}, hp.get? b = some o → b ≠ dx := fun {b o} z => Nat.ne_of_lt (Nat.lt_of_lt_of_le (Heap.lt_size z) dn)
  have ne2 : ∀ {b : Addr}, H b = none → b ≠ a := fun {b} n z => by rw [z, e] at n; cases n
  have U : Un X.fs [] H (upd (upd H dx (exd dx [(f, y)])) a (exo a C (some dx))) hp h2 := {
    keep := fun b o z n _ _ => k b o (ne2 n) z
    slot := fun b o z n _ _ => ⟨o.slots, k b o (ne2 n) z⟩
    free := fun b o z n _ => by rw [upd_ne (ne2 n), upd_ne (ne1 z)]; exact n
    there := fun b o z _ => by
      by_cases hb : b = a
      · subst hb; exact ⟨_, hx⟩
      · exact ⟨o, k b o hb z⟩
    tups := fun b xs z => by rw [upd_ne (at_ne e z exo_tup), upd_ne (ne_of_none z nH)]; exact z
    frzs := fun b o v z => by rw [upd_ne (at_ne e z exo_frz), upd_ne (ne_of_none z nH)]; exact z
    tbls := fun b ps z => ⟨#[], by rw [upd_ne (at_ne e z exo_tbl), upd_ne (ne_of_none z nH), z]; simp⟩ }
  refine h dx _ nH dne (I.un (t' := tk2) U fun b o z => ?_)
  by_cases hb : b = a
  · subst hb
    rw [upd_same] at z
    cases z
    exact exo_ok hx
  rw [upd_ne hb] at z
  by_cases hd : b = dx
  · subst hd
    rw [upd_same] at z
    cases z
    exact exd_ok hn (relO_put (fs := []) ry fun _ => True.intro)
  rw [upd_ne hd] at z
  refine (I.hok b o z).stay (fun c v hc w => k c v ?_ w) (fun c hc => ?_) (fun c xs hc => ?_)
  · rcases hc with hc | hc
    · rw [hc]; exact hb
    · exact at_ne e hc exo_own
  · rw [upd_ne (at_ne e hc exo_own), upd_ne (ne_of_none hc nH)]; exact hc
  · rw [upd_ne (at_ne e hc exo_tup), upd_ne (ne_of_none hc nH)]; exact hc
theorem ostG_old (T : OexG X.K C) (I : Inv X pins σ H s) (e : H a = some (exo a C (some dx))) (ed : H dx = some (exd dx fs)) (hl : fs.length ≤ 900) (hno : PySem.W.findIn X.K (.ref C) f = some none) (ry : RelV y u)
    (h : ∀ s', Inv X pins σ (upd H dx (exd dx ((f, y) :: fs))) s' → Q () s') : wpAny (model X.prog X.w) A (setAttr (.ref a) f u) Q E s := by
  obtain ⟨t1, ho⟩ := exo_at I.hok e
  obtain ⟨mA, hns, rel⟩ := exd_at I.hok ed
  have hw := within_of rel
  obtain ⟨hp, g, d, t, os⟩ := s
  obtain ⟨oD, _, _, hoD, _, _⟩ := hns.count hw
  refine PySem.W.set_plain I.kIn (ox := { cls := .ref C, dict := some dx, data := .fields #[.ref t1, .none, .none, .none, .bool false, .none] }) (od := some oD) ⟨ho, rfl, rfl, hoD⟩ T.sa ?_
  refine T.old I.kIn ho hns hw (by rw [List.length_map]; omega) hno fun h2 tk2 k hn => ?_
  have hd : ∃ o, h2.get? dx = some o := by
    obtain ⟨o, _, _, z, _⟩ := hn
    exact ⟨o, z⟩
  exact h _ (I.write (t' := tk2) (x := dx) (e := dx) (o := exd dx ((f, y) :: fs)) (by rw [ed]; exact True.intro) (.inl rfl) k hd (exd_ok hn (relO_put ry rel)))
end
/-- self.f = e -/
def tOstG (K : PySem.W.Frag) (f : Str) (to te : TE) : TS := fun D σ H => te σ H fun y H1 => to σ H1 fun x H2 => ∃ a C : Addr, x = .ref a ∧ OexG K C ∧ PySem.W.findIn K (.ref C) f = some none ∧
  ((H2 a = some (exo a C none) ∧ ∀ dx, H2 dx = none → dx ≠ a → D.nx σ (upd (upd H2 dx (exd dx [(f, y)])) a (exo a C (some dx)))) ∨
    ∃ (dx : Addr) (fs : List (Str × V)), H2 a = some (exo a C (some dx)) ∧ H2 dx = some (exd dx fs) ∧ fs.length ≤ 900 ∧ D.nx σ (upd H2 dx (exd dx ((f, y) :: fs))))
theorem ps_ostG {X : Cx} {o e : Expr} {to te : TE} {f : Str} {p' pos : Pos} (ho : PE X o to) (he : PE X e te) (hs : swapsWith e (some (.Attribute o f p')) pos.line X.env = pure false := by rfl) : PS X (.Assign [.Attribute o f p'] e pos) (tOstG X.K f to te) := by
  refine ⟨fun pins s σ H D I h => ?_⟩
  refine plainObj_wpAny_Assign_Attribute (thn (he.run pins s σ H _ I h) fun v s1 ⟨y, H1, I1, r1, q1⟩ => thn (ho.run pins s1 σ H1 _ I1 q1) fun u s2 ⟨x, H2, I2, r2, a, C, ex, T, hno, q⟩ => ?_) hs
  subst ex
  obtain rfl : u = Value.ref a := r2
  rcases q with ⟨ea, q⟩ | ⟨dx, fs, ea, ed, hl, q⟩
  · exact ostG_new T I2 ea hno r1 fun dx s' n ne J => ⟨σ, _, J, q dx n ne⟩
  · exact ostG_old T I2 ea ed hl hno r1 fun s' J => ⟨σ, _, J, q⟩
/-- the body: super().__init__(text), then rows -/
theorem su_body {X : Cx} {pins : List (Addr × Obj)} {σ : L2.St} {H : Hp} {s : Shared} {a C D : Addr} {B newId i : String} {bmB : List Value} {body rest : List Stmt} {me txt : Str} {j : Nat} {p0 p1 apos cp pos epos : Pos} {pl : Sem Bool} {t : TS} {Dn : Ends}
    (T : SuC X.K C D B newId i bmB) (G : SuF X me D) (I : Inv X pins σ H s) (e : H a = some (exo a C none)) (hv : σ[0]? = some (some (.ref a))) (hr : PSs X rest t) (h : t Dn σ H)
    (hsw : swapsWith (.Call (.Attribute (.Call (.Name "super" p0) [] [] p1) "__init__" apos) [.Constant (.str txt) j cp] [] pos) none epos.line X.env = pure false)
    (he : eval (.Call (.Attribute (.Call (.Name "super" p0) [] [] p1) "__init__" apos) [.Constant (.str txt) j cp] [] pos) X.env = (do
      let ov ← attributeBase (.Call (.Name "super" p0) [] [] p1) "__init__" X.env (eval (.Call (.Name "super" p0) [] [] p1) X.env)
      standAt apos.atName
      let (f, first) ← holding [ov] (getMethod ov "__init__" pl)
      callWith pos f first (backTo pos (starEach [.Constant (.str txt) j cp] X.env)) [])) :
    PySem.wpAt (model X.prog X.w) X.A (.func body X.env) (execs (.Expr (.Call (.Attribute (.Call (.Name "super" p0) [] [] p1) "__init__" apos) [.Constant (.str txt) j cp] [] pos) epos :: rest) X.env) (SP X pins Dn) X.xe s := by
  refine PySem.ks_wpAt_execs_cons (super_row T G I e hv (fun s' I' => ?_) hsw he)
  exact wpAt_of_wpAny (hr.run pins s' σ H Dn I' h)
end M


namespace M
open PySem PySem.Spec PyProof.Rows L2
/-! ### an own exception with keyword-only fields -/
/-- what the written part says of the class x at C, its __init__ at fI; fs: its fields in order -/
structure XCls (K : PySem.W.Frag) (C fI : Addr) (B newId i : String) (bmB : List Value) (fs : List Str) : Prop where
  su : SuC K C C B newId i bmB
  og : OexG K C
  exC : PySem.W.subIn K (.ref C) (.type "BaseException") = some true
  tyC : PySem.W.typeIn K (.ref C) = some (.type "type")
  kC : PySem.W.keepIn K (.ref C) = true
  iC : PySem.W.findIn K (.ref C) "__init__" = some (some (.ref fI))
  tI : PySem.W.typeIn K (.ref fI) = some (.type "function")
  no : ∀ f ∈ fs, PySem.W.findIn K (.ref C) f = some none
def sp_ini (C : Addr) (fs : List Str) : Sp := fun vs H Q _ => ∃ a ws, vs = .ref a :: ws ∧ ws.length = fs.length ∧ H a = some (exo a C none) ∧ ∀ d, H d = none → d ≠ a → Q .non (upd (upd H d (exd d (fs.zip ws).reverse)) a (exo a C (some d)))
/-- C(k = e, ..) -/
def tMkK (C : Addr) (fs : List Str) (ta : TA) : L2.St → Hp → XK → Prop := fun σ H Q => ta σ H fun zs H1 => zs.length = fs.length ∧ zs.length ≤ 1000 ∧ ∀ d, H1 d = none → Q (.ref C) (some d) (upd H1 d (.xd (fs.zip zs).reverse))
theorem upd_del {H1 : Hp} {a d : Addr} {o1 o2 : HO} (ha : H1 a = none) (hd : d ≠ a) : upd (del (upd (upd (upd H1 a o1) d o2) a o1) a) d o2 = upd H1 d o2 := by
  funext b
  by_cases h1 : b = d
  · rw [h1, upd_same, upd_same]
  · rw [upd_ne h1, upd_ne h1]
    by_cases h2 : b = a
    · rw [h2, del_same, ha]
    · rw [del_ne h2, upd_ne h2, upd_ne h1, upd_ne h2]
theorem mk_endN {X : Cx} {pins : List (Addr × Obj)} {σ : L2.St} {H1 H2 : Hp} {Q : XK} {hp hp2 h2 : Heap} {g1 g2 : Array GenState} {d1 d2 : Drawn} {t1 t2 : Nat} {os1 os2 : OsState} {a C d : Addr} {fs : List (Str × V)} (T : Raises X (.ref C)) (I1 : Inv X pins σ H1 ⟨hp, g1, d1, t1, os1⟩)
    (ha : hp.objs.size ≤ a) (k : ∀ b o, hp.get? b = some o → hp2.get? b = some o) (un : Un (frs X.stack) [] (upd H1 a (exo a C none)) H2 hp2 h2) (hok : HOk X.prog X.w H2 h2) (ho : os2 = os1) (hb : AllBare g2)
    (ea : H2 a = some (exo a C (some d))) (ed : H2 d = some (exd d fs)) (hd1 : H1 d = none) (q : Q (.ref C) (some d) (upd (del H2 a) d (.xd fs))) : L2N.MkP X pins σ Q (.ref a) ⟨h2, g2, d2, t2, os2⟩ := by
  obtain ⟨t0, G, J, kG, ge, hoe, na⟩ := mk_end0 (d2 := d2) (t2 := t2) I1 ha k un hok ho hb ea ed hd1
  exact ⟨a, _, _, ⟨G, g2, d2, t2, os2⟩, _, .ref C, some d, rfl, J, kG, ge, hoe, ⟨rfl, rfl, fun vs e => by cases e; rfl⟩, rfl, rfl, na, rfl, hb, T, q⟩
theorem pmk_kw {X : Cx} {CX : CXT} {x : Str} {C fI : Addr} {k : Nat} {fd : FuncData} {B newId i : String} {bmB : List Value} {fs : List Str} {kws : List Keyword} {tk : TA} {p pos : Pos} (T : XCls X.K C fI B newId i bmB fs) (F1 : FnOk X.prog X.w X.K X.mg X.base CX k fI fd ("self" :: fs) (sp_ini C fs)) (hr : Room (k + 1) X.A)
    (hb : ∀ (s : Shared) (u : Value) (ws : List Value), ws.length = fs.length → BindsTo s fd ⟨[u], fs.zip ws⟩ ((("self" : Str) :: fs).zip (u :: ws))) (hx : Passes CX X (fun _ _ _ => False)) (hg : Gl X x) (hm : X.mg x = some (.ref C)) (hkw : PK X kws tk)
    (hall : (backToKw pos (keywordEach kws X.env)).all (·.1.isSome) = true := by rfl) (hks : (backToKw pos (keywordEach kws X.env)).filterMap (·.1) = fs := by rfl) (hdb : (x == ("__debug__" : Str)) = false := by decide)
    (hpl : ((backTo pos (starEach [] X.env)).any (·.1) || (backToKw pos (keywordEach kws X.env)).any (·.1.isNone)) = false := by rfl) :
    L2N.PMk X (.Call (.Name x p) [] kws pos) (tMkK C fs tk) := by
  intro pins s σ H Q I h
  refine wpAny_Call_Name_kw (ld_glob I hg hm ?_ hdb)
  refine PySem.W.callWith_KW0 (h₀ := X.base) I.ok.mod.kin T.kC hall ?_ hpl
  refine thn (hkw.run pos pins s σ H _ I h) fun ws s1 ⟨zs, H1, I1, rz, lz, lz2, q1⟩ => ⟨I1.kIn, ?_⟩
  rw [hks]
  show wpAny _ _ (call (.ref C) [] (fs.zip ws)) _ _ _
  obtain ⟨nm, N', qn, bs, bm, hdct, sn, sub, ab, col, dd, k0, k1, k2, k3, k5, hC, hT⟩ := PySem.W.excInit_of I1.kIn T.su.cls
  obtain ⟨hp, g, dr, tkk, os⟩ := s1
  have hsz : hp.objs.size ≤ hp.objs.size + 1 := Nat.le_succ _
  have hn : H1 (hp.objs.size + 1) = none := I1.hok.fresh hsz
  have kk : ∀ b o, hp.get? b = some o → ((hp.push (PySem.W.kdv_tup [])).push (PySem.HandSPX.excO C hp.objs.size)).get? b = some o := fun b o e => Heap.get?_push_of_some _ (Heap.get?_push_of_some _ e)
  have hget : ((hp.push (PySem.W.kdv_tup [])).push (PySem.HandSPX.excO C hp.objs.size)).get? (hp.objs.size + 1) = some (PySem.HandSPX.excO C hp.objs.size) := by heap_get
  have I2 : Inv X pins σ (upd H1 (hp.objs.size + 1) (exo (hp.objs.size + 1) C none)) ⟨(hp.push (PySem.W.kdv_tup [])).push (PySem.HandSPX.excO C hp.objs.size), g, dr, tkk, os⟩ :=
    I1.laid (t' := tkk) (a := hp.objs.size + 1) (o := exo (hp.objs.size + 1) C none) (h' := (hp.push (PySem.W.kdv_tup [])).push (PySem.HandSPX.excO C hp.objs.size)) kk hsz (exo_ok hget)
  have lw : ws.length = fs.length := by rw [← rz.length]; exact lz
  have r2 : Vals (V.ref (hp.objs.size + 1) :: zs) (Value.ref (hp.objs.size + 1) :: ws) := .cons rfl rz
  have hsp : sp_ini C fs (V.ref (hp.objs.size + 1) :: zs) (upd H1 (hp.objs.size + 1) (exo (hp.objs.size + 1) C none))
      (fun v H2 => v = .non ∧ ∃ (d : Addr) (gs : List (Str × V)), H2 (hp.objs.size + 1) = some (exo (hp.objs.size + 1) C (some d)) ∧ H2 d = some (exd d gs) ∧ H1 d = none ∧ Q (.ref C) (some d) (upd (del H2 (hp.objs.size + 1)) d (.xd gs))) (fun _ _ _ => False) := by
    refine ⟨_, zs, rfl, lz, upd_same, fun d hd hda => ⟨rfl, d, (fs.zip zs).reverse, upd_same, ?_, ?_, ?_⟩⟩
    · rw [upd_ne hda, upd_same]
    · rw [upd_ne hda] at hd; exact hd
    · have hd1 : H1 d = none := by rw [upd_ne hda] at hd; exact hd
      have z := q1 d hd1
      have e : upd (del (upd (upd (upd H1 (hp.objs.size + 1) (exo (hp.objs.size + 1) C none)) d (exd d (fs.zip zs).reverse)) (hp.objs.size + 1) (exo (hp.objs.size + 1) C (some d))) (hp.objs.size + 1)) d (.xd (fs.zip zs).reverse) = upd H1 d (.xd (fs.zip zs).reverse) := by
        funext b
        by_cases h1 : b = d
        · rw [h1, upd_same, upd_same]
        · rw [upd_ne h1, upd_ne h1]
          by_cases h2 : b = hp.objs.size + 1
          · rw [h2, del_same, hn]
          · rw [del_ne h2, upd_ne h2, upd_ne h1, upd_ne h2]
      rw [e]
      exact z
  refine wpAny_call (PySem.MXP.call_kw T.su.fb hT hC (PySem.W.looks_findIn I1.kIn T.iC) (fun self => PySem.W.bind_fn I1.kIn self T.tI) (by show 0 ≤ _; exact Nat.zero_le _)
    (codeAny_mono (F1.run _ X.stack _ _ ⟨[Value.ref (hp.objs.size + 1)], fs.zip ws⟩ (Value.ref (hp.objs.size + 1) :: ws) _ _ (fun _ _ _ => False) (hr.make C [] (fs.zip ws)) (I2.env0.make C [] (fs.zip ws)) (hb _ _ _ lw) r2 hsp) fun r s' hq' => ?_))
  cases r with
  | error er => exact hx pins σ _ _ er s' I2 hq'
  | ok fl =>
    cases fl with
    | ret u =>
      obtain ⟨v, H2, os2, bare2, un2, hok2, rv, ev, d, gs, ea, ed, hd1, q2⟩ := hq'
      subst ev
      obtain ⟨h2, g2, d2, t2, os'⟩ := s'
      exact ⟨rv, mk_endN (raises_own T.exC T.tyC) I1 hsz kk un2 hok2 os2 bare2 ea ed hd1 q2⟩
    | next => exact False.elim hq'
    | brk => exact False.elim hq'
    | cont => exact False.elim hq'
end M


namespace M
open PySem PySem.Spec PyProof.Rows L2
/-! ### __init__ of an own exception: super().__init__(text), then its fields -/
structure SuDef (P : Program) (K : PySem.W.Frag) (qual : Str) (st : Stmt) (f C : Addr) (fd : FuncData) : Prop where
  ex : ∃ (oc : Value) (od : Option Addr) (dV kV doc pm : Value) (an : Option Addr) (cdv ct : Value) (osl : Array (Option Value)) (cc : Addr) (cl : Value) (cld : Option Addr) (csl : Array (Option Value)) (cda : Addr) (ccl : Value) (cdd : Option Addr) (vs : Array Value) (ccs : Array (Option Value)) (file : Str) (tf : Tok),
    fd = fnS "__init__" qual (defArgs st) (defBody st) (defScope st) dV kV doc pm an cdv ct cc ∧ K.lookup f = some ⟨oc, od, .func fd, osl⟩ ∧ PySem.W.codeIn K cdv qual = true ∧ K.lookup cc = some ⟨cl, cld, .cell (some (.ref C)), csl⟩ ∧ cdv = .ref cda ∧ K.lookup cda = some ⟨ccl, cdd, .fields vs, ccs⟩ ∧ vs[2]? = some (.str file tf) ∧ ((P.main.file : Str) == file) = true
/-- what the text says -/
structure SuTxt (P : Program) (mg : Str → Option Value) (st : Stmt) : Prop where
  ks : (defScope st).names.lookup ("super" : Str) = some .globalImplicit
  kc : (defScope st).names.lookup ("__class__" : Str) = some .free
  loc : (defScope st).names.lookup ("self" : Str) = some .local
  ar : ∃ ar : Arg, ((defArgs st).posonlyargs ++ (defArgs st).args).head? = some ar ∧ ar.arg = ("self" : Str)
  mg : mg "super" = none
  top : (P.main.scope.names.lookup ("super" : Str)).isSome = false
def suRow (txt : Str) (j : Nat) (p0 p1 apos cp pos epos : Pos) : Stmt := .Expr (.Call (.Attribute (.Call (.Name "super" p0) [] [] p1) "__init__" apos) [.Constant (.str txt) j cp] [] pos) epos
def fldRow (f : Str) (q1 q2 q3 q4 : Pos) : Stmt := .Assign [.Attribute (.Name "self" q1) f q2] (.Name f q3) q4
/-- how the call is written (its places) -/
def SuEv (txt : Str) (j : Nat) (p0 p1 apos cp pos : Pos) : Prop := ∀ env : Env, ∃ pl : Sem Bool, eval (.Call (.Attribute (.Call (.Name "super" p0) [] [] p1) "__init__" apos) [.Constant (.str txt) j cp] [] pos) env = (do
      let ov ← attributeBase (.Call (.Name "super" p0) [] [] p1) "__init__" env (eval (.Call (.Name "super" p0) [] [] p1) env)
      standAt apos.atName
      let (f, first) ← holding [ov] (getMethod ov "__init__" pl)
      callWith pos f first (backTo pos (starEach [.Constant (.str txt) j cp] env)) [])
section
variable {CX : CXT} {P : Program} {w : World} {K : PySem.W.Frag} {mg : Str → Option Value} {base : Heap} {k : Nat} {fI C : Addr} {fd : FuncData} {qual : Str} {st : Stmt} {B newId i : String} {bmB : List Value} {txt : Str} {j : Nat} {p0 p1 apos cp pos epos : Pos}
theorem suF_of {N : List Str} {A : Around} {outer : List Env} {s : Shared} {H : Hp} {E : XK} {oc : Value} {od : Option Addr} {dV kV doc pm : Value} {an : Option Addr} {ct : Value} {osl : Array (Option Value)} {cc cda : Addr} {cl : Value} {cld : Option Addr} {csl : Array (Option Value)} {ccl : Value} {cdd : Option Addr} {vs : Array Value} {ccs : Array (Option Value)} {file : Str} {tf : Tok}
    (t : SuTxt P mg st) (T : SuC K C C B newId i bmB) (hN : N[0]? = some ("self" : Str)) (lk : K.lookup fI = some ⟨oc, od, .func (fnS "__init__" qual (defArgs st) (defBody st) (defScope st) dV kV doc pm an (.ref cda) ct cc), osl⟩) (hcc : K.lookup cc = some ⟨cl, cld, .cell (some (.ref C)), csl⟩)
    (hco : K.lookup cda = some ⟨ccl, cdd, .fields vs, ccs⟩) (hvs : vs[2]? = some (.str file tf)) (hfile : ((P.main.file : Str) == file) = true) : SuF (cxS CX P w K mg base N qual (defScope st) fI (.ref cda) cc A outer s H E) "self" C := by
  obtain ⟨ar, h1, h2⟩ := t.ar
  refine ⟨t.ks, t.kc, t.loc, hN, t.mg, t.top, ⟨fI, oc, od, _, osl, ar, rfl, lk, h1, h2⟩, ⟨cda, ccl, cdd, vs, ccs, file, tf, rfl, hco, hvs, hfile⟩, ⟨cc, cl, cld, csl, by show ([("__class__", cc)] : List (Str × Addr)).lookup _ = _; simp, hcc⟩, ?_⟩
  show ∃ cdD, PySem.W.clsIn K C = some cdD
  have h := T.cls
  unfold PySem.W.excInitIn at h
  unfold PySem.W.clsIn
  split at h
  · rename_i dd cd sl ho
    rw [ho]
    exact ⟨cd, rfl⟩
  · cases h
theorem ok_ini1 {f1 : Str} {q1 q2 q3 q4 : Pos} (S : SuScope ["self", f1] ["self", f1] (defScope st)) (D : SuDef P K qual st fI C fd) (T : XCls K C fI B newId i bmB [f1]) (t : SuTxt P mg st) (hb : defBody st = [suRow txt j p0 p1 apos cp pos epos, fldRow f1 q1 q2 q3 q4]) (ev : SuEv txt j p0 p1 apos cp pos)
    (l1 : (defScope st).names.lookup f1 = some .local) (n1 : (f1 == ("__debug__" : Str)) = false) (c1 : (f1 == ("__classdict__" : Str)) = false) : FnOk P w K mg base CX (k + 1) fI fd ["self", f1] (sp_ini C [f1]) := by
  obtain ⟨oc, od, dV, kV, doc, pm, an, cdv, ct, osl, cc, cl, cld, csl, cda, ccl, cdd, vs, ccs, file, tf, rfl, lk, hcd, hcc, rfl, hco, hvs, hfile⟩ := D.ex
  refine fn_ofS lk hcd S hcc rfl (fun vs H Q E h => ?_) (fun A outer s H vs Q E s1 hr hsp I => ?_)
  · obtain ⟨a, ws, rfl, hl, _⟩ := h
    rw [List.length_cons, hl]; rfl
  · obtain ⟨a, ws, rfl, hl, ha, q⟩ := hsp
    match ws, hl with
    | [y], _ =>
    have G := suF_of (CX := CX) (w := w) (base := base) (N := ["self", f1]) (A := A) (outer := outer) (s := s) (H := H) (E := E) t T.su rfl lk hcc hco hvs hfile
    obtain ⟨pl, he⟩ := ev (cxS CX P w K mg base ["self", f1] qual (defScope st) fI (.ref cda) cc A outer s H E).env
    rw [hb]
    refine su_body (pl := pl) (t := tOstG K f1 (tVar 0) (tVar 1)) (Dn := { nx := fun _ H' => Q .non H', rt := Q }) T.su G I ha rfl (pss_one (ps_ostG (pv 0 (x := "self") (hN := rfl) (hv := .inl t.loc)) (pv 1 (x := f1) (hN := rfl) (hv := .inl l1) (hd := n1) (hcd := c1)))) ?_ rfl he
    exact ⟨y, rfl, .ref a, rfl, a, C, rfl, T.og, T.no f1 (by simp), .inl ⟨ha, fun dx hd hne => q dx hd hne⟩⟩
theorem upd_swap {H : Hp} {a d : Addr} {o1 o2 o3 : HO} (h : d ≠ a) : upd (upd (upd H d o1) a o2) d o3 = upd (upd H d o3) a o2 := by
  funext b
  by_cases h1 : b = d
  · rw [h1, upd_same, upd_ne h, upd_same]
  · rw [upd_ne h1]
    by_cases h2 : b = a
    · rw [h2, upd_same, upd_same]
    · rw [upd_ne h2, upd_ne h1, upd_ne h2, upd_ne h1]
theorem ok_ini2 {f1 f2 : Str} {q1 q2 q3 q4 r1 r2 r3 r4 : Pos} (S : SuScope ["self", f1, f2] ["self", f1, f2] (defScope st)) (D : SuDef P K qual st fI C fd) (T : XCls K C fI B newId i bmB [f1, f2]) (t : SuTxt P mg st) (hb : defBody st = [suRow txt j p0 p1 apos cp pos epos, fldRow f1 q1 q2 q3 q4, fldRow f2 r1 r2 r3 r4]) (ev : SuEv txt j p0 p1 apos cp pos)
    (l1 : (defScope st).names.lookup f1 = some .local) (l2 : (defScope st).names.lookup f2 = some .local) (n1 : (f1 == ("__debug__" : Str)) = false) (c1 : (f1 == ("__classdict__" : Str)) = false) (n2 : (f2 == ("__debug__" : Str)) = false) (c2 : (f2 == ("__classdict__" : Str)) = false) : FnOk P w K mg base CX (k + 1) fI fd ["self", f1, f2] (sp_ini C [f1, f2]) := by
  obtain ⟨oc, od, dV, kV, doc, pm, an, cdv, ct, osl, cc, cl, cld, csl, cda, ccl, cdd, vs, ccs, file, tf, rfl, lk, hcd, hcc, rfl, hco, hvs, hfile⟩ := D.ex
  refine fn_ofS lk hcd S hcc rfl (fun vs H Q E h => ?_) (fun A outer s H vs Q E s1 hr hsp I => ?_)
  · obtain ⟨a, ws, rfl, hl, _⟩ := h
    rw [List.length_cons, hl]; rfl
  · obtain ⟨a, ws, rfl, hl, ha, q⟩ := hsp
    match ws, hl with
    | [y, z], _ =>
    have G := suF_of (CX := CX) (w := w) (base := base) (N := ["self", f1, f2]) (A := A) (outer := outer) (s := s) (H := H) (E := E) t T.su rfl lk hcc hco hvs hfile
    obtain ⟨pl, he⟩ := ev (cxS CX P w K mg base ["self", f1, f2] qual (defScope st) fI (.ref cda) cc A outer s H E).env
    rw [hb]
    refine su_body (pl := pl) (t := tSeq (tOstG K f1 (tVar 0) (tVar 1)) (tOstG K f2 (tVar 0) (tVar 2))) (Dn := { nx := fun _ H' => Q .non H', rt := Q }) T.su G I ha rfl
      (pss_cons (ps_ostG (pv 0 (x := "self") (hN := rfl) (hv := .inl t.loc)) (pv 1 (x := f1) (hN := rfl) (hv := .inl l1) (hd := n1) (hcd := c1)))
        (pss_one (ps_ostG (pv 0 (x := "self") (hN := rfl) (hv := .inl t.loc)) (pv 2 (x := f2) (hN := rfl) (hv := .inl l2) (hd := n2) (hcd := c2))))) ?_ rfl he
    refine ⟨y, rfl, .ref a, rfl, a, C, rfl, T.og, T.no f1 (by simp), .inl ⟨ha, fun dx hd hne => ?_⟩⟩
    refine ⟨z, rfl, .ref a, rfl, a, C, rfl, T.og, T.no f2 (by simp), .inr ⟨dx, [(f1, y)], upd_same, by rw [upd_ne hne, upd_same], by simp, ?_⟩⟩
    have z9 := q dx hd hne
    rw [upd_swap hne]
    exact z9
end
end M


namespace M
open PySem PySem.Spec PyProof.Rows L2
/-! ### the same exception once more: a bare raise in an except suite -/
section
variable {X : Cx} {pins : List (Addr × Obj)} {σ : L2.St} {H : Hp} {s : Shared}
theorem inv_hide {a T : Addr} (I : Inv X pins σ H s) (na : H a = none) (nt : H T = none) (a0 : X.s_0.heap.get? a = none) (t0 : X.s_0.heap.get? T = none) (aL : a ≠ X.env.locals) (tL : T ≠ X.env.locals)
    (nc : ∀ x c, X.env.cells.lookup x = some c → c ≠ a ∧ c ≠ T) (np : ∀ p ∈ X.pn ++ pins, p.1 ≠ a ∧ p.1 ≠ T) : Inv X pins σ H { s with heap := PySem.W.hideAll s.heap [a, T] } := by
  have k : ∀ b, b ≠ a → b ≠ T → ∀ o, s.heap.get? b = some o → (PySem.W.hideAll s.heap [a, T]).get? b = some o := fun b h1 h2 o e => PySem.W.hideAll_get _ e (by simp [h1, h2])
  have n0 : ∀ b o, X.s_0.heap.get? b = some o → b ≠ a ∧ b ≠ T := fun b o e => ⟨fun z => (by rw [z, a0] at e; cases e), fun z => (by rw [z, t0] at e; cases e)⟩
  have nH : ∀ b o, H b = some o → b ≠ a ∧ b ≠ T := fun b o e => ⟨fun z => (by rw [z, na] at e; cases e), fun z => (by rw [z, nt] at e; cases e)⟩
  obtain ⟨m, hn, hl⟩ := I.loc
  refine ⟨I.ok, I.os, I.bare, ⟨fun b o e n h1 h2 => ?_, fun b o e n h1 h2 => ?_, I.base.free, fun b o e h2 => ?_, I.base.tups, I.base.frzs, I.base.tbls⟩, ⟨m, hn.at fun o e => k _ (Ne.symm aL) (Ne.symm tL) o e, fun i x v e1 e2 e3 => ?_⟩, fun x c e => ?_, I.free, I.freeC, fun p hp => ?_, fun b o e => ?_, I.len⟩
  · exact k b (n0 b o e).1 (n0 b o e).2 o (I.base.keep b o e n h1 h2)
  · obtain ⟨sl, e1⟩ := I.base.slot b o e n h1 h2
    exact ⟨sl, k b (n0 b o e).1 (n0 b o e).2 _ e1⟩
  · obtain ⟨o', e1⟩ := I.base.there b o e h2
    exact ⟨o', k b (n0 b o e).1 (n0 b o e).2 _ e1⟩
  · obtain ⟨u, ru, q⟩ := hl i x v e1 e2 e3
    refine ⟨u, ru, ?_⟩
    rcases q with q | ⟨q, c, e, o, z1, z2⟩
    · exact .inl q
    · exact .inr ⟨q, c, e, o, k c (nc x c e).1 (nc x c e).2 o z1, z2⟩
  · obtain ⟨v, o, z1, z2⟩ := I.cell x c e
    exact ⟨v, o, k c (nc x c e).1 (nc x c e).2 o z1, z2⟩
  · obtain ⟨z, r⟩ := I.pin p hp
    exact ⟨k _ (np p hp).1 (np p hp).2 _ z, r⟩
  · refine (I.hok b o e).stay (fun c v hc z => ?_) (fun _ h => h) fun _ _ h => h
    rcases hc with rfl | hc
    · exact k _ (nH _ _ e).1 (nH _ _ e).2 v z
    · exact k _ (nH _ _ hc).1 (nH _ _ hc).2 v z
end
/-- the exception at a as it stands caught in X, its trace at T -/
structure Fly (X : Cx) (a : Addr) (oe : Obj) (T : Addr) (oT : Obj) (cls : Value) (d : Option Addr) : Prop where
  z : Zc cls d oe
  f : ∃ vs ts, oe.data = .fields vs ∧ vs[1]? = some (.ref T) ∧ oT.data = .fields ts ∧ ts[3]? = some .none
  ne : T ≠ a
  a0 : X.s_0.heap.get? a = none
  t0 : X.s_0.heap.get? T = none
abbrev suX (X : Cx) (a : Addr) (oe : Obj) (T : Addr) (oT : Obj) (pins : List (Addr × Obj)) : Cx := L2H.suiteX X a ((a, oe) :: (T, oT) :: (X.pn ++ pins))
theorem un_suX {X : Cx} {a T : Addr} {oe oT : Obj} {pins pn' : List (Addr × Obj)} {σ : L2.St} {H : Hp} {s : Shared} (I : Inv (suX X a oe T oT pins) pn' σ H s) (ok : X.Ok) : Inv X pins σ H s :=
  ⟨ok, I.os, I.bare, I.base, I.loc, I.cell, I.free, I.freeC, fun p hp => I.pin p (List.mem_append_left _ (List.mem_cons_of_mem _ (List.mem_cons_of_mem _ hp))), I.hok, I.len⟩
theorem ps_bare {X : Cx} {a T : Addr} {oe oT : Obj} {cls : Value} {d : Option Addr} {pins : List (Addr × Obj)} {W : WX} {pos : Pos} (F : Fly X a oe T oT cls d) (ok : X.Ok) (hs : X.stack = X.env :: X.outer) (hf : X.env.frame = some X.env.locals) (tk : Takes X W) (np : ∀ p ∈ X.pn ++ pins, p.1 ≠ a ∧ p.1 ≠ T) :
    PS (suX X a oe T oT pins) (.Raise none none pos) (fun _ σ H => W cls d σ H) := by
  refine ⟨fun pn' s σ H D I h => ?_⟩
  obtain ⟨vs, ts, hd, h1, hdT, h3⟩ := F.f
  have P1 := I.pin (a, oe) (List.mem_append_left _ List.mem_cons_self)
  have P2 := I.pin (T, oT) (List.mem_append_left _ (List.mem_cons_of_mem _ List.mem_cons_self))
  have J : Inv X pins σ H s := un_suX I ok
  have cne : ∀ {p : Addr} {o : Obj}, s.heap.get? p = some o → (∀ v, o.data ≠ .cell v) → ∀ x c, X.env.cells.lookup x = some c → c ≠ p := fun {p o} e n x c hc z => by
    obtain ⟨v, o', z1, z2⟩ := J.cell x c hc
    rw [z, e] at z1
    cases z1
    exact n v z2
  have G := inv_hide J P1.2.1 P2.2.1 F.a0 F.t0 P1.2.2.1 P2.2.2.1 (fun x c hc => ⟨cne P1.1 P1.2.2.2.2 x c hc, cne P2.1 P2.2.2.2.2 x c hc⟩) np
  rw [arm_exec_Raise]
  refine wpAny_bind (wpAny_standAt ?_)
  unfold raiseStmt
  refine wpAny_bind (wpAny_handled ?_)
  have hh : (suX X a oe T oT pins).A.handled = some (.ref a) := rfl
  rw [hh]
  refine wpAny_bind (wpAny_rule ?_)
  refine wpAny_bind (wpAny_field P1.1 hd h1 ?_)
  rw [if_neg (show ¬ ((Value.ref T == Value.none) = true) from by simp)]
  have B : ∃ B : Heap, B = PySem.W.hideAll (PySem.W.hideAll s.heap [a, T]) (frs X.stack) := ⟨_, rfl⟩
  obtain ⟨B, eB⟩ := B
  have Bn : ∀ b, b ∈ [a, T] → B.get? b = none := fun b hb => by
    cases q : B.get? b with
    | none => rfl
    | some o =>
      rw [eB] at q
      have z := PySem.W.of_hideAll _ q
      rw [PySem.W.hideAll_none _ hb] at z
      cases z
  have BS : B.StaysIn s.heap := fun b o e => by
    rw [eB] at e
    exact PySem.W.of_hideAll _ (PySem.W.of_hideAll _ e)
  have FF : s.heap.FunFrames B X.stack := funFrames_none J.stack fun b hb => by rw [eB]; exact PySem.W.hideAll_none _ hb
  have fl : HandSPX.FlyingZ B X.stack a (Zc cls d) s.heap := ⟨BS, Bn a (by simp), FF, oe, vs, T, oT, ts, P1.1, F.z, hd, h1, Bn T (by simp), F.ne, P2.1, hdT, h3⟩
  have fin : wpAny (model X.prog X.w) (suX X a oe T oT pins).A (setFlight (.ref a) X.env.frame) (fun _ s4 => wpAny (model X.prog X.w) (suX X a oe T oT pins).A (throw (.ref a) : Sem Flow) (SP (suX X a oe T oT pins) pn' D) X.xe s4) X.xe s := by
    rw [hf]
    refine HandSPX.setFlight_upZ fl fun h4 hh4 up4 => wpAny_throw (tk _ _ ?_)
    refine ⟨a, B, { s with heap := PySem.W.hideAll s.heap [a, T] }, pins, σ, H, cls, d, rfl, G, fun b o e hb => ?_, ?_, .inr (.inr hh4), P1.2.1, rfl, J.bare, h⟩
    · rw [eB]; exact PySem.W.hideAll_get _ e hb
    · exact (Heap.UpToSlots.of_keeps fun b o e => PySem.W.of_hideAll _ e).trans up4
  first
    | exact wpAny_bind (wpAny_pure (wpAny_bind fin))
    | exact wpAny_bind fin
end M


namespace M
open PySem PySem.Spec PyProof.Rows L2
/-! ### caught exceptions that may go on -/
/-- the context of an except suite: the exception at a, its trace at T -/
abbrev suY (X : Cx) (a : Addr) (oe : Obj) (T : Addr) (oT : Obj) (pins : List (Addr × Obj)) (xe : Value → Shared → Prop) : Cx := { X with A := X.A.mark (some (.ref a)), calm := false, pn := (a, oe) :: (T, oT) :: (X.pn ++ pins), xe := xe }
/-- what is known of it -/
structure FlyN (X : Cx) (a : Addr) (oe : Obj) (T : Addr) (oT : Obj) (cls : Value) (d : Option Addr) (pins : List (Addr × Obj)) : Prop where
  z : L2N.Zn cls d oe
  f : ∃ vs ts, oe.data = .fields vs ∧ vs[1]? = some (.ref T) ∧ oT.data = .fields ts ∧ 3 < ts.size
  ne : T ≠ a
  a0 : X.s_0.heap.get? a = none
  t0 : X.s_0.heap.get? T = none
  np : ∀ p ∈ X.pn ++ pins, p.1 ≠ a ∧ p.1 ≠ T
  hs : X.stack = X.env :: X.outer
  hf : X.env.frame = some X.env.locals
  ok : X.Ok
/-- one object that nobody tracks has changed -/
theorem inv_but {X : Cx} {pins : List (Addr × Obj)} {σ : L2.St} {H : Hp} {s : Shared} {T : Addr} {h' : Heap} (I : Inv X pins σ H s) (k : ∀ b, b ≠ T → ∀ o, s.heap.get? b = some o → h'.get? b = some o) (nt : H T = none) (t0 : X.s_0.heap.get? T = none) (tL : T ≠ X.env.locals)
    (nc : ∀ x c, X.env.cells.lookup x = some c → c ≠ T) (np : ∀ p ∈ X.pn ++ pins, p.1 ≠ T) : Inv X pins σ H { s with heap := h' } := by
  have n0 : ∀ b o, X.s_0.heap.get? b = some o → b ≠ T := fun b o e z => by rw [z, t0] at e; cases e
  have nH : ∀ b o, H b = some o → b ≠ T := fun b o e z => by rw [z, nt] at e; cases e
  obtain ⟨m, hn, hl⟩ := I.loc
  refine ⟨I.ok, I.os, I.bare, ⟨fun b o e n h1 h2 => ?_, fun b o e n h1 h2 => ?_, I.base.free, fun b o e h2 => ?_, I.base.tups, I.base.frzs, I.base.tbls⟩, ⟨m, hn.at fun o e => k _ (Ne.symm tL) o e, fun i x v e1 e2 e3 => ?_⟩, fun x c e => ?_, I.free, I.freeC, fun p hp => ?_, fun b o e => ?_, I.len⟩
  · exact k b (n0 b o e) o (I.base.keep b o e n h1 h2)
  · obtain ⟨sl, e1⟩ := I.base.slot b o e n h1 h2
    exact ⟨sl, k b (n0 b o e) _ e1⟩
  · obtain ⟨o', e1⟩ := I.base.there b o e h2
    exact ⟨o', k b (n0 b o e) _ e1⟩
  · obtain ⟨u, ru, q⟩ := hl i x v e1 e2 e3
    refine ⟨u, ru, ?_⟩
    rcases q with q | ⟨q, c, e, o, z1, z2⟩
    · exact .inl q
    · exact .inr ⟨q, c, e, o, k c (nc x c e) o z1, z2⟩
  · obtain ⟨v, o, z1, z2⟩ := I.cell x c e
    exact ⟨v, o, k c (nc x c e) o z1, z2⟩
  · obtain ⟨z, r⟩ := I.pin p hp
    exact ⟨k _ (np p hp) _ z, r⟩
  · refine (I.hok b o e).stay (fun c v hc z => ?_) (fun _ h => h) fun _ _ h => h
    rcases hc with rfl | hc
    · exact k _ (nH _ _ e) v z
    · exact k _ (nH _ _ hc) v z
section
variable {X : Cx} {a T : Addr} {oe oT : Obj} {cls : Value} {d : Option Addr} {pins pn' : List (Addr × Obj)} {σ : L2.St} {H : Hp} {s : Shared} {xe : Value → Shared → Prop} {W : WX}
theorem un_suY (I : Inv (suY X a oe T oT pins xe) pn' σ H s) (ok : X.Ok) : Inv X pins σ H s :=
  ⟨ok, I.os, I.bare, I.base, I.loc, I.cell, I.free, I.freeC, fun p hp => I.pin p (List.mem_append_left _ (List.mem_cons_of_mem _ (List.mem_cons_of_mem _ hp))), I.hok, I.len⟩
/-- it flies on, from any heap in which it and its trace stand (the trace perhaps changed) -/
theorem fly_on {oT' : Obj} {ts : Array Value} {fl : Value} (F : FlyN X a oe T oT cls d pins) (J : Inv X pins σ H s) (ha : s.heap.get? a = some oe) (hT : s.heap.get? T = some oT') (hdT : oT'.data = .fields ts) (h3 : ts[3]? = some fl) (na : H a = none) (nt : H T = none) (tk : L2N.Takes X W) (w : W cls d σ H)
    {A : Around} {E : Value → Shared → Prop} {Q : Unit → Shared → Prop} (hQ : ∀ s', X.xe (.ref a) s' → Q () s') : wpAny (model X.prog X.w) A (setFlight (.ref a) X.env.frame) Q E s := by
  obtain ⟨vs, ts0, hd, h1, _, _⟩ := F.f
  have dne : ∀ {p : Addr} {o : Obj} {ys : Array Value}, s.heap.get? p = some o → o.data = .fields ys → p ≠ X.env.locals ∧ ∀ x c, X.env.cells.lookup x = some c → c ≠ p := fun {p o ys} e n => by
    refine ⟨fun z => ?_, fun x c hc z => ?_⟩
    · obtain ⟨m, ⟨oL, es, ep, e1, e2, _⟩, _⟩ := J.loc
      rw [z, e1] at e
      cases e
      rw [e2] at n
      cases n
    · obtain ⟨v, o', z1, z2⟩ := J.cell x c hc
      rw [z, e] at z1
      cases z1
      rw [n] at z2
      cases z2
  have G := inv_hide J na nt F.a0 F.t0 (dne ha hd).1 (dne hT hdT).1 (fun x c hc => ⟨(dne ha hd).2 x c hc, (dne hT hdT).2 x c hc⟩) F.np
  obtain ⟨B, eB⟩ : ∃ B : Heap, B = PySem.W.hideAll (PySem.W.hideAll s.heap [a, T]) (frs X.stack) := ⟨_, rfl⟩
  have Bn : ∀ b, b ∈ [a, T] → B.get? b = none := fun b hb => by
    cases q : B.get? b with
    | none => rfl
    | some o =>
      rw [eB] at q
      have z := PySem.W.of_hideAll _ q
      rw [PySem.W.hideAll_none _ hb] at z
      cases z
  have BS : B.StaysIn s.heap := fun b o e => by
    rw [eB] at e
    exact PySem.W.of_hideAll _ (PySem.W.of_hideAll _ e)
  have FF : s.heap.FunFrames B X.stack := funFrames_none J.stack fun b hb => by rw [eB]; exact PySem.W.hideAll_none _ hb
  rw [F.hf]
  refine HandSPX.setFlight_anyZ (Z := L2N.Zn cls d) (fl := fl) BS FF ⟨oe, vs, T, oT', ts, ha, F.z, hd, h1, Bn T (by simp), F.ne, hT, hdT, h3⟩ fun h4 k1 k2 k3 k4 => hQ _ (tk _ _ ?_)
  refine ⟨a, B, { s with heap := PySem.W.hideAll s.heap [a, T] }, pins, σ, H, cls, d, rfl, G, fun b o e hb => ?_, ?_, .inr (.inr ⟨k1, Bn a (by simp), k2, k3⟩), na, rfl, J.bare, w⟩
  · rw [eB]; exact PySem.W.hideAll_get _ e hb
  · exact (Heap.UpToSlots.of_keeps fun b o e => PySem.W.of_hideAll _ e).trans k4
theorem suY_pins (I : Inv (suY X a oe T oT pins xe) pn' σ H s) : s.heap.get? a = some oe ∧ s.heap.get? T = some oT ∧ H a = none ∧ H T = none := by
  have P1 := I.pin (a, oe) (List.mem_append_left _ List.mem_cons_self)
  have P2 := I.pin (T, oT) (List.mem_append_left _ (List.mem_cons_of_mem _ List.mem_cons_self))
  exact ⟨P1.1, P2.1, P1.2.1, P2.2.1⟩
/-- a bare raise -/
theorem ps_bareY {pos : Pos} {R : L2.St → Hp → Prop} (F : FlyN X a oe T oT cls d pins)
    (hx : ∀ (pn' : List (Addr × Obj)) (σ : L2.St) (H : Hp) (s : Shared), Inv (suY X a oe T oT pins xe) pn' σ H s → R σ H → wpAny (model X.prog X.w) (X.A.mark (some (.ref a))) (setFlight (.ref a) X.env.frame) (fun _ s' => xe (.ref a) s') xe s) :
    PS (suY X a oe T oT pins xe) (.Raise none none pos) (fun _ σ H => R σ H) := by
  refine ⟨fun pn' s σ H D I h => ?_⟩
  obtain ⟨vs, ts, hd, h1, hdT, h3⟩ := F.f
  obtain ⟨ha, hT, na, nt⟩ := suY_pins I
  rw [arm_exec_Raise]
  refine wpAny_bind (wpAny_standAt ?_)
  unfold raiseStmt
  refine wpAny_bind (wpAny_handled ?_)
  have hh : (suY X a oe T oT pins xe).A.handled = some (.ref a) := rfl
  rw [hh]
  refine wpAny_bind (wpAny_rule ?_)
  refine wpAny_bind (wpAny_field ha hd h1 ?_)
  rw [if_neg (show ¬ ((Value.ref T == Value.none) = true) from by simp)]
  have fin : wpAny (model X.prog X.w) (suY X a oe T oT pins xe).A (setFlight (.ref a) X.env.frame) (fun _ s4 => wpAny (model X.prog X.w) (suY X a oe T oT pins xe).A (throw (.ref a) : Sem Flow) (SP (suY X a oe T oT pins xe) pn' D) xe s4) xe s := wpAny_mono (hx pn' σ H s I h) (fun _ s4 q => wpAny_throw q) fun _ _ z => z
  first
    | exact wpAny_bind (wpAny_pure (wpAny_bind fin))
    | exact wpAny_bind fin
end
end M


namespace M
open PySem PySem.Spec PyProof.Rows L2
/-! ### except clauses, one after another -/
/-- an exception that has been noted and waits for a clause -/
structure Wait (X : Cx) (pins : List (Addr × Obj)) (a : Addr) (σ : L2.St) (H : Hp) (cls : Value) (d : Option Addr) (s : Shared) : Prop where
  ex : ∃ (B : Heap) (sI : Shared), Inv X pins σ H sI ∧ (∀ b o, sI.heap.get? b = some o → b ∉ frs X.stack → B.get? b = some o) ∧ sI.heap.UpToSlots s.heap ∧ HandSPX.FlyingZ B (X.env :: X.outer) a (L2N.Zn cls d) s.heap ∧ H a = none ∧ s.os = sI.os ∧ AllBare s.gens
structure PH (X : Cx) (hds : List ExceptHandler) (wh : Ends → WX) : Prop where
  run : ∀ (pins : List (Addr × Obj)) (D : Ends) (a : Addr) (σ : L2.St) (H : Hp) (cls : Value) (d : Option Addr) (s : Shared), Wait X pins a σ H cls d s → wh D cls d σ H → wpAny (model X.prog X.w) X.A (handleBy (.ref a) X.env hds) (SP X pins D) X.xe s
/-- what a try asks of its def -/
structure TryC (X : Cx) : Prop where
  hs : X.stack = X.env :: X.outer
  hf : X.env.frame = some X.env.locals
  hex : X.ex = []
  hpa : ∀ hd : Option Value, PassesOwnAt (model X.prog X.w) (X.A.mark hd) X.A X.env X.xe
section
variable {X : Cx} {pins : List (Addr × Obj)} {a : Addr} {σ : L2.St} {H : Hp} {cls : Value} {d : Option Addr} {s : Shared}
theorem Wait.inv (C : TryC X) (w : Wait X pins a σ H cls d s) : Inv X pins σ H s := by
  obtain ⟨B, sI, I, nb, up, fl, na, os, ag⟩ := w.ex
  exact I.landed nb fl.1 up os ag
theorem Wait.fly (C : TryC X) (w : Wait X pins a σ H cls d s) : ∃ oe T oT vs ts, FlyN X a oe T oT cls d pins ∧ s.heap.get? a = some oe ∧ s.heap.get? T = some oT ∧ oe.data = .fields vs ∧ oT.data = .fields ts ∧ ts[3]? = some .none ∧ H a = none ∧ H T = none ∧ a ∉ X.fs ∧ T ∉ X.fs := by
  obtain ⟨B, sI, I, nb, up, fl, na, os, ag⟩ := w.ex
  obtain ⟨k1, k2, k3, oe, vs, T, oT, ts, he, hz, hd, h1, hnT, hTe, hT, hdT, h3⟩ := fl
  have nfr : ∀ {p : Addr} {o : Obj} {ys : Array Value}, s.heap.get? p = some o → o.data = .fields ys → p ∉ frs X.stack := fun {p o ys} e n hm => by
    rw [C.hs] at hm
    obtain ⟨_, o', e', hnf⟩ := k3.mem hm
    rw [e] at e'; cases e'
    exact hnf _ n
  have fsub : ∀ b, b ∈ X.fs → b ∈ frs X.stack := fun b hb => by
    rw [C.hs]
    obtain ⟨e, he, q⟩ := List.mem_filterMap.mp hb
    exact List.mem_filterMap.mpr ⟨e, List.mem_cons_of_mem _ he, q⟩
  have aI : sI.heap.get? a = none := by
    cases q : sI.heap.get? a with
    | none => rfl
    | some o => have z := nb a o q (nfr he hd); rw [k2] at z; cases z
  have tI : sI.heap.get? T = none := by
    cases q : sI.heap.get? T with
    | none => rfl
    | some o => have z := nb T o q (nfr hT hdT); rw [hnT] at z; cases z
  have s0 : ∀ b, sI.heap.get? b = none → X.s_0.heap.get? b = none := fun b hb => by
    cases q : X.s_0.heap.get? b with
    | none => rfl
    | some o =>
      obtain ⟨o', z⟩ := I.base.there b o q (by rw [C.hex]; simp)
      rw [hb] at z; cases z
  refine ⟨oe, T, oT, vs, ts, ⟨hz, ⟨vs, ts, hd, h1, hdT, (Array.getElem?_eq_some_iff.mp h3).1⟩, hTe, s0 a aI, s0 T tI, fun p hp => ?_, C.hs, C.hf, I.ok⟩, he, hT, hd, hdT, h3, na, I.hok.gone tI, fun z => nfr he hd (fsub a z), fun z => nfr hT hdT (fsub T z)⟩
  have e := (I.pin p hp).1
  exact ⟨fun z => (by rw [z, aI] at e; cases e), fun z => (by rw [z, tI] at e; cases e)⟩
/-- no clause is left -/
theorem ph_nil {Wout : WX} (C : TryC X) (tk : L2N.Takes X Wout) : PH X [] (fun _ => Wout) := by
  refine ⟨fun pins D a σ H cls d s w h => ?_⟩
  obtain ⟨oe, T, oT, vs, ts, F, ha, hT, hd, hdT, h3, na, nt, _, _⟩ := w.fly C
  refine wpAny_handleBy_nil ?_
  obtain ⟨vs', ts', hd', h1, _, _⟩ := F.f
  unfold PySem.passOn
  refine wpAny_bind (wpAny_field ha hd' h1 ?_)
  rw [if_neg (show ¬ ((Value.ref T == Value.none) = true) from by simp)]
  have fin : wpAny (model X.prog X.w) X.A (setFlight (.ref a) X.env.frame) (fun _ s4 => wpAny (model X.prog X.w) X.A (throw (.ref a) : Sem Flow) (SP X pins D) X.xe s4) X.xe s :=
    fly_on F (w.inv C) ha hT hdT h3 na nt tk h fun s' q => wpAny_throw q
  first
    | exact wpAny_bind (wpAny_pure (wpAny_bind fin))
    | exact wpAny_bind fin
/-- the test of a clause -/
theorem Wait.test {x : Str} {c : Value} {np : Pos} {Q E : Value → Shared → Prop} (C : TryC X) (hc : Names X x c) (w : Wait X pins a σ H cls d s) (q : Q c s) : wpAny (model X.prog X.w) (X.A.mark (some (.ref a))) (eval (.Name x np) X.env) Q E s := by
  obtain ⟨oe, T, oT, vs, ts, F, ha, hT, hd, hdT, h3, na, nt, nF, _⟩ := w.fly C
  have J := w.inv C
  have aL : a ≠ X.env.locals := fun z => by
    obtain ⟨m, ⟨oL, es, ep, e1, e2, _⟩, _⟩ := J.loc
    rw [z, e1] at ha
    cases ha
    rw [e2] at hd
    cases hd
  have S3 := J.suite ha hd na aL nF
  obtain ⟨hg, hdbg, hm | ⟨hm, hv, hnn⟩⟩ := hc
  · exact ld_glob (X := X.suite a ((a, oe) :: (X.pn ++ pins))) S3 hg hm q hdbg
  · exact ld_blt (X := X.suite a ((a, oe) :: (X.pn ++ pins))) S3 hg hm hv q hnn hdbg
theorem Wait.suite {xe : Value → Shared → Prop} {oe oT : Obj} {T : Addr} {vs ts : Array Value} (J : Inv X pins σ H s) (ha : s.heap.get? a = some oe) (hd : oe.data = .fields vs) (na : H a = none) (nF : a ∉ X.fs) (hT : s.heap.get? T = some oT) (hdT : oT.data = .fields ts) (nt : H T = none) (tF : T ∉ X.fs) :
    Inv (suY X a oe T oT pins xe) [] σ H s := by
  have nL : ∀ {p : Addr} {o : Obj} {ys : Array Value}, s.heap.get? p = some o → o.data = .fields ys → p ≠ X.env.locals := fun {p o ys} e n z => by
    obtain ⟨m, ⟨oL, es, ep, e1, e2, _⟩, _⟩ := J.loc
    rw [z, e1] at e
    cases e
    rw [e2] at n
    cases n
  have ok : (suY X a oe T oT pins xe).Ok := ⟨J.ok.mod, J.ok.kind, J.ok.glob, J.ok.blt, J.ok.above, J.ok.inj, J.ok.has, J.ok.cab, (fun z => Bool.noConfusion (show false = true from z)), J.ok.frames, J.ok.stk, J.ok.exf, J.ok.bs, J.ok.bsz, J.ok.noex, J.ok.exfs, J.ok.funs, J.ok.frf⟩
  refine ⟨ok, J.os, J.bare, J.base, J.loc, J.cell, J.free, J.freeC, fun p hp => ?_, J.hok, J.len⟩
  have hp' : p ∈ (a, oe) :: (T, oT) :: (X.pn ++ pins) := by rw [List.append_nil] at hp; exact hp
  rcases List.mem_cons.mp hp' with rfl | hp'
  · exact ⟨ha, na, nL ha hd, nF, fun v z => by rw [hd] at z; cases z⟩
  rcases List.mem_cons.mp hp' with rfl | hp'
  · exact ⟨hT, nt, nL hT hdT, tF, fun v z => by rw [hdT] at z; cases z⟩
  · exact J.pin p hp'
end
/-- except x: suite -/
def wOnlyR (K : PySem.W.Frag) (c : Value) (ts : Addr → Value → Option Addr → TS) (wh : Ends → WX) (D : Ends) : WX := fun cls d σ H =>
  ∃ b, PySem.W.exmOne K cls c = some b ∧ (b = true → ∀ a, H a = none → ts a cls d D σ H) ∧ (b = false → wh D cls d σ H)
def wAsR (K : PySem.W.Frag) (c : Value) (i : Nat) (ts : Addr → Value → Option Addr → TS) (wh : Ends → WX) (D : Ends) : WX := fun cls d σ H =>
  ∃ b, PySem.W.exmOne K cls c = some b ∧ (b = true → ∀ a, H a = none → ts a cls d { nx := fun σ' H' => D.nx (σ'.set i none) H', rt := D.rt, bk := fun σ' H' => D.bk (σ'.set i none) H', ct := fun σ' H' => D.ct (σ'.set i none) H' } (σ.set i (some (.ref a))) H) ∧
    (b = false → wh D cls d σ H)
/-- what goes out of a suite of «except .. as n» -/
abbrev xeAs (X : Cx) (a : Addr) (n : Str) (pos : Pos) : Value → Shared → Prop := AsSuiteRaised (model X.prog X.w) (X.A.mark (some (.ref a))) X.env n pos (notedBy (model X.prog X.w) (X.A.mark (some (.ref a))) X.env (cameBackBy (model X.prog X.w) X.A X.env X.xe))
section
variable {X : Cx} {x n : Str} {c : Value} {i : Nat} {suite : List Stmt} {b₀ : Stmt} {np pos' : Pos} {hds : List ExceptHandler} {ts : Addr → Value → Option Addr → TS} {wh : Ends → WX}
theorem hotY {a T : Addr} {oe oT : Obj} {cls : Value} {d : Option Addr} {pins : List (Addr × Obj)} {xe : Value → Shared → Prop} (F : FlyN X a oe T oT cls d pins) : L2H.HotC (suY X a oe T oT pins xe) := by
  obtain ⟨vs, tt, hd, _⟩ := F.f
  exact ⟨(a, oe), ⟨rfl, vs, hd, F.z.2.2 vs hd⟩, List.mem_cons_self⟩
theorem ph_only (C : TryC X) (hc : Names X x c)
    (hsu : ∀ (a T : Addr) (oe oT : Obj) (cls : Value) (d : Option Addr) (pins : List (Addr × Obj)), FlyN X a oe T oT cls d pins → PSs (suY X a oe T oT pins X.xe) (b₀ :: suite) (ts a cls d)) (hr : PH X hds wh) :
    PH X (.ExceptHandler (some (.Name x np)) none (b₀ :: suite) pos' :: hds) (wOnlyR X.K c ts wh) := by
  refine ⟨fun pins D a σ H cls d s w h => ?_⟩
  obtain ⟨b, hb1, hyes, hno⟩ := h
  obtain ⟨oe, T, oT, vs, tt, F, ha, hT, hd, hdT, h3, na, nt, nF, tF⟩ := w.fly C
  have J := w.inv C
  refine wpAny_handleBy_cons (codeAny_handlers_test ?_) (by intro q; cases q)
  have LT : PySem.W.Looks (model X.prog X.w) s.heap (typeOf (.ref a)) cls := fun A Q E s k q => wpAny_typeOf_ref (k _ _ ha) (by rw [F.z.1]; exact q)
  have LM := PySem.W.exm_one (M := model X.prog X.w) J.kIn LT hb1
  refine w.test C hc (LM.here ?_)
  cases b with
  | false => exact hr.run pins D a σ H cls d s w (hno rfl)
  | true =>
    refine codeAny_handlers_suite ?_
    obtain ⟨B, sI, I, nb, up, fl, na', os, ag⟩ := w.ex
    refine HandSPX.lands_againZ fl fun h4 fl4 up4 => ?_
    have w4 : Wait X pins a σ H cls d { s with heap := h4 } := ⟨B, sI, I, nb, up.trans up4, fl4, na', os, ag⟩
    obtain ⟨oe4, T4, oT4, vs4, tt4, F4, ha4, hT4, hd4, hdT4, h34, na4, nt4, nF4, tF4⟩ := w4.fly C
    have S4 := Wait.suite (xe := X.xe) (w4.inv C) ha4 hd4 na4 nF4 hT4 hdT4 nt4 tF4
    refine wpAny_mono ((hsu a T4 oe4 oT4 cls d pins F4).run [] _ σ H D S4 (hyes rfl a na)) (fun f s6 hsp => ?_) (fun e6 s6 z => C.hpa (some (.ref a)) e6 s6 z)
    cases f with
    | next => obtain ⟨σ6, H6, S6, q6⟩ := hsp; exact ⟨_, _, un_suY S6 J.ok, q6⟩
    | brk => obtain ⟨σ6, H6, S6, q6⟩ := hsp; exact ⟨_, _, un_suY S6 J.ok, q6⟩
    | cont => obtain ⟨σ6, H6, S6, q6⟩ := hsp; exact ⟨_, _, un_suY S6 J.ok, q6⟩
    | ret u => obtain ⟨v6, σ6, H6, S6, r6, q6⟩ := hsp; exact ⟨_, _, _, un_suY S6 J.ok, r6, q6⟩
theorem ph_as (C : TryC X) (hN : X.N.Nodup) (hi : X.N[i]? = some n) (hln : X.env.kindOf n = some .local) (hc : Names X x c)
    (hsu : ∀ (a T : Addr) (oe oT : Obj) (cls : Value) (d : Option Addr) (pins : List (Addr × Obj)), FlyN X a oe T oT cls d pins → PSs (suY X a oe T oT pins (xeAs X a n pos')) (b₀ :: suite) (ts a cls d)) (hr : PH X hds wh) :
    PH X (.ExceptHandler (some (.Name x np)) (some n) (b₀ :: suite) pos' :: hds) (wAsR X.K c i ts wh) := by
  refine ⟨fun pins D a σ H cls d s w h => ?_⟩
  obtain ⟨b, hb1, hyes, hno⟩ := h
  obtain ⟨oe, T, oT, vs, tt, F, ha, hT, hd, hdT, h3, na, nt, nF, tF⟩ := w.fly C
  have J := w.inv C
  refine wpAny_handleBy_cons (codeAny_handlers_test ?_) (by intro q; cases q)
  have LT : PySem.W.Looks (model X.prog X.w) s.heap (typeOf (.ref a)) cls := fun A Q E s k q => wpAny_typeOf_ref (k _ _ ha) (by rw [F.z.1]; exact q)
  have LM := PySem.W.exm_one (M := model X.prog X.w) J.kIn LT hb1
  refine w.test C hc (LM.here ?_)
  cases b with
  | false => exact hr.run pins D a σ H cls d s w (hno rfl)
  | true =>
    refine codeAny_handlers_suite_as ?_
    obtain ⟨B, sI, I, nb, up, fl, na', os, ag⟩ := w.ex
    refine HandSPX.lands_againZ fl fun h4 fl4 up4 => ?_
    have w4 : Wait X pins a σ H cls d { s with heap := h4 } := ⟨B, sI, I, nb, up.trans up4, fl4, na', os, ag⟩
    obtain ⟨oe4, T4, oT4, vs4, tt4, F4, ha4, hT4, hd4, hdT4, h34, na4, nt4, nF4, tF4⟩ := w4.fly C
    have S4 := Wait.suite (xe := xeAs X a n pos') (w4.inv C) ha4 hd4 na4 nF4 hT4 hdT4 nt4 tF4
    refine store_ok (X := suY X a oe4 T4 oT4 pins (xeAs X a n pos')) (v := .ref a) S4 hN hi (.inl hln) rfl (fun s5 S5 => ?_) (.inr hln)
    refine wpAny_mono ((hsu a T4 oe4 oT4 cls d pins F4).run [] s5 _ H _ S5 (hyes rfl a na)) (fun f s6 hsp => ?_) (fun e6 s6 z => z)
    have end_ : ∀ {σ6 : L2.St} {H6 : Hp} {Q : Shared → Prop}, Inv (suY X a oe4 T4 oT4 pins (xeAs X a n pos')) [] σ6 H6 s6 → (∀ s7, Inv X pins (σ6.set i none) H6 s7 → Q s7) →
        wpAny (model X.prog X.w) X.A (do bindName X.env n .none; unbindBehindTheSuite X.env n pos') (fun _ s7 => Q s7) X.xe s6 := fun {σ6 H6 Q} S6 hq => gone_ok (un_suY S6 J.ok) hN hi hln hq
    cases f with
    | next => obtain ⟨σ6, H6, S6, q6⟩ := hsp; exact end_ S6 fun s7 J7 => ⟨_, _, J7, q6⟩
    | brk => obtain ⟨σ6, H6, S6, q6⟩ := hsp; exact end_ S6 fun s7 J7 => ⟨_, _, J7, q6⟩
    | cont => obtain ⟨σ6, H6, S6, q6⟩ := hsp; exact end_ S6 fun s7 J7 => ⟨_, _, J7, q6⟩
    | ret u => obtain ⟨v6, σ6, H6, S6, r6, q6⟩ := hsp; exact end_ S6 fun s7 J7 => ⟨_, _, _, J7, r6, q6⟩
/-- raise, in a suite without a name -/
theorem ps_reOnly {Wout : WX} {a T : Addr} {oe oT : Obj} {cls : Value} {d : Option Addr} {pins : List (Addr × Obj)} {pos : Pos} (F : FlyN X a oe T oT cls d pins) (tk : L2N.Takes X Wout) :
    PS (suY X a oe T oT pins X.xe) (.Raise none none pos) (fun _ σ H => Wout cls d σ H) := by
  refine ps_bareY F fun pn' σ H s I w => ?_
  obtain ⟨ha, hT, na, nt⟩ := suY_pins I
  obtain ⟨vs, tt, hd, h1, hdT, h3⟩ := F.f
  exact fly_on F (un_suY I F.ok) ha hT hdT (fl := tt[3]) (by simp [h3]) na nt tk w fun s' q => q
/-- raise, in a suite with a name: the name goes first -/
theorem ps_reAs {Wout : WX} {a T : Addr} {oe oT : Obj} {cls : Value} {d : Option Addr} {pins : List (Addr × Obj)} {pos : Pos} (C : TryC X) (hN : X.N.Nodup) (hi : X.N[i]? = some n) (hln : X.env.kindOf n = some .local) (F : FlyN X a oe T oT cls d pins) (tk : L2N.Takes X Wout) :
    PS (suY X a oe T oT pins (xeAs X a n pos')) (.Raise none none pos) (fun _ σ H => Wout cls d (σ.set i none) H) := by
  refine ps_bareY F fun pn' σ H s I w => ?_
  obtain ⟨ha, hT, na, nt⟩ := suY_pins I
  have P1 := I.pin (a, oe) (List.mem_append_left _ List.mem_cons_self)
  have P2 := I.pin (T, oT) (List.mem_append_left _ (List.mem_cons_of_mem _ List.mem_cons_self))
  obtain ⟨vs, tt, hd, h1, hdT, h3⟩ := F.f
  have J := un_suY I F.ok
  rw [F.hf]
  unfold setFlight
  refine wpAny_bind (wpAny_field ha hd h1 ?_)
  rw [if_pos (show (Value.ref T != Value.none) = true from by simp)]
  refine wpAny_setField hT hdT h3 ?_
  have oth : ∀ b, b ≠ T → ∀ o, s.heap.get? b = some o → (s.heap.update T (Obj.mapFields (·.setIfInBounds 3 (rawInt X.env.locals)))).get? b = some o := fun b hb o e => by rw [Heap.get?_update_other _ _ (Ne.symm hb)]; exact e
  have hT' := Heap.get?_update_self (Obj.mapFields (·.setIfInBounds 3 (rawInt X.env.locals))) hT (Obj.isFreed_of_fields (Obj.data_mapFields hdT _))
  have hdT' : (Obj.mapFields (·.setIfInBounds 3 (rawInt X.env.locals)) oT).data = .fields (tt.setIfInBounds 3 (rawInt X.env.locals)) := Obj.data_mapFields hdT _
  have h3' : (tt.setIfInBounds 3 (rawInt X.env.locals))[3]? = some (rawInt X.env.locals) := by simp [h3]
  have ncT : ∀ x c, X.env.cells.lookup x = some c → c ≠ T := fun x c hc z => by
    obtain ⟨v, o', z1, z2⟩ := J.cell x c hc
    rw [z, hT] at z1
    cases z1
    rw [hdT] at z2
    cases z2
  have J2 := inv_but (h' := s.heap.update T (Obj.mapFields (·.setIfInBounds 3 (rawInt X.env.locals)))) J oth nt F.t0 P2.2.2.1 ncT fun p hp => (F.np p hp).2
  have ha' := oth a (Ne.symm F.ne) oe ha
  have S2 := Wait.suite (xe := xeAs X a n pos') J2 ha' hd na P1.2.2.2.1 hT' hdT' nt P2.2.2.2.1
  show wpAny _ _ (noteFrame (.ref a) X.env) _ _ _
  refine HandSPX.againZ (base := PySem.W.hideAll s.heap [a, T]) (Z := L2N.Zn cls d) F.hf ⟨oe, vs, T, _, _, ha', F.z, hd, h1, PySem.W.hideAll_none _ (by simp), F.ne, hT', hdT', h3'⟩ ?_
  refine gone_ok (X := suY X a oe T (Obj.mapFields (·.setIfInBounds 3 (rawInt X.env.locals)) oT) pins (xeAs X a n pos')) S2 hN hi hln fun s7 S7 => ?_
  obtain ⟨ha7, hT7, na7, nt7⟩ := suY_pins S7
  unfold PySem.passOn
  refine wpAny_bind (wpAny_field ha7 hd h1 ?_)
  rw [if_neg (show ¬ ((Value.ref T == Value.none) = true) from by simp)]
  have fin : wpAny (model X.prog X.w) (X.A.mark (some (.ref a))) (setFlight (.ref a) X.env.frame) (fun _ s4 => wpAny (model X.prog X.w) (X.A.mark (some (.ref a))) (throw (.ref a) : Sem Flow) (fun _ _ => False) (notedBy (model X.prog X.w) (X.A.mark (some (.ref a))) X.env (cameBackBy (model X.prog X.w) X.A X.env X.xe)) s4) (notedBy (model X.prog X.w) (X.A.mark (some (.ref a))) X.env (cameBackBy (model X.prog X.w) X.A X.env X.xe)) s7 :=
    fly_on F (un_suY S7 F.ok) ha7 hT7 hdT' h3' na7 nt7 tk w fun s' q => wpAny_throw (C.hpa _ _ _ q)
  first
    | exact wpAny_bind (wpAny_pure (wpAny_bind fin))
    | exact wpAny_bind fin
/-- the whole -/
theorem ps_tryR {body : List Stmt} {h0 : ExceptHandler} {tb : WX → TS} {pos : Pos} (C : TryC X)
    (hb : ∀ (W : WX) (pn : List (Addr × Obj)) (xe : Value → Shared → Prop), L2N.Takes (X.tr pn xe) W → PassesOwn (model X.prog X.w) X.A X.env xe → PSs (X.tr pn xe) body (tb W)) (hh : PH X (h0 :: hds) wh) :
    PS X (.Try body (h0 :: hds) [] [] pos) (fun D σ H => tb (wh D) D σ H) := by
  refine ⟨fun pins s σ H D I h => ?_⟩
  have ok := I.ok
  have hfr : X.A.frames = some (X.env :: X.outer) := by rw [ok.frames, C.hs]
  refine wpAny_Try_except ?_
  refine wpAny_mono ((hb (wh D) (X.pn ++ pins) (fun e s₁ => wpAny (model X.prog X.w) X.A (noteFrame e X.env) (fun _ s₂ => wpAny (model X.prog X.w) X.A (setFlight e none) (fun _ s₃ =>
    wpAny (model X.prog X.w) X.A (handleBy e X.env (h0 :: hds)) (SP X pins D) X.xe s₃) X.xe s₂) X.xe s₁) (fun u s' xx => ?_) PassesOwn.looking).run [] s σ H D (I.toTry _) h) (fun f s1 hsp => ?_) (fun e s1 he => he)
  · obtain ⟨a, B, sI, pins', σ', H', cls, d, rfl, J', nb, up, sky, na, os, ag, w⟩ := xx
    have J : Inv X pins σ' H' sI := J'.ofTry ok
    have sky' : Sky B (X.env :: X.outer) a (L2N.Zn cls d) X.env.locals s'.heap := by rw [← C.hs]; exact sky
    show wpAny (model X.prog X.w) X.A (noteFrame (.ref a) X.env) _ _ _
    refine L2N.Sky.land L2N.Zn.steady hfr C.hf sky' fun h3 fl3 up3 => ?_
    exact hh.run pins D a σ' H' cls d _ ⟨B, sI, J, nb, up.trans up3, fl3, na, os, ag⟩ w
  · cases f with
    | next => obtain ⟨σ', H', J', q⟩ := hsp; exact wpAny_execs_nil ⟨σ', H', J'.ofTry ok, q⟩
    | brk => obtain ⟨σ', H', J', q⟩ := hsp; exact ⟨σ', H', J'.ofTry ok, q⟩
    | cont => obtain ⟨σ', H', J', q⟩ := hsp; exact ⟨σ', H', J'.ofTry ok, q⟩
    | ret u => obtain ⟨v, σ', H', J', r, q⟩ := hsp; exact ⟨v, σ', H', J'.ofTry ok, r, q⟩
end
end M


namespace M
open PySem L2
def isIntD : PyData → Bool
  | .int _ => true
  | _ => false
def sp_is_integer (K : PySem.W.Frag) : Sp := fun vs H Q _ => ∃ v d, vs = [v] ∧ Im K H v d ∧ Q (.bl (isIntD d)) H
theorem v_isint {K : PySem.W.Frag} {H : Hp} {Q : VK} {E : XK} {v : V} {d : PyData} (h : Im K H v d) (q : Q (.bl (isIntD d)) H) : sp_is_integer K [v] H Q E := ⟨v, d, rfl, h, q⟩
theorem v_isintI {K : PySem.W.Frag} {H : Hp} {Q : VK} {E : XK} {i : Int} (q : Q (.bl true) H) : sp_is_integer K [.int i] H Q E := ⟨_, _, rfl, .int i, q⟩
theorem v_isintT {K : PySem.W.Frag} {H : Hp} {Q : VK} {E : XK} {a : Addr} {ds : List PyData} (h : Im K H (.ref a) (.tuple ds)) (q : Q (.bl false) H) : sp_is_integer K [.ref a] H Q E := ⟨_, _, rfl, h, q⟩
end M
open PySem L2 M
local macro_rules | `(tactic| row_readAll sq) => `(tactic| first | assumption | exact Keep.sqT (by assumption) (by row_readAll sq))
local macro_rules | `(tactic| row_readAll im) => `(tactic| first | assumption | exact Im.mono (by assumption) (by row_readAll im))
local macro_rules | `(tactic| row_readAll ni) => `(tactic| first | exact List.not_mem_nil | (simp only [List.mem_cons, List.not_mem_nil, or_false, not_or]; first | assumption | (exact Ne.symm (by assumption)) | (refine ⟨?_, ?_⟩ <;> first | assumption | (exact Ne.symm (by assumption)))))
local macro_rules | `(tactic| row_readAll ob) => `(tactic| first | assumption | exact Keep.obj (by assumption) _ _ (by row_readAll ni) (by row_readAll ob))
local macro_rules | `(tactic| row_readAll n) => `(tactic| simp only [q_var0, q_varS, q_c, q_op, q_un, q_cb, q_call, q_nil, q_cons, q_if, q_test, q_tB, q_bl, q_and, q_or, q_not, q_andV, q_orV, q_notV, q_asg, q_gN, q_ret, q_retN, q_ifS, q_drop, q_next, q_then, q_tupX, q_lstX, q_sub, q_par, q_par1, q_par3, q_par31,
  q_M1, q_isStr, q_BM, q_fs, q_js, q_js0, q_js1, q_fmtS, str_e, q_iseq, q_ref, q_for, q_rng1, q_one, q_oneR, q_enum, q_chain, q_istr, q_strE, q_lc, q_wp0, q_wpS, q_kin, q_aug, q_get, List.getElem?_cons_zero, List.getElem?_cons_succ,  q_match, q_yes, q_iteT, q_iteF, q_set0, q_setS, q_addI, q_addS, q_i0, q_i, q_u, q_eqS, q_neS, q_eqI, q_neI, q_int1, q_int1B, q_str1, q_max2, Bool.not_true, Bool.not_false, true_and, if_true, if_false, Bool.false_eq_true, decide_true, decide_false, q_lit, String.reduceEq, opW, q_cs0, q_csN, q_cs, q_csO, q_csM, q_pm0, q_pmL, q_pmC, q_pmA, q_lo0, q_loL, q_loC, q_loA, q_bv0, q_bvS, List.length_cons, List.length_nil, Nat.reduceAdd, Nat.reduceEqDiff, Option.map_some, Option.map_none])
local macro_rules | `(tactic| row_readAll br) => `(tactic| first
  | with_reducible refine ite_d (by with_reducible rfl) ?_
  | with_reducible refine ite_n (by decide +kernel) ?_
  | with_reducible refine ite_nd (by with_reducible rfl) ?_
  | with_reducible refine ite_nn (by decide +kernel) ?_)
local macro_rules | `(tactic| row_readAll s2) => `(tactic| first
  | ((with_reducible show rIx _ (V.ref _) (V.int _) _ _); refine v_ixT (by row_readAll sq) (by rfl) ?_)
  | with_reducible refine v_match (by row_readAll sq) ?_
  | with_reducible refine v_isintI ?_
  | ((with_reducible show sp_is_integer _ [V.ref _] _ _ _); refine v_isintT (by row_readAll im) ?_)
  | ((with_reducible show rIsi _ [V.int _, V.ty _] _ _); first | refine v_isiI (b := true) (by rfl) ?_ | refine v_isiI (b := false) (by rfl) ?_)
  | ((with_reducible show rIsi _ [V.bl _, V.ty _] _ _); first | refine v_isiB (b := true) (by rfl) ?_ | refine v_isiB (b := false) (by rfl) ?_)
  | ((with_reducible show rIsi _ [V.str _, V.ty _] _ _); first | refine v_isiS (b := true) (by rfl) ?_ | refine v_isiS (b := false) (by rfl) ?_)
  | ((with_reducible show rIsi _ [V.non, V.ty _] _ _); first | refine v_isi (b := true) (.base .non) (by rfl) ?_ | refine v_isi (b := false) (.base .non) (by rfl) ?_)
  | ((with_reducible show rIsi _ [V.ref _, V.ty _] _ _); first | refine v_isiT (b := true) (by row_readAll sq) (by rfl) ?_ | refine v_isiT (b := false) (by row_readAll sq) (by rfl) ?_))
local macro_rules | `(tactic| row_readAll op) => `(tactic| (
  (try simp only [Stm.d, Ex.d] at hi); obtain ⟨a, xs, rfl, hs, ha⟩ := hi.of_tup; (try (obtain ⟨v0, r, rfl, h0, ha⟩ := ha.of_cons; cases h0.of_str));
  (try (obtain ⟨v1, r, rfl, h1, ha⟩ := ha.of_cons; try cases h1.of_str)); (try (obtain ⟨v2, r, rfl, h2, ha⟩ := ha.of_cons; try cases h2.of_str));
  (try (obtain ⟨v3, r, rfl, h3, ha⟩ := ha.of_cons; try cases h3.of_str)); cases ha.of_nil))
local macro_rules | `(tactic| row_readAll sz) => `(tactic| first | omega | (simp only [sl_eq, str_len]; omega) | (simp only [sl_eq, str_len] at *; omega))
local macro_rules | `(tactic| row_readAll nx) => `(tactic| first | with_reducible refine q_seq ?_ | with_reducible refine q_nx ?_)
local macro_rules | `(tactic| row_readAll s) => `(tactic| first | row_readAll n | row_readAll s2 | row_readAll br | row_readAll nx)
local macro_rules | `(tactic| row_readAll go) => `(tactic| repeat row_readAll s)
local macro_rules | `(tactic| row_readAll kp) => `(tactic| first | assumption | exact Keep.refl _ _ | exact Keep.back (by assumption) (by row_readAll kp) | exact Keep.back0 (by assumption) (by row_readAll kp))
local macro_rules | `(tactic| row_readAll ln) => `(tactic| (simp only [List.length_cons, List.length_nil, sl_eq]; decide))
local macro_rules | `(tactic| row_readAll s3) => `(tactic| first
  | row_readAll s
  | ((with_reducible show _ ≤ sizeLine ∧ _); refine ⟨by row_readAll sz, ?_⟩)
  | ((with_reducible show mkT _ _ _ _); refine v_mkT (by row_readAll ln) fun _ _ _ _ _ => ?_)
  | ((with_reducible show rInX _ (V.str _) (V.ref _) _ _); first | refine v_in2 (by row_readAll sq) ?_ | refine v_in3 (by row_readAll sq) ?_)
  | (simp only [Bool.or_false, Bool.or_true, Bool.true_or, Bool.false_or, Bool.and_true, Bool.true_and, Bool.false_and, Bool.and_false]))
local macro_rules | `(tactic| row_readAll ga) => `(tactic| repeat row_readAll s3)
namespace M
open PySem L2
def t_is_integer (K : PySem.W.Frag)  : TS := (tRet (tAndV (tCB (rIsi K) (tCons (tVar 0) (tCons (tC (.ty "int")) tNil))) (tNotV (tCB (rIsi K) (tCons (tVar 0) (tCons (tC (.ty "bool")) tNil))))))
def n_is_integer : List Str := ["value"]
theorem pure_is_integer {K : PySem.W.Frag} (vs : List V) (H : Hp) (Q : VK) (E : XK) (h : sp_is_integer K vs H Q E) : t_is_integer K { nx := fun _ H' => Q .non H', rt := Q } (start n_is_integer vs) H := by
  obtain ⟨v, d, rfl, hi, q⟩ := h
  show t_is_integer K _ [some v] H
  unfold t_is_integer
  cases hi <;> (row_readAll go; exact q)
end M


namespace M
open PySem PySem.Spec PyProof.Rows L2
abbrev GI (mg : Str → Option Value) (x : Str) (i : Int) : Prop := ∃ u, mg x = some u ∧ RelV (.int i) u
abbrev GS (mg : Str → Option Value) (x : Str) (z : Str) : Prop := ∃ u, mg x = some u ∧ RelV (.str z) u
abbrev GR (mg : Str → Option Value) (x : Str) (a : Addr) : Prop := ∃ u, mg x = some u ∧ RelV (.ref a) u
/-- what is walked: xs, as long as only S changes -/
def Wk (S : List Addr) (J : It) (xs : List V) (H : Hp) : Prop := ∀ H2, Keep S H H2 → J.stop xs.length H2 ∧ (∀ i, i < xs.length → J.go i H2) ∧ ∀ i x H3, i < xs.length → J.yld i H2 x H3 → xs[i]? = some x ∧ Keep [] H2 H3
section
variable {K : PySem.W.Frag} {σ : L2.St} {H : Hp} {Q : VK} {D : Ends} {S : List Addr}
theorem Wk.tup {a : Addr} {xs : List V} (h : SqT K H a xs) : Wk S (Itt K a) xs H := fun H2 k =>
  ⟨⟨xs, k.sqT h, Nat.le_refl _⟩, fun i hi => ⟨xs, xs[i], k.sqT h, by simp [hi]⟩, fun i x H3 _ y => ⟨y.2 xs (k.sqT h), y.1 ▸ Keep.refl _ _⟩⟩
theorem Wk.lst {a : Addr} {xs : List V} (h : SqL K H a xs) (n : a ∉ S) : Wk S (Itl K a) xs H := fun H2 k =>
  ⟨⟨xs, k.sqL n h, Nat.le_refl _⟩, fun i hi => ⟨xs, xs[i], k.sqL n h, by simp [hi]⟩, fun i x H3 _ y => ⟨y.2 xs (k.sqL n h), y.1 ▸ Keep.refl _ _⟩⟩
def signs (x : Str) : List V := x.cps.toList.map fun c => V.str ⟨#[c]⟩
theorem Wk.str {x : Str} : Wk S (Its x) (signs x) H := fun H2 k => by
  have e : (signs x).length = x.cps.size := by simp [signs]
  refine ⟨show x.cps.size ≤ _ by omega, fun i hi => show i < x.cps.size by omega, fun i v H3 hi y => ?_⟩
  obtain ⟨rfl, c, hc, rfl⟩ := y
  refine ⟨?_, Keep.refl _ _⟩
  simp only [signs, List.getElem?_map, Array.getElem?_toList, hc, Option.map_some]
theorem loop_W {J : It} {xs : List V} {g : TG} {tb : TS} (w : Wk S J xs H) (Pv : Nat → L2.St → Hp → Prop) (hK : ∀ i σ' H', Pv i σ' H' → Keep S H H') (h0 : Pv 0 σ H)
    (hs : ∀ i x σ' H1 H2, xs[i]? = some x → Pv i σ' H1 → Keep [] H1 H2 → g x σ' H2 fun σ2 H3 => tb { D with nx := Pv (i + 1), ct := Pv (i + 1), bk := D.nx } σ2 H3) (hd : ∀ σ' H', Pv xs.length σ' H' → D.nx σ' H') : LoopX J g tb D σ H := by
  refine loop_gen xs.length Pv h0 (fun σ' H' p => (w H' (hK _ _ _ p)).1) (fun i σ' H' hi p => (w H' (hK _ _ _ p)).2.1 i hi) ?_ hd
  intro i σ' H1 x H2 hi p y
  obtain ⟨e, k⟩ := (w H1 (hK _ _ _ p)).2.2 i x H2 hi y
  exact hs i x σ' H1 H2 e p k
/-- the end of a turn -/
def LayR (D : Addr) (R : Hp → Prop) (y : V) (H : Hp) : Prop := ∃ acc, H D = some (.lst acc) ∧ acc.length < sizeLine ∧ R (upd H D (.lst (acc ++ [y])))
theorem lay {D : Addr} {acc : List V} {y : V} {R : Hp → Prop} (h : H D = some (.lst acc)) (l : acc.length < sizeLine) (q : ∀ H', Keep [D] H H' → H' D = some (.lst (acc ++ [y])) → R H') :
    LayR D R y H := ⟨acc, h, l, q _ (Keep.put h True.intro) upd_same⟩
theorem comp_W {J : It} {xs : List V} {g : TG} {tt : TT} {te : TE} {vs : List Nat} (w : Wk S J xs H) (Pv : Addr → Nat → Hp → Prop) (hK : ∀ D i H2, Pv D i H2 → Keep S H H2)
    (h0 : ∀ D H2, H D = none → Keep [] H H2 → H2 D = some (.lst []) → Pv D 0 H2)
    (hs : ∀ D i H2 x H3, H D = none → xs[i]? = some x → Pv D i H2 → Keep [] H2 H3 → g x (wipe σ vs) H3 fun σ2 H4 => wipe σ2 vs = wipe σ vs ∧ tt σ2 H4 fun b H5 =>
      if b = true then te σ2 H5 fun y H6 => LayR D (Pv D (i + 1)) y H6 else Pv D (i + 1) H5)
    (hd : ∀ D H2, H D = none → Pv D xs.length H2 → Q (.ref D) H2) : CompX J g tt te vs σ H Q := by
  refine comp_gen xs.length Pv h0 (fun D H2 p => (w H2 (hK _ _ _ p)).1) (fun D i H2 hi p => (w H2 (hK _ _ _ p)).2.1 i hi) ?_ hd
  intro D i H2 x H3 hD hi p y
  obtain ⟨e, k⟩ := (w H2 (hK _ _ _ p)).2.2 i x H3 hi y
  exact hs D i H2 x H3 hD e p k
theorem take_snoc {α : Type} {xs : List α} {i : Nat} {x : α} (e : xs[i]? = some x) : xs.take (i + 1) = xs.take i ++ [x] := by rw [List.take_add_one, e]; rfl
theorem get_lt {α : Type} {xs : List α} {i : Nat} {x : α} (e : xs[i]? = some x) : i < xs.length := (List.getElem?_eq_some_iff.mp e).1
/-- [x for x in xs if f(x)] -/
theorem comp_filt {J : It} {xs : List V} {tt : TT} {j : Nat} (f : V → Bool) (w : Wk [] J xs H) (hl : xs.length ≤ sizeLine) (hj : j < σ.length)
    (ht : ∀ (i : Nat) (x : V) (H2 : Hp) (R : Bool → Hp → Prop), xs[i]? = some x → Keep [] H H2 → (∀ H3, Keep [] H2 H3 → R (f x) H3) → tt ((σ.set j none).set j (some x)) H2 R)
    (q : ∀ D H2, H D = none → Keep [] H H2 → H2 D = some (.lst (xs.filter f)) → Q (.ref D) H2) : CompX J (gName j) tt (tVar j) [j] σ H Q := by
  refine comp_W w (fun D i H2 => Keep [] H H2 ∧ H2 D = some (.lst ((xs.take i).filter f))) (fun _ _ _ p => p.1) (fun D H2 _ k h => ⟨k, by simpa using h⟩) ?_ (fun D H2 hD p => q D H2 hD p.1 (by simpa using p.2))
  rintro D i H2 x H3 hD e ⟨k, h⟩ k3
  have hi := get_lt e
  have h3 := k3.obj _ _ List.not_mem_nil h
  show wipe ((wipe σ [j]).set j (some x)) [j] = wipe σ [j] ∧ _
  refine ⟨by simp [wipe], ?_⟩
  refine ht i x H3 _ e (k.trans k3) fun H4 k4 => ?_
  have h4 := k4.obj _ _ List.not_mem_nil h3
  have es := take_snoc e
  have k9 := (k.trans k3).trans k4
  cases hf : f x
  · exact iteF ⟨k9, by rw [h4, es, List.filter_append]; simp [hf]⟩
  · refine iteT ⟨x, ?_, ?_⟩
    · simp [wipe, hj]
    · refine lay h4 ?_ fun H5 k5 h5 => ⟨k9.step1 k5 hD, by rw [h5, es, List.filter_append]; simp [hf]⟩
      have := List.length_filter_le f (xs.take i)
      have : (xs.take i).length ≤ i := by simp; omega
      omega
theorem v_extend {l b : Addr} {xs ys : List V} (h : H l = some (.lst xs)) (h2 : H b = some (.lst ys)) (z : xs.length + ys.length ≤ sizeLine) (q : ∀ H', Keep [l] H H' → H' l = some (.lst (xs ++ ys)) → Q .non H') : rExtend (.ref l) [.ref b] H Q :=
  ⟨l, b, xs, ys, rfl, rfl, h, h2, z, q _ (Keep.put h True.intro) upd_same⟩
theorem eqv_nil (ds : List PyData) : PyData.eqv (.list ds) (.list []) = ds.isEmpty := by
  cases ds <;> simp [PyData.eqv, PyData.eqvAll]
/-- xs == [] -/
theorem v_eqNil {a b : Addr} {xs : List V} {ds : List PyData} (h : H a = some (.lst xs)) (d : DpAll K H xs ds) (hb : H b = some (.lst [])) (s : SeqAt.shaped (.list ds) = true) (q : Q (.bl xs.isEmpty) H) : rEqX K (.ref a) (.ref b) H Q := by
  refine v_eqD (.lst (SqL.of h) d) (.lst (SqL.of hb) .nil) s (by decide) ?_
  rw [eqv_nil]
  cases d <;> exact q
theorem v_neNil {a b : Addr} {xs : List V} {ds : List PyData} (h : H a = some (.lst xs)) (d : DpAll K H xs ds) (hb : H b = some (.lst [])) (s : SeqAt.shaped (.list ds) = true) (q : Q (.bl (!xs.isEmpty)) H) : rNeX K (.ref a) (.ref b) H Q := by
  refine v_neD (.lst (SqL.of h) d) (.lst (SqL.of hb) .nil) s (by decide) ?_
  rw [eqv_nil]
  cases d <;> exact q
theorem shaped_list (ds : List PyData) : SeqAt.shaped (.list ds) = true ↔ (∀ d ∈ ds, d.canLay0 = true ∧ d.depth ≤ 63) := by
  rw [← lay_tup ds, shaped_iff, shaped_iff]
  simp [PyData.canLay0, PyData.depth]
end
end M


namespace M
open PySem PySem.Spec PyProof.Rows L2
/-! ### dicts as lists of pairs -/
section
variable {κ κ' α β : Type} [DecidableEq κ] [DecidableEq κ']
def valA (l : List (κ × α)) (k : κ) : Option α := (l.find? fun kv => decide (kv.1 = k)).map (·.2)
def putA (l : List (κ × α)) (k : κ) (v : α) : List (κ × α) := if (l.any fun kv => decide (kv.1 = k)) = true then l.map (fun kv => if kv.1 = k then (kv.1, v) else kv) else l ++ [(k, v)]
def dropA (l : List (κ × α)) (k : κ) : List (κ × α) := l.filter fun kv => decide (kv.1 ≠ k)
theorem valA_cons (p : κ × α) (l : List (κ × α)) (k : κ) : valA (p :: l) k = if p.1 = k then some p.2 else valA l k := by
  unfold valA
  rw [List.find?_cons]
  by_cases e : p.1 = k
  · rw [if_pos e, decide_eq_true e]; rfl
  · rw [if_neg e, decide_eq_false e]
theorem valA_nil (k : κ) : valA ([] : List (κ × α)) k = none := rfl
theorem valA_none {l : List (κ × α)} {k : κ} : valA l k = none ↔ k ∉ l.map (·.1) := by
  induction l with
  | nil => simp [valA_nil]
  | cons p r ih =>
    rw [valA_cons]
    by_cases e : p.1 = k
    · rw [if_pos e]; simp [e]
    · rw [if_neg e, ih, List.map_cons, List.mem_cons, not_or]
      exact ⟨fun z => ⟨fun y => e y.symm, z⟩, fun z => z.2⟩
theorem valA_some {l : List (κ × α)} {k : κ} {v : α} (h : valA l k = some v) : (k, v) ∈ l := by
  induction l with
  | nil => cases h
  | cons p r ih =>
    rw [valA_cons] at h
    by_cases e : p.1 = k
    · rw [if_pos e] at h; cases h; subst e; simp
    · rw [if_neg e] at h; exact List.mem_cons_of_mem _ (ih h)
theorem valA_mem {l : List (κ × α)} {k : κ} {v : α} (nd : (l.map (·.1)).Nodup) (h : (k, v) ∈ l) : valA l k = some v := by
  induction l with
  | nil => cases h
  | cons p r ih =>
    rw [List.map_cons, List.nodup_cons] at nd
    rw [valA_cons]
    rcases List.mem_cons.mp h with rfl | h
    · rw [if_pos rfl]
    · rw [if_neg, ih nd.2 h]
      rintro rfl
      exact nd.1 (List.mem_map_of_mem (f := (·.1)) h)
theorem valA_put {l : List (κ × α)} {k k' : κ} {v : α} : valA (putA l k v) k' = if k = k' then some v else valA l k' := by
  have key : ∀ l : List (κ × α), valA (l.map fun kv => if kv.1 = k then (kv.1, v) else kv) k' = if k = k' then (valA l k').map (fun _ => v) else valA l k' := by
    intro l
    induction l with
    | nil => simp [valA_nil]
    | cons p r ih =>
      rw [List.map_cons, valA_cons, valA_cons, ih]
      by_cases e1 : p.1 = k
      · rw [if_pos e1]
        by_cases e2 : k = k'
        · simp only [e1, e2, if_true, Option.map_some]
        · have : ¬ p.1 = k' := fun z => e2 (e1.symm.trans z)
          simp only [if_neg this, if_neg e2]
      · rw [if_neg e1]
        by_cases e2 : k = k'
        · have : ¬ p.1 = k' := fun z => e1 (z.trans e2.symm)
          simp only [if_neg this, if_pos e2]
        · simp only [if_neg e2]
  unfold putA
  split
  · rename_i h
    rw [key]
    by_cases e : k = k'
    · rw [if_pos e, if_pos e]
      cases z : valA l k' with
      | some w => rfl
      | none =>
        rw [valA_none] at z
        rw [List.any_eq_true] at h
        obtain ⟨p, hp, e2⟩ := h
        exact absurd (List.mem_map_of_mem (f := (·.1)) hp) (by rw [of_decide_eq_true e2, e]; exact z)
    · rw [if_neg e, if_neg e]
  · rename_i h
    unfold valA
    rw [List.find?_append]
    by_cases e : k = k'
    · subst e
      have : (l.find? fun kv => decide (kv.1 = k)) = none := by
        rw [List.find?_eq_none]
        intro p hp q
        exact h (List.any_eq_true.mpr ⟨p, hp, q⟩)
      rw [this]; simp
    · rw [if_neg e]
      have : ([(k, v)].find? fun kv => decide (kv.1 = k')) = none := by simp [e]
      rw [this]; simp
theorem keys_put {l : List (κ × α)} {k : κ} {v : α} : (putA l k v).map (·.1) = if k ∈ l.map (·.1) then l.map (·.1) else l.map (·.1) ++ [k] := by
  have h : (l.any fun kv => decide (kv.1 = k)) = true ↔ k ∈ l.map (·.1) := by
    rw [List.any_eq_true, List.mem_map]
    exact ⟨fun ⟨p, m, e⟩ => ⟨p, m, of_decide_eq_true e⟩, fun ⟨p, m, e⟩ => ⟨p, m, decide_eq_true e⟩⟩
  unfold putA
  by_cases e : k ∈ l.map (·.1)
  · rw [if_pos (h.mpr e), if_pos e, List.map_map]
    congr 1
    funext p
    show (if p.1 = k then (p.1, v) else p).1 = p.1
    split <;> rfl
  · rw [if_neg (fun z => e (h.mp z)), if_neg e]; simp
theorem nodup_put {l : List (κ × α)} {k : κ} {v : α} (h : (l.map (·.1)).Nodup) : ((putA l k v).map (·.1)).Nodup := by
  rw [keys_put]
  split
  · exact h
  · rename_i z
    refine List.nodup_append.mpr ⟨h, by simp, ?_⟩
    intro a ha b hb e
    simp at hb; subst e; subst hb; exact z ha
theorem len_put {l : List (κ × α)} {k : κ} {v : α} : (putA l k v).length ≤ l.length + 1 := by
  unfold putA; split <;> simp
/-- a dict's pairs and what they stand for -/
inductive MapR (f : κ → κ') (R : V → α → Prop) : List (κ' × V) → List (κ × α) → Prop
  | nil : MapR f R [] []
  | cons {k : κ} {v : V} {x : α} {m : List (κ' × V)} {l : List (κ × α)} : R v x → MapR f R m l → MapR f R ((f k, v) :: m) ((k, x) :: l)
variable {f : κ → κ'} {R R' : V → α → Prop} {m : List (κ' × V)} {l : List (κ × α)}
theorem MapR.length (h : MapR f R m l) : m.length = l.length := by
  induction h with
  | nil => rfl
  | cons _ _ ih => simp [ih]
theorem MapR.mono (h : MapR f R m l) (g : ∀ v x, R v x → R' v x) : MapR f R' m l := by
  induction h with
  | nil => exact .nil
  | cons r _ ih => exact .cons (g _ _ r) ih
theorem MapR.keys (h : MapR f R m l) : m.map (·.1) = l.map fun p => f p.1 := by
  induction h with
  | nil => rfl
  | cons _ _ ih => simp [ih]
theorem MapR.val (inj : ∀ a b, f a = f b → a = b) (h : MapR f R m l) (k : κ) : (valV m (f k) = none ∧ valA l k = none) ∨ ∃ v x, valV m (f k) = some v ∧ valA l k = some x ∧ R v x := by
  induction h with
  | nil => exact .inl ⟨rfl, rfl⟩
  | @cons k0 v x m l r _ ih =>
    rw [show valV ((f k0, v) :: m) (f k) = valA ((f k0, v) :: m) (f k) from rfl, valA_cons, valA_cons]
    by_cases e : k0 = k
    · rw [if_pos e, if_pos (congrArg f e)]
      exact .inr ⟨v, x, rfl, rfl, r⟩
    · rw [if_neg e, if_neg fun z => e (inj _ _ z)]
      exact ih
theorem MapR.any (inj : ∀ a b, f a = f b → a = b) (h : MapR f R m l) (k : κ) : (m.any fun kv => decide (kv.1 = f k)) = l.any fun kv => decide (kv.1 = k) := by
  induction h with
  | nil => rfl
  | @cons k0 v x m l r _ ih =>
    rw [List.any_cons, List.any_cons, ih]
    congr 1
    exact decide_eq_decide.mpr ⟨fun z => inj _ _ z, fun z => congrArg f z⟩
theorem MapR.append {m' : List (κ' × V)} {l' : List (κ × α)} (h : MapR f R m l) (h' : MapR f R m' l') : MapR f R (m ++ m') (l ++ l') := by
  induction h with
  | nil => exact h'
  | cons r _ ih => exact .cons r ih
theorem MapR.put (inj : ∀ a b, f a = f b → a = b) (h : MapR f R m l) {k : κ} {v : V} {x : α} (r : R v x) : MapR f R (putK m (f k) v) (putA l k x) := by
  unfold putK putA
  rw [h.any inj k]
  split
  · rename_i hh
    clear hh
    induction h with
    | nil => exact .nil
    | @cons k0 v0 x0 m l r0 _ ih =>
      rw [List.map_cons, List.map_cons]
      by_cases e : k0 = k
      · subst e
        rw [if_pos rfl, if_pos rfl]
        exact .cons r ih
      · rw [if_neg e, if_neg fun z => e (inj _ _ z)]
        exact .cons r0 ih
  · exact h.append (.cons r .nil)
theorem MapR.drop (inj : ∀ a b, f a = f b → a = b) (h : MapR f R m l) {k : κ} : MapR f R (dropK m (f k)) (dropA l k) := by
  unfold dropK dropA
  induction h with
  | nil => exact .nil
  | @cons k0 v0 x0 m l r0 _ ih =>
    rw [List.filter_cons, List.filter_cons]
    by_cases e : k0 = k
    · rw [if_neg (by simpa using congrArg f e), if_neg (by simpa using e)]
      exact ih
    · rw [if_pos (by simpa using fun z => e (inj _ _ z)), if_pos (by simpa using e)]
      exact .cons r0 ih
theorem MapR.get (h : MapR f R m l) {i : Nat} {p : κ' × V} (e : m[i]? = some p) : ∃ k x, l[i]? = some (k, x) ∧ p.1 = f k ∧ R p.2 x := by
  induction h generalizing i with
  | nil => simp at e
  | @cons k0 v0 x0 m l r0 _ ih =>
    cases i with
    | zero => simp at e; subst e; exact ⟨k0, x0, rfl, rfl, r0⟩
    | succ i => simp at e; obtain ⟨k, x, h1, h2⟩ := ih e; exact ⟨k, x, by simpa using h1, h2⟩
end
/-! ### dicts of texts -/
abbrev kS : Str → Key := Sum.inr
theorem kS_inj : ∀ a b : Str, kS a = kS b → a = b := fun _ _ h => Sum.inr.inj h
abbrev kT (k : Str × Str) : List Key := [.inr k.1, .inr k.2]
theorem kT_inj : ∀ a b : Str × Str, kT a = kT b → a = b := by
  rintro ⟨a, b⟩ ⟨c, d⟩ h
  simp only [kT, List.cons.injEq, and_true] at h
  rw [Sum.inr.inj h.1, Sum.inr.inj h.2]
def rIxD : R2 := fun x y H Q => ∃ a v, x = .ref a ∧ DGet H a y (some v) ∧ Q v H
def rInD : R2 := fun y x H Q => ∃ a o, x = .ref a ∧ DGet H a y o ∧ Q (.bl o.isSome) H
def rNotInD : R2 := fun y x H Q => ∃ a o, x = .ref a ∧ DGet H a y o ∧ Q (.bl (!o.isSome)) H
def rDNew : Hp → VK → Prop := fun H Q => ∀ p H', H p = none → Keep [] H H' → H' p = some (.dK []) → Q (.ref p) H'
def tDNew : TE := fun _ H Q => rDNew H Q
section
variable {X : Cx} {o i e value : Expr} {pos pos' tpos : Pos} {td ty tv : TE}
theorem pe_dix (hu : X.A.units + 64 < cLine) (ho : PE X o td) (hi : PE X i ty) (hs : NoSl i) : PE X (.Subscript o i pos) (tOp rIxD td ty) := pe_dget (by omega) ho hi hs
theorem pc_dinX (hu : X.A.units + 64 < cLine) (hi : PE X i ty) (ho : PE X o td) : PC X .In i o (tOp rInD ty td) := pc_din (by omega) hi ho
theorem pc_dninX (hu : X.A.units + 64 < cLine) (hi : PE X i ty) (ho : PE X o td) : PC X .NotIn i o (tOp rNotInD ty td) := pc_dnotin (by omega) hi ho
theorem pe_dnew : PE X (.Dict [] [] pos) tDNew := ⟨fun pins s σ H Q I h => (pe_dnewK (X := X) (pos := pos)).run pins s σ H Q I fun p hp => h p _ hp (Keep.new hp) upd_same⟩
theorem set_dictX (hu : X.A.units + 64 < cLine) : PSet X rSetD := set_dict (by omega)
end
section
variable {K : PySem.W.Frag} {σ : L2.St} {H : Hp} {Q : VK} {D : Ends} {a : Addr} {m : List (Key × V)}
theorem q_dnew : tDNew σ H Q = rDNew H Q := rfl
theorem v_dnew (q : ∀ p H', H p = none → Keep [] H H' → H' p = some (.dK []) → Q (.ref p) H') : rDNew H Q := q
theorem v_ixD {k : Str} {v : V} (h : H a = some (.dK m)) (e : valV m (.inr k) = some v) (q : Q v H) : rIxD (.ref a) (.str k) H Q := ⟨a, v, rfl, by have := DGet.k (k := .inr k) h; rw [e] at this; exact this, q⟩
theorem v_inD {k : Str} (h : H a = some (.dK m)) (q : Q (.bl (valV m (.inr k)).isSome) H) : rInD (.str k) (.ref a) H Q := ⟨a, _, rfl, DGet.k (k := .inr k) h, q⟩
theorem v_ninD {k : Str} (h : H a = some (.dK m)) (q : Q (.bl (!(valV m (.inr k)).isSome)) H) : rNotInD (.str k) (.ref a) H Q := ⟨a, _, rfl, DGet.k (k := .inr k) h, q⟩
theorem v_setD {k : Str} {v : V} {R : Hp → Prop} (h : H a = some (.dK m)) (l : m.length < sizeLine) (q : ∀ H', Keep [a] H H' → H' a = some (.dK (putK m (.inr k) v)) → R H') : rSetD (.ref a) (.str k) v H R :=
  ⟨a, _, rfl, DPut.k (k := .inr k) h l, q _ (Keep.put h True.intro) upd_same⟩
end
end M


namespace M
open PySem PySem.Spec PyProof.Rows L2 SlX
/-! ### own `in`, own `[]` of instances with slots -/
section
variable {X : Cx} {CX : CXT} {C g : Addr} {n : Nat} {sp : Sp} {E : XK}
def rInO (C : Addr) (sp : Sp) (E : XK) : R2 := fun x y H Q => ∃ a dx vs, y = .ref a ∧ Slt H a C dx vs ∧ sp [.ref a, x] H (fun z H' => ∃ b, z = .bl b ∧ Q (.bl b) H') E
def rNotInO (C : Addr) (sp : Sp) (E : XK) : R2 := fun x y H Q => ∃ a dx vs, y = .ref a ∧ Slt H a C dx vs ∧ sp [.ref a, x] H (fun z H' => ∃ b, z = .bl b ∧ Q (.bl (!b)) H') E
def rIxO (C : Addr) (sp : Sp) (E : XK) : R2 := fun x y H Q => ∃ a dx vs, x = .ref a ∧ Slt H a C dx vs ∧ sp [.ref a, y] H Q E
theorem op_inO (hs : PySem.W.findIn X.K (.ref C) "__contains__" = some (some (.ref g))) (hf : PySem.W.isFn X.K (.ref g) = true) (F : FnR X.prog X.w X.K X.mg X.base CX n g sp) (hr : Room n X.A) (hx : Passes CX X E) :
    OpR X (compareOp .In) (rInO C sp E) := by
  intro pins s σ H x y v u Q I rx ry h
  obtain ⟨a, dx, vs, rfl, ha, q⟩ := h
  cases (show u = Value.ref a from ry)
  obtain ⟨sl, od, _, J, _⟩ := slt_inst I ha
  obtain ⟨m, hF⟩ := I.fr
  refine PySem.W.in_K hF I.ok.mod.kin J hs hf ?_
  refine wpAny_mono (wpAny_call (run_fnR (us := [.ref a, v]) (vs := [.ref a, x]) F hr hx I (.cons rfl (.cons rx .nil)) q)) (fun w s' z => ?_) fun _ _ x => x
  obtain ⟨z', H', I', rz, b, rfl, qz⟩ := z
  cases (show w = Value.bool b from rz)
  exact wpAny_truthy_bool ⟨.bl b, H', I', rfl, qz⟩
theorem op_notInO (hs : PySem.W.findIn X.K (.ref C) "__contains__" = some (some (.ref g))) (hf : PySem.W.isFn X.K (.ref g) = true) (F : FnR X.prog X.w X.K X.mg X.base CX n g sp) (hr : Room n X.A) (hx : Passes CX X E) :
    OpR X (compareOp .NotIn) (rNotInO C sp E) := by
  intro pins s σ H x y v u Q I rx ry h
  obtain ⟨a, dx, vs, rfl, ha, q⟩ := h
  cases (show u = Value.ref a from ry)
  obtain ⟨sl, od, _, J, _⟩ := slt_inst I ha
  obtain ⟨m, hF⟩ := I.fr
  refine PySem.W.notIn_K hF I.ok.mod.kin J hs hf ?_
  refine wpAny_mono (wpAny_call (run_fnR (us := [.ref a, v]) (vs := [.ref a, x]) F hr hx I (.cons rfl (.cons rx .nil)) q)) (fun w s' z => ?_) fun _ _ x => x
  obtain ⟨z', H', I', rz, b, rfl, qz⟩ := z
  cases (show w = Value.bool b from rz)
  exact wpAny_truthy_bool ⟨.bl (!b), H', I', rfl, qz⟩
theorem run_in1 {pins : List (Addr × Obj)} {σ : L2.St} {H : Hp} {s : Shared} {Q : VK} {us : List Value} {vs : List V} (F : FnR X.prog X.w X.K X.mg X.base CX n g sp) (hr : Room (n + 1) X.A) (hx : Passes CX X E) (I : Inv X pins σ H s) (r : Vals vs us) (h : sp vs H Q E) :
    wpAny (model X.prog X.w) X.A.in1 (call (.ref g) us) (EP X pins σ Q) X.xe s := by
  refine wpAny_call (codeAny_mono (F X.A.in1 X.stack s H us vs Q E hr.in1 I.env0.in1 r h) fun r s' hq => ?_)
  cases r with
  | error e => exact hx pins σ H s e s' I hq
  | ok fl =>
    cases fl with
    | ret u => exact I.after hq
    | next => exact False.elim hq
    | brk => exact False.elim hq
    | cont => exact False.elim hq
theorem pe_ixO {a b : Expr} {ta tb : TE} {pos : Pos} (hs : PySem.W.findIn X.K (.ref C) "__getitem__" = some (some (.ref g))) (hfn : PySem.W.fnIn X.K g = true) (hf : PySem.W.isFn X.K (.ref g) = true) (F : FnR X.prog X.w X.K X.mg X.base CX n g sp) (hr : Room (n + 1) X.A) (hx : Passes CX X E)
    (ha : PE X a ta) (hb : PE X b tb) (hsl : ∀ v u, subscripted b true v u = runValue (.builtin "lifetime.subscript" ⟨[v, u], []⟩) := by intro v u; with_unfolding_all rfl) : PE X (.Subscript a b pos) (tOp (rIxO C sp E) ta tb) := by
  refine ⟨fun pins s σ H Q I h => ?_⟩
  refine Subscript_ (binT ha hb I h fun v u s2 x y H2 I2 rx ry q => ?_)
  obtain ⟨o, dx, vs, rfl, hsl2, q⟩ := q
  cases (show v = Value.ref o from rx)
  obtain ⟨sl, od, _, J, _⟩ := slt_inst I2 hsl2
  obtain ⟨m, hF⟩ := I2.fr
  exact PySem.W.sub_K hF I2.ok.mod.kin J hs hfn hf (run_in1 (vs := [.ref o, y]) F hr hx I2 (.cons rfl (.cons ry .nil)) q) (hsl _ _)
end
end M


namespace M
open PySem PySem.Spec PyProof.Rows L2
/-! ### names in ascending order -/
def leS (a b : Str) : Bool := !ltCps b.cps.toList a.cps.toList
theorem leS_iff (a b : Str) : leS a b = true ↔ a.cps.toList ≤ b.cps.toList := by
  unfold leS
  rw [ltCps_eq]
  simp
theorem leS_trans (a b c : Str) (h1 : leS a b = true) (h2 : leS b c = true) : leS a c = true := by
  rw [leS_iff] at *
  exact List.le_trans h1 h2
theorem leS_total (a b : Str) : (leS a b || leS b a) = true := by
  rw [Bool.or_eq_true, leS_iff, leS_iff]
  exact List.le_total a.cps.toList b.cps.toList
theorem leS_antisymm {a b : Str} (h1 : leS a b = true) (h2 : leS b a = true) : a = b := by
  rw [leS_iff] at *
  have e := List.le_antisymm h1 h2
  obtain ⟨x⟩ := a
  obtain ⟨y⟩ := b
  have : x = y := Array.toList_inj.mp e
  rw [this]
def sortN (l : List Str) : List Str := l.mergeSort leS
theorem sortN_perm (l : List Str) : (sortN l).Perm l := List.mergeSort_perm l leS
theorem sortN_sorted (l : List Str) : (sortN l).Pairwise fun a b => leS a b = true := List.pairwise_mergeSort leS_trans leS_total l
theorem sorted_pair : ∀ {l : List Str}, sortedS l = true → l.Pairwise fun a b => leS a b = true
  | [], _ => .nil
  | [x], _ => by simp
  | x :: y :: r, h => by
    have h' : (!ltCps y.cps.toList x.cps.toList && risingS y r) = true := h
    rw [Bool.and_eq_true] at h'
    have ih := sorted_pair (l := y :: r) h'.2
    refine List.pairwise_cons.mpr ⟨fun z hz => ?_, ih⟩
    rcases List.mem_cons.mp hz with rfl | hz
    · exact h'.1
    · exact leS_trans _ _ _ h'.1 ((List.pairwise_cons.mp ih).1 z hz)
theorem perm_unique : ∀ {l m : List Str}, l.Perm m → (l.Pairwise fun a b => leS a b = true) → (m.Pairwise fun a b => leS a b = true) → l = m
  | [], m, p, _, _ => (List.nil_perm.mp p).symm
  | x :: l, [], p, _, _ => absurd p.length_eq (by simp)
  | x :: l, y :: m, p, h1, h2 => by
    have hx := List.pairwise_cons.mp h1
    have hy := List.pairwise_cons.mp h2
    have e : x = y := by
      have m1 : x ∈ y :: m := p.mem_iff.mp List.mem_cons_self
      have m2 : y ∈ x :: l := p.mem_iff.mpr List.mem_cons_self
      rcases List.mem_cons.mp m1 with e | m1
      · exact e
      · rcases List.mem_cons.mp m2 with e | m2
        · exact e.symm
        · exact leS_antisymm (hx.1 y m2) (hy.1 x m1)
    subst e
    rw [perm_unique (List.perm_cons x |>.mp p) hx.2 hy.2]
theorem sortN_eq {ys ks : List Str} (p : ys.Perm ks) (s : sortedS ys = true) : ys = sortN ks := perm_unique (p.trans (sortN_perm ks).symm) (sorted_pair s) (sortN_sorted ks)
theorem sortN_congr {a b : List Str} (p : a.Perm b) : sortN a = sortN b := perm_unique ((sortN_perm a).trans (p.trans (sortN_perm b).symm)) (sortN_sorted a) (sortN_sorted b)
theorem sortN_mem {l : List Str} {x : Str} : x ∈ sortN l ↔ x ∈ l := (sortN_perm l).mem_iff
theorem sortN_len (l : List Str) : (sortN l).length = l.length := (sortN_perm l).length_eq
theorem sortN_nodup {l : List Str} (h : l.Nodup) : (sortN l).Nodup := (sortN_perm l).nodup_iff.mpr h
end M


namespace M
open PySem PySem.Spec PyProof.Rows L2 HotX L2H
/-! ### walks while an exception is handled -/
section
variable {prog : Program} {w : World} {A : Around} {E : Value → Shared → Prop} {s : Shared}
theorem list_end_hot {it l x1 : Addr} {i : Nat} {items : Array Value} {Q : Option Value → Shared → Prop} (hot : HotAt A x1 s.heap) (hne : x1 ≠ it) (hit : s.heap.IsListIter it l i) (hl : s.heap.IsList l items) (hx : items[i]? = none)
    (hQ : ∀ h', (∀ b o, b ≠ it → s.heap.get? b = some o → h'.get? b = some o) → Q none { s with heap := h' }) : wpAny (model prog w) A (pyNext (.ref it)) Q E s := by
  obtain ⟨o, ho, hc, hd⟩ := id hit
  obtain ⟨ol, hol, _, nl, hdl⟩ := hl
  obtain ⟨hh, o1, vs1, h1, d1, c1⟩ := hot
  unfold pyNext
  refine wpAny_bind (wpAny_attempt (wpAny_callSpecial?_slot (name := Str.ofString "__next__") hit.typeIs slot_listiter_next (wpAny_call_entry slot_listiter_next hit.typeIs entry_listiter_next ?_ (args_listiter_next _))))
  show wpAny _ _ (field (.ref it) 0 >>= _) _ _ s
  refine wpAny_bind (wpAny_field ho hd (x := .ref l) rfl ?_)
  show wpAny _ _ (if (Value.ref l == Value.none) = true then _ else _) _ _ s
  rw [if_neg (show ¬ ((Value.ref l == Value.none) = true) from Bool.false_ne_true)]
  show wpAny _ _ (field (.ref it) 1 >>= _) _ _ s
  refine wpAny_bind (wpAny_field ho hd (x := .int i 0) rfl ?_)
  show wpAny _ _ (seqItems? (.ref l) >>= _) _ _ s
  refine wpAny_bind (wpAny_seqItems hol hdl ?_)
  simp only [Int.toNat_natCast, hx]
  refine wpAny_bind (wpAny_rule (wpAny_bind (wpAny_setField ho hd (by simp) ?_)))
  show wpAny _ _ (newExc (.type "StopIteration") [] >>= _) _ _ _
  refine wpAny_bind ?_
  simp only [newExc, newTuple]
  refine wpAny_bind (wpAny_newObj_type ?_ (by size_fits))
  refine wpAny_bind (m := firstArgMember _ _) (wpAny_of_eq (a := Value.none) (by first | rfl | (simp only [firstArgMember]; rfl)) ?_)
  refine wpAny_newObj_type ?_ (by size_fits)
  have oth : ∀ b ob, b ≠ it → s.heap.get? b = some ob → (s.heap.update it (Obj.mapFields (·.setIfInBounds 0 .none))).get? b = some ob := fun b ob hb e => by rw [Heap.get?_update_other _ _ (Ne.symm hb)]; exact e
  have g1 := Heap.get?_push_of_some { cls := .type "tuple", data := .seq ([] : List Value).toArray } (oth x1 o1 hne h1)
  refine raiseNew_hot ⟨hh, o1, vs1, Heap.get?_push_of_some _ g1, d1, c1⟩ (Nat.ne_of_lt (Heap.lt_size g1)) (Heap.get?_push_size _ rfl) rfl (by first | (simp; done) | (simp; omega) | (simp only [Array.size_append]; simp; omega)) ?_
  refine wpAny_bind (wpAny_isInstance (T := "StopIteration") (b := true) ⟨_, Heap.get?_update_self _ (Heap.get?_push_size _ rfl) rfl, rfl⟩ isSubtype_stop ?_)
  refine wpAny_pure (hQ _ fun b ob hb e => ?_)
  have g2 := Heap.get?_push_of_some { cls := .type "tuple", data := .seq ([] : List Value).toArray } (oth b ob hb e)
  rw [Heap.get?_update_other _ _ (Nat.ne_of_gt (Heap.lt_size g2))]
  exact Heap.get?_push_of_some _ g2
theorem key_end_hot {it d x1 : Addr} {i n ep : Nat} {od : Obj} {es : Array DictEntry} {Q : Option Value → Shared → Prop} (hot : HotAt A x1 s.heap) (hne : x1 ≠ it) (hit : s.heap.IsKeyIter it d i n ep) (hod : s.heap.get? d = some od) (hdd : od.data = .dict es ep)
    (hsz : es.size = n) (hge : n ≤ i) (hQ : ∀ h', (∀ b o, b ≠ it → s.heap.get? b = some o → h'.get? b = some o) → Q none { s with heap := h' }) : wpAny (model prog w) A (pyNext (.ref it)) Q E s := by
  obtain ⟨o, ho, hc, hd⟩ := id hit
  obtain ⟨hh, o1, vs1, h1, d1, c1⟩ := hot
  unfold pyNext
  refine wpAny_bind (wpAny_attempt (wpAny_callSpecial?_slot (name := Str.ofString "__next__") hit.typeIs F.slot_dict_keyiterator_next
    (wpAny_call_entry F.slot_dict_keyiterator_next hit.typeIs F.entry_dict_keyiterator_next ?_ (F.args_dict_keyiterator_next_1 _))))
  refine wpAny_bind (wpAny_pure ?_)
  refine wpAny_bind ?_
  refine wpAny_bind ?_
  first | refine wpAny_bind (wpAny_typeNameOfWhole_keyiter hit.typeIs (wpAny_pure ?_)) | refine wpAny_bind (wpAny_typeNameOf_keyiter hit.typeIs (wpAny_pure ?_))
  refine wpAny_bind (wpAny_fieldsOf ho hd ?_)
  have hown : Builtin.Dict_items.ownsTuple "dict_keyiterator" = false := by decide
  simp only [hown, Bool.false_eq_true, if_false]
  show wpAny _ _ (if (Value.ref d == Value.none) = true then _ else _) _ _ s
  rw [if_neg (show ¬ ((Value.ref d == Value.none) = true) from Bool.false_ne_true)]
  refine wpAny_bind (wpAny_pure ?_)
  refine wpAny_bind (wpAny_dictEntries hod hdd ?_)
  rw [if_neg (by rw [hsz]; simp)]
  refine wpAny_bind (wpAny_pure ?_)
  refine wpAny_bind (wpAny_dictEpoch hod hdd ?_)
  rw [if_neg (by simp)]
  refine wpAny_pure ?_
  have hge' : es.size ≤ i := by rw [hsz]; exact hge
  simp only [show ¬ ((i : Int) < 0) from by omega, if_false, Int.toNat_natCast, Array.getElem?_eq_none hge']
  refine wpAny_bind ?_
  first | refine wpAny_bind (wpAny_typeNameOfWhole_keyiter hit.typeIs (wpAny_pure ?_)) | refine wpAny_bind (wpAny_typeNameOf_keyiter hit.typeIs (wpAny_pure ?_))
  show wpAny _ _ (setField (.ref it) 0 .none >>= _) _ _ s
  refine wpAny_bind (wpAny_setField ho hd (by simp) ?_)
  show wpAny _ _ (newExc (.type "StopIteration") [] >>= _) _ _ _
  refine wpAny_bind ?_
  simp only [newExc, newTuple]
  refine wpAny_bind (wpAny_newObj_type ?_ (by size_fits))
  refine wpAny_bind (m := firstArgMember _ _) (wpAny_of_eq (a := Value.none) (by first | rfl | (simp only [firstArgMember]; rfl)) ?_)
  refine wpAny_newObj_type ?_ (by size_fits)
  have oth : ∀ b ob, b ≠ it → s.heap.get? b = some ob → (s.heap.update it (Obj.mapFields (·.setIfInBounds 0 .none))).get? b = some ob := fun b ob hb e => by rw [Heap.get?_update_other _ _ (Ne.symm hb)]; exact e
  have g1 := Heap.get?_push_of_some { cls := .type "tuple", data := .seq ([] : List Value).toArray } (oth x1 o1 hne h1)
  refine raiseNew_hot ⟨hh, o1, vs1, Heap.get?_push_of_some _ g1, d1, c1⟩ (Nat.ne_of_lt (Heap.lt_size g1)) (Heap.get?_push_size _ rfl) rfl (by first | (simp; done) | (simp; omega) | (simp only [Array.size_append]; simp; omega)) ?_
  refine wpAny_bind (wpAny_isInstance (T := "StopIteration") (b := true) ⟨_, Heap.get?_update_self _ (Heap.get?_push_size _ rfl) rfl, rfl⟩ isSubtype_stop ?_)
  refine wpAny_pure (hQ _ fun b ob hb e => ?_)
  have g2 := Heap.get?_push_of_some { cls := .type "tuple", data := .seq ([] : List Value).toArray } (oth b ob hb e)
  rw [Heap.get?_update_other _ _ (Nat.ne_of_gt (Heap.lt_size g2))]
  exact Heap.get?_push_of_some _ g2
end
end M


namespace M
open PySem PySem.Spec PyProof.Rows L2 HotX L2H
section
variable {P : Program} {w : World} {K : PySem.W.Frag} {tg : Expr}
theorem hot_it {X : Cx} {pins : List (Addr × Obj)} {σ : L2.St} {H : Hp} {s : Shared} {it : Addr} (hc : HotC X) (I : Inv X pins σ H s) (f : FpOk X pins H it) : ∃ x1, HotAt X.A x1 s.heap ∧ x1 ≠ it := by
  obtain ⟨p, ⟨hh, v1, e1, c1⟩, hp⟩ := hc
  exact ⟨p.1, ⟨hh, p.2, v1, (I.pin p (List.mem_append_left _ hp)).1, e1, c1⟩, f.2.2.2.2.2 p (List.mem_append_left _ hp)⟩
theorem turn_listH (a it : Addr) : TurnH P w K tg (Itl K a) [it] it (fun i h => h.IsListIter it a i) where
  mem := by simp
  obj := fun i h st b hb => by
    have e : b = it := by simpa using hb
    subst e
    obtain ⟨o, e, c, d⟩ := st
    exact ⟨o, e, fun v z => by rw [d] at z; cases z⟩
  keep := fun i h h' st k => st.at fun o e => k it (by simp) o e
  item := by
    intro X hP hw hK hc i pins s σ H E I hf st hg
    subst hP hw hK
    obtain ⟨xs, x, hq, hx⟩ := hg
    obtain ⟨its, rv, p, hz⟩ := I.list hq
    obtain ⟨u, hu, ru⟩ := rv.get hx
    obtain ⟨f0, f1, f2, f3, f4, f5⟩ := hf it (by simp)
    refine wpAny_pyNext_list_item st p.isList (x := u) (by simpa using hu) fun h' st' sb => ?_
    have I1 : Inv X pins σ H { s with heap := h' } := I.turned (t' := s.toks) (fun b o hb e => (sb.2 b hb).trans e) f0 f1 f3 f4 f5
    obtain ⟨o, e, c, d⟩ := id st'
    exact ⟨u, rfl, go_of (s := { s with heap := h' }) e c d (by decide) ⟨x, H, I1, ru, ⟨rfl, fun ys hy => by rw [I.list_inj hy hq]; exact hx⟩, st', fun b hb => (hf b hb).1⟩⟩
  done := by
    intro X hP hw hK hc i pins s σ H E I hf st hg
    subst hP hw hK
    obtain ⟨xs, hq, hx⟩ := hg
    obtain ⟨its, rv, p, hz⟩ := I.list hq
    obtain ⟨x1, hot, hne⟩ := hot_it hc I (hf it (by simp))
    obtain ⟨f0, f1, f2, f3, f4, f5⟩ := hf it (by simp)
    have hl := rv.length
    exact list_end_hot hot hne st p.isList (by simp; omega) fun h' eb => ⟨rfl, I.turned (t' := s.toks) (fun b o hb e => eb b o hb e) f0 f1 f3 f4 f5⟩
  self := fun _ _ _ _ _ st h => wpAny_pyIter_listiter st h
theorem turn_keysH {d : Addr} {o : Obj} {es : Array DictEntry} {ep : Nat} {kvs : List (Key × V)} (it : Addr) (hod : o.data = .dict es ep) : TurnH P w K tg (Itk d o kvs) [it] it (fun i h => h.IsKeyIter it d i kvs.length ep) where
  mem := by simp
  obj := fun i h st b hb => by
    have e : b = it := by simpa using hb
    subst e
    obtain ⟨oi, e, c, dd⟩ := st
    exact ⟨oi, e, fun v z => by rw [dd] at z; cases z⟩
  keep := fun i h h' st k => st.at fun oi e => k it (by simp) oi e
  item := by
    intro X hP hw hK hc i pins s σ H E I hf st hg
    subst hP hw hK
    obtain ⟨hd, hi⟩ := hg
    obtain ⟨f0, f1, f2, f3, f4, f5⟩ := hf it (by simp)
    obtain ⟨hs, hgd, hx, es', ep', vs, hdt, hsz, kv, hm⟩ := I.frzK hd
    obtain ⟨rfl, rfl⟩ := dict_ep hod hdt
    obtain ⟨⟨k, v⟩, hkv⟩ : ∃ p, kvs[i]? = some p := ⟨kvs[i], List.getElem?_eq_getElem hi⟩
    obtain ⟨u, hu, ru⟩ := kv_get kv hkv
    have hl : kvs.length = vs.length := Paired.length kv
    rw [hl] at st
    refine wpAny_pyNext_dict_item st hm hu fun key h' hkey st' sb => ?_
    have I1 : Inv X pins σ H { s with heap := h' } := I.turned (t' := s.toks) (fun b ob hb e => (sb.2 b hb).trans e) f0 f1 f3 f4 f5
    obtain ⟨oi, e, c, dd⟩ := id st'
    refine ⟨key, rfl, go_of (s := { s with heap := h' }) e c dd (by decide) ⟨kV k, H, I1, relV_key (show keyIs k key = true from hkey), ⟨rfl, k, v, hkv, rfl⟩, ?_, fun b hb => (hf b hb).1⟩⟩
    show h'.IsKeyIter it d (i + 1) kvs.length _
    rw [hl]
    exact st'
  done := by
    intro X hP hw hK hc i pins s σ H E I hf st hg
    subst hP hw hK
    obtain ⟨hd, hi⟩ := hg
    obtain ⟨x1, hot, hne⟩ := hot_it hc I (hf it (by simp))
    obtain ⟨f0, f1, f2, f3, f4, f5⟩ := hf it (by simp)
    obtain ⟨hs, hgd, hx, es', ep', vs, hdt, hsz, kv, hm⟩ := I.frzK hd
    obtain ⟨rfl, rfl⟩ := dict_ep hod hdt
    exact key_end_hot hot hne st hgd hdt hsz hi fun h' eb => ⟨rfl, I.turned (t' := s.toks) (fun b ob hb e => eb b ob hb e) f0 f1 f3 f4 f5⟩
  self := fun A i s Q E st h => wpAny_pyIter_keyiter st h
theorem turn_keysTH {d : Addr} {o : Obj} {es : Array DictEntry} {ep : Nat} {kvs : List (List Key × V)} (it : Addr) (hod : o.data = .dict es ep) : TurnH P w K tg (Itkt d o kvs) [it] it (fun i h => h.IsKeyIter it d i kvs.length ep) where
  mem := by simp
  obj := fun i h st b hb => by
    have e : b = it := by simpa using hb
    subst e
    obtain ⟨oi, e, c, dd⟩ := st
    exact ⟨oi, e, fun v z => by rw [dd] at z; cases z⟩
  keep := fun i h h' st k => st.at fun oi e => k it (by simp) oi e
  item := by
    intro X hP hw hK hc i pins s σ H E I hf st hg
    subst hP hw hK
    obtain ⟨hd, hi⟩ := hg
    obtain ⟨f0, f1, f2, f3, f4, f5⟩ := hf it (by simp)
    obtain ⟨hs, hgd, hx, es', ep', hdt, hsz, ent⟩ := I.frzT hd
    obtain ⟨rfl, rfl⟩ := dict_ep hod hdt
    obtain ⟨⟨k, v⟩, hkv⟩ : ∃ p, kvs[i]? = some p := ⟨kvs[i], List.getElem?_eq_getElem hi⟩
    obtain ⟨en, q, hen, hkey, hq⟩ := ent i k v hkv
    refine next_key_item st hgd hdt hsz hen fun h' st' sb => ?_
    have I1 : Inv X pins σ H { s with heap := h' } := I.turned (t' := s.toks) (fun b ob hb e => (sb.2 b hb).trans e) f0 f1 f3 f4 f5
    obtain ⟨oi, e, c, dd⟩ := id st'
    exact ⟨en.key, rfl, go_of (s := { s with heap := h' }) e c dd (by decide) ⟨.ref q, H, I1, hkey, ⟨rfl, k, v, q, hkv, rfl, hq⟩, st', fun b hb => (hf b hb).1⟩⟩
  done := by
    intro X hP hw hK hc i pins s σ H E I hf st hg
    subst hP hw hK
    obtain ⟨hd, hi⟩ := hg
    obtain ⟨x1, hot, hne⟩ := hot_it hc I (hf it (by simp))
    obtain ⟨f0, f1, f2, f3, f4, f5⟩ := hf it (by simp)
    obtain ⟨hs, hgd, hx, es', ep', hdt, hsz, ent⟩ := I.frzT hd
    obtain ⟨rfl, rfl⟩ := dict_ep hod hdt
    exact key_end_hot hot hne st hgd hdt hsz hi fun h' eb => ⟨rfl, I.turned (t' := s.toks) (fun b ob hb e => eb b ob hb e) f0 f1 f3 f4 f5⟩
  self := fun A i s Q E st h => by
    refine wpAny_pyIter_slot st.typeIs F.slot_dict_keyiterator_iter (wpAny_call_entry F.slot_dict_keyiterator_iter st.typeIs F.entry_dict_keyiterator_iter ?_ (F.args_dict_keyiterator_iter_1 _))
    show wpAny _ _ (ret (.ref it)) _ _ s
    exact wpAny_pure ⟨_, rfl, "dict_keyiterator", _, st.typeIs, F.slot_dict_keyiterator_next.lookup, h⟩
end
section
variable {X : Cx} {tg : Expr}
theorem pi_oneH {pins : List (Addr × Obj)} {σ : L2.St} {H : Hp} {s : Shared} {R : It → Hp → Prop} {tk : Nat} {J : It} {tn : Nat → Heap → Prop} {o : Obj} (I : Inv X pins σ H s) (T : TurnH X.prog X.w X.K tg J [s.heap.objs.size] s.heap.objs.size tn) (st : tn 0 (s.heap.push o)) (q : R J H) :
    PIEH X pins σ tg R (.ref s.heap.objs.size) { s with heap := s.heap.push o, toks := tk } := by
  refine ⟨s.heap.objs.size, [s.heap.objs.size], tn, J, H, rfl, I.kept (t' := tk) fun b ob e => Heap.get?_push_of_some _ e, T, st, fun b hb => ?_, q⟩
  have e : b = s.heap.objs.size := by simpa using hb
  subst e
  exact I.fpOk (Nat.le_refl _) (I.hok.fresh (Nat.le_refl _))
theorem pi_listH {l : Expr} {tl : TE} (hl : PE X l tl) : PIH X tg l (iList X.K tl) := by
  refine ⟨fun pins s σ H R I h => ?_⟩
  refine thn (hl.run pins s σ H _ I h) fun v s1 ⟨x, H1, I1, r1, a, e, ⟨xs, hq⟩, q⟩ => ?_
  subst e
  cases r1
  obtain ⟨its, rv, p, hz⟩ := I1.list hq
  refine wpAny_pyIter_list p.isList ?_
  exact pi_oneH (tk := s1.toks) I1 (turn_listH a _) ⟨_, Heap.get?_push_size _ rfl, rfl, rfl⟩ q
theorem pi_keysH {e : Expr} {td : TE} (he : PE X e td) : PIH X tg e (iKeys td) := by
  refine ⟨fun pins s σ H R I h => ?_⟩
  refine thn (he.run pins s σ H _ I h) fun u s1 ⟨x, H1, I1, rx, d, o, ex, q⟩ => ?_
  subst ex
  obtain rfl : u = Value.ref d := rx
  rcases q with ⟨kvs, hd, q⟩ | ⟨kvs, hd, q⟩
  · obtain ⟨hs, hgd, hx, es, ep, vs, hdt, hsz, kv, hm⟩ := I1.frzK hd
    refine iter_keys hs hgd hx hdt (pi_oneH (tk := s1.toks) I1 (turn_keysH _ hdt) ⟨_, Heap.get?_push_size _ rfl, rfl, ?_⟩ q)
    rw [hsz] <;> rfl
  · obtain ⟨hs, hgd, hx, es, ep, hdt, hsz, ent⟩ := I1.frzT hd
    refine iter_keys hs hgd hx hdt (pi_oneH (tk := s1.toks) I1 (turn_keysTH _ hdt) ⟨_, Heap.get?_push_size _ rfl, rfl, ?_⟩ q)
    rw [hsz] <;> rfl
end
end M


namespace M
open PySem PySem.Spec PyProof.Rows L2 HotX L2H
/-! ### a dict comprehension with tuple keys while an exception is handled -/
section
variable {X : Cx} {pins : List (Addr × Obj)} {σ : L2.St} {H : Hp} {s : Shared}
theorem d_dictSetT {E : Value → Shared → Prop} {D b : Addr} {kvs : List (List Key × V)} {k : List Key} {v : V} {r : Value} {Q : Unit → Shared → Prop} (hu : X.A.units + 1 < cLine) (I : Inv X pins σ H s) (hD : H D = some (.dT kvs)) (hz : kvs.length < sizeLine)
    (eb : H b = some (.tup (k.map kV))) (rv : RelV v r) (h : ∀ s', Inv X pins σ (upd H D (.dT (putK kvs k v))) s' → Q () s') : wpAny (model X.prog X.w) X.A (dictSet D (.ref b) r) Q E s := by
  obtain ⟨z, hd, xs, rel, dd⟩ := dt_of I.hok hD
  have hz' : xs.length ≤ sizeLine := by rw [← Paired.length rel]; exact z
  have hl : (putK kvs k v).length ≤ sizeLine := by have := length_putK kvs k v; omega
  refine wpAny_dictSet_heap (hsz := hz') (show X.A.units < cLine by omega) (key_of I.hok eb) dd fun h' dd' hs => h _ ?_
  obtain ⟨q, es, ep, hq, h2, h3, h4, _, h5⟩ := dd'
  refine d_write I (by rw [hD]; exact True.intro) hs ⟨q, hq⟩ ⟨hl, hd, _, (rel.put k eb rv).keeps fun c ys ec => ?_, q, es, ep, hq, h2, h3, h4, h5⟩
  rw [upd_ne (ne_of ec hD (fun z => nomatch z))]
  exact ec
end
/-- the block's context, the handled exception pinned -/
abbrev blkP (X : Cx) (s : Shared) (H : Hp) (scope : Scope) (cenv : Env) (fp : List Addr) (p : Addr × Obj) : Cx := { X.blk s H scope cenv fp with pn := [p] }
def tDcT (wi : TI) (g : TG) (tt : TT) (tk tv : TE) (vs : List Nat) : TE := fun σ H Q => wi σ H fun J H1 => ∀ D, H1 D = none → ∃ W : Nat → Nat → Hp → Prop, (∃ m, W 0 m (upd H1 D (.dT []))) ∧ ∀ i m H, W i m H →
  (J.stop i H ∧ Q (.ref D) H) ∨ (J.go i H ∧ ∃ Nx : Hp → Prop, (∀ H', Nx H' → ∃ m', m' < m ∧ W (i + 1) m' H') ∧ ∀ x H', J.yld i H x H' → g x (wipe σ vs) H' fun σ2 H2 => wipe σ2 vs = wipe σ vs ∧ tt σ2 H2 fun b H3 =>
    if b = true then tk σ2 H3 fun y H4 => tv σ2 H4 fun z H5 => ∃ kvs k c, y = .ref c ∧ H5 c = some (.tup (k.map kV)) ∧ H5 D = some (.dT kvs) ∧ kvs.length < sizeLine ∧ Nx (upd H5 D (.dT (putK kvs k z))) else Nx H3)
section
variable {X : Cx}
theorem dc_coreH {pins : List (Addr × Obj)} {s : Shared} {σ : L2.St} {H : Hp} {Q : VK} {kx vx tg iter : Expr} {ifs : List Expr} {scope : Scope} {own : List (Str × Nat)} {pos pos' : Pos} {wi : TI} {g : TG} {tt : TT} {tk tv : TE} {use : Option (Value → Sem Unit)} {Qf : Value → Shared → Prop}
    (hu : X.A.units + 64 < cLine) (hc : HotC X) (hN : X.N.Nodup) (I : Inv X pins σ H s) (hi : PIH X tg iter wi) (ok : BlkOk X.N X.env.scope scope own)
    (hg : ∀ (s : Shared) (H : Hp) (C : Addr) (cl : List (Str × Addr)) (fp : List Addr) (p : Addr × Obj), PG (blkP X s H scope (compEnvC scope cl C X.env) fp p) tg g) (ht : ∀ (s : Shared) (H : Hp) (C : Addr) (cl : List (Str × Addr)) (fp : List Addr) (p : Addr × Obj), PTs (blkP X s H scope (compEnvC scope cl C X.env) fp p) ifs tt)
    (hk : ∀ (s : Shared) (H : Hp) (C : Addr) (cl : List (Str × Addr)) (fp : List Addr) (p : Addr × Obj), PE (blkP X s H scope (compEnvC scope cl C X.env) fp p) kx tk)
    (he : ∀ (s : Shared) (H : Hp) (C : Addr) (cl : List (Str × Addr)) (fp : List Addr) (p : Addr × Obj), PE (blkP X s H scope (compEnvC scope cl C X.env) fp p) vx tv) (hs : ∀ x, foldedSetIterable iter X.env x = pure x)
    (h : tDcT wi g tt tk tv (own.map (·.2)) σ H Q)
    (hRR : ∀ D C s' m H', Inv X pins σ H' s' → Q (.ref D) H' → s'.heap.Ns C m → FpOk X pins H' C → compPost (model X.prog X.w) X.A X.xe use Qf (.ref D) C (.ok .next) s') :
    wpAny (model X.prog X.w) X.A (comprehension (.DictComp kx vx [⟨tg, iter, ifs, 0⟩] scope pos) scope X.env pos' newDict false (eval iter X.env) use) Qf X.xe s := by
  have hfree : ∀ y ∈ scope.names, y.2 = .free → ∃ c, X.env.cells.lookup y.1 = some c := fun y hy e => by
    rcases ok.free y hy e with k | k
    · exact I.ok.has _ (.inl k)
    · exact I.ok.has _ (.inr k)
  refine wpAny_comprehension_free (use := use) rfl hs (closure_ok hfree) ok.kind (fun y hy e => by rw [ok.uniq y hy, e])
    (thn (hi.run pins s σ H _ I h) fun xv s1 hx => thn hx fun itv s2 h2 => ?_)
  obtain ⟨it, fp, tn, J, H2, e, I2, T, st2, f2, q⟩ := h2
  subst e
  refine wpAny_newObj_type (newEnv_comp ?_)
  generalize hD : s2.heap.objs.size = D
  have hDn : H2 D = none := I2.hok.fresh (Nat.le_of_eq hD)
  obtain ⟨W, ⟨m0, w0⟩, turn⟩ := q D hDn
  generalize hs3 : ({ s2 with heap := s2.heap.push { cls := .type "dict", data := .dict #[] } } : Shared) = s3
  have I3 : Inv X pins σ (upd H2 D (.dT [])) s3 := by
    rw [← hs3]
    refine I2.laid (t' := s2.toks) (fun b o e => Heap.get?_push_of_some _ e) (Nat.le_of_eq hD) ?_
    rw [← hD]
    exact dt_empty s2.heap I2.big
  have h3 : s3.heap = s2.heap.push { cls := .type "dict", data := .dict #[] } := by rw [← hs3]
  have sz : ∀ b ∈ fp, b < s2.heap.objs.size := fun b hb => by
    obtain ⟨o, e, _⟩ := T.obj _ _ st2 b hb
    exact Heap.lt_size e
  have f3 : ∀ b ∈ fp, FpOk X pins (upd H2 D (.dT [])) b ∧ b < s3.heap.objs.size := fun b hb => by
    have hlt := sz b hb
    refine ⟨⟨?_, (f2 b hb).2⟩, by rw [h3, Heap.size_push]; exact Nat.lt_succ_of_lt hlt⟩
    rw [upd_ne (by rw [← hD]; exact Nat.ne_of_lt hlt)]
    exact (f2 b hb).1
  have st3 : tn 0 s3.heap := T.keep _ _ _ st2 fun b _ o e => by rw [h3]; exact Heap.get?_push_of_some _ e
  have I4' := block_start I3 ok hN f3
  -- the handled exception
  obtain ⟨p, hot1, hp⟩ := hc
  have P3 := I3.pin p (List.mem_append_left _ hp)
  have pg := hg s3 (upd H2 D (.dT [])) s3.heap.objs.size (cellsFrom (s3.heap.objs.size + 1) scope.names (cloFrom X.env.cells scope.names [])) fp p
  have pt := ht s3 (upd H2 D (.dT [])) s3.heap.objs.size (cellsFrom (s3.heap.objs.size + 1) scope.names (cloFrom X.env.cells scope.names [])) fp p
  have pk := hk s3 (upd H2 D (.dT [])) s3.heap.objs.size (cellsFrom (s3.heap.objs.size + 1) scope.names (cloFrom X.env.cells scope.names [])) fp p
  have pe := he s3 (upd H2 D (.dT [])) s3.heap.objs.size (cellsFrom (s3.heap.objs.size + 1) scope.names (cloFrom X.env.cells scope.names [])) fp p
  show codeAny _ _ (.compStart (.DictComp kx vx [⟨tg, iter, ifs, 0⟩] scope pos) 0 (.ref it) (.ref D) (compEnvC scope (cellsFrom (s3.heap.objs.size + 1) scope.names (cloFrom X.env.cells scope.names [])) s3.heap.objs.size X.env)) (compPost (model X.prog X.w) X.A X.xe use Qf (.ref D) s3.heap.objs.size) { s3 with heap := pushCells (s3.heap.push { cls := .type "dict", data := .dict #[] }) scope.names }
  have nfp : ∀ b ∈ fp, (upd H2 D (.dT [])) b = none := fun b hb => (f3 b hb).1.1
  generalize hce : compEnvC scope (cellsFrom (s3.heap.objs.size + 1) scope.names (cloFrom X.env.cells scope.names [])) s3.heap.objs.size X.env = ce at I4' pg pt pk pe ⊢
  have cL : ce.locals = s3.heap.objs.size := by subst hce; rfl
  generalize hH3 : upd H2 D (.dT []) = H3 at I3 I4' pg pt pk pe w0 nfp f3 P3
  generalize hs4 : ({ s3 with heap := pushCells (s3.heap.push { cls := .type "dict", data := .dict #[] }) scope.names } : Shared) = s4 at I4' ⊢
  have k4 : ∀ b o, s3.heap.get? b = some o → s4.heap.get? b = some o := fun b o e => by rw [← hs4]; exact pushCells_keeps _ _ _ _ (Heap.get?_push_of_some _ e)
  have st4 : tn 0 s4.heap := T.keep _ _ _ st3 fun b _ o e => k4 b o e
  have I4 : Inv (blkP X s3 H3 scope ce fp p) [] (wipe σ (own.map (·.2))) H3 s4 := by
    refine ⟨⟨I4'.ok.mod, I4'.ok.kind, I4'.ok.glob, I4'.ok.blt, I4'.ok.above, I4'.ok.inj, I4'.ok.has, I4'.ok.cab, I4'.ok.hd, I4'.ok.frames, I4'.ok.stk, I4'.ok.exf, I4'.ok.bs, I4'.ok.bsz, I4'.ok.noex, I4'.ok.exfs, I4'.ok.funs, I4'.ok.frf⟩, I4'.os, I4'.bare, I4'.base, I4'.loc, I4'.cell, I4'.free, I4'.freeC, fun q hq => ?_, I4'.hok, I4'.len⟩
    have eq : q = p := by simpa using (show q ∈ [p] ++ ([] : List (Addr × Obj)) from hq)
    rw [eq]
    refine ⟨k4 _ _ P3.1, P3.2.1, ?_, fun hm => (List.mem_cons.mp (I3.stkSub p.1 hm)).elim P3.2.2.1 P3.2.2.2.1, P3.2.2.2.2⟩
    show p.1 ≠ ce.locals
    rw [cL]
    exact Nat.ne_of_lt (Heap.lt_size P3.1)
  have hcB : HotC (blkP X s3 H3 scope ce fp p) := ⟨p, hot1, List.mem_singleton.mpr rfl⟩
  have npf : p.1 ∉ fp := fun hm => (f2 p.1 hm).2.2.2.2.2 p (List.mem_append_left _ hp) rfl
  have stat : ∀ {σ' : L2.St} {H' : Hp} {s' : Shared}, Inv (blkP X s3 H3 scope ce fp p) [] σ' H' s' → (∀ b ∈ fp, H' b = none) → ∀ b ∈ fp, FpOk (blkP X s3 H3 scope ce fp p) [] H' b := fun {σ' H' s'} I' hn b hb =>
    ⟨hn b hb, (I'.ok.exf b hb).1, I'.ok.exfs b hb, .inl hb, fun x c e => (I'.ok.exf b hb).2 x c e, fun q hq z => by
      have eq : q = p := by simpa using (show q ∈ [p] ++ ([] : List (Addr × Obj)) from hq)
      rw [eq] at z
      exact npf (z ▸ hb)⟩
  have loop : codeAny (model X.prog X.w) X.A (.compLoop (.DictComp kx vx [⟨tg, iter, ifs, 0⟩] scope pos) 0 (.ref it) (.ref D) ce) (compPost (model X.prog X.w) X.A X.xe use Qf (.ref D) s3.heap.objs.size) s4 := by
    refine compLoop_anyD (fun n s' => ∃ i H', Inv (blkP X s3 H3 scope ce fp p) [] (wipe σ (own.map (·.2))) H' s' ∧ tn i s'.heap ∧ (∀ b ∈ fp, H' b = none) ∧ W i n H') ?_ m0 ⟨0, H3, I4, st4, nfp, w0⟩
    rintro n s5 ⟨i, H5, I5, st5, n5, w5⟩
    rcases turn i n H5 w5 with ⟨stop, qq⟩ | ⟨go, Nx, hNx, step⟩
    · have td := T.done (blkP X s3 H3 scope ce fp p) rfl rfl rfl hcB i [] s5 _ H5 (fun _ _ => False) I5 (stat I5 n5) st5 stop
      refine thnF td fun r s6 ⟨hr, I6⟩ => ?_
      subst hr
      have I7 : Inv X pins σ H5 s6 := I3.call' (ch := fp) I6.os I6.base I6.hok I6.bare fun b hb => ⟨(f3 b hb).1.2.2.2.1, (f3 b hb).1.2.1, (f3 b hb).1.2.2.2.2.1, (f3 b hb).1.2.2.2.2.2⟩
      have nC : H5 s3.heap.objs.size = none := by
        have z : H5 ce.locals = none := I6.free
        rw [cL] at z
        exact z
      obtain ⟨m, hn, _⟩ := I6.loc
      have hn : s6.heap.Ns ce.locals m := hn
      rw [cL] at hn
      exact hRR D s3.heap.objs.size s6 m H5 I7 qq hn (I3.fpOk (Nat.le_refl _) nC)
    · have ti := T.item (blkP X s3 H3 scope ce fp p) rfl rfl rfl hcB i [] s5 _ H5 (fun _ _ => False) I5 (stat I5 n5) st5 go
      refine thnF ti fun r s6 ⟨u, hr, h6⟩ => ?_
      subst hr
      refine thnF h6 fun _ s7 ⟨x, H7, I7, r7, y7, st7, n7⟩ => ?_
      have I7' := I7.pinned (stat I7 n7) (T.obj _ _ st7)
      refine thnF (pg.run _ s7 _ H7 x u _ I7' r7 (step x H7 y7)) fun _ s8 ⟨σ8, H8, I8, hw8, q8⟩ => ?_
      refine thnF (pt.run _ s8 σ8 H8 _ I8 q8) fun b s9 ⟨H9, I9, q9⟩ => ?_
      have fin : ∀ {s' : Shared} {H' : Hp}, Inv (blkP X s3 H3 scope ce fp p) ([] ++ pinsAt fp s7.heap) σ8 H' s' → Nx H' → ∃ m, m < n ∧ ∃ i H', Inv (blkP X s3 H3 scope ce fp p) [] (wipe σ (own.map (·.2))) H' s' ∧ tn i s'.heap ∧ (∀ b ∈ fp, H' b = none) ∧ W i m H' := fun {s' H'} I' nx => by
        obtain ⟨m', hm, w'⟩ := hNx H' nx
        have pin' : ∀ b ∈ fp, ∀ o, s7.heap.get? b = some o → s'.heap.get? b = some o ∧ H' b = none := fun b hb o e =>
          let z := I'.pin (b, o) (List.mem_append_right _ (List.mem_append_right _ (mem_pinsAt hb e)))
          ⟨z.1, z.2.1⟩
        have hl : (wipe σ (own.map (·.2))).length = σ8.length := by rw [← hw8, wipe_length]
        refine ⟨m', hm, i + 1, H', (I'.unpinned (pins := [])).weak hl (fun j v e => ?_), T.keep _ _ _ st7 fun b hb o e => (pin' b hb o e).1, fun b hb => ?_, w'⟩
        · rw [← hw8] at e
          exact (wipe_some e).1
        · obtain ⟨o, e, _⟩ := T.obj _ _ st7 b hb
          exact (pin' b hb o e).2
      cases b with
      | false =>
        simp only [Bool.false_eq_true, if_false] at q9 ⊢
        exact fin I9 q9
      | true =>
        simp only [if_true] at q9 ⊢
        refine thnF (pk.run _ s9 σ8 H9 _ I9 q9) fun z s10 ⟨yk, H10, I10, r10, q10⟩ => ?_
        refine thnF (pe.run _ s10 σ8 H10 _ I10 q10) fun z2 s11 ⟨yv, H11, I11, r11, kvs, k, c, ek, ec, hD11, hz11, nx⟩ => ?_
        subst ek
        obtain rfl : z = Value.ref c := r10
        exact d_dictSetT (X := blkP X s3 H3 scope ce fp p) (show X.A.units + 1 < cLine by omega) I11 hD11 hz11 ec r11 fun s12 I12 => fin I12 nx
  exact codeAny_compStart_dict loop (T.self X.A 0 _ _ _ st4 loop)
/-- as a value -/
theorem pe_dcH {kx vx tg iter : Expr} {ifs : List Expr} {scope : Scope} {own : List (Str × Nat)} {pos : Pos} {wi : TI} {g : TG} {tt : TT} {tk tv : TE} (hu : X.A.units + 64 < cLine) (hc : HotC X) (hN : X.N.Nodup) (hi : PIH X tg iter wi) (ok : BlkOk X.N X.env.scope scope own)
    (hg : ∀ (s : Shared) (H : Hp) (C : Addr) (cl : List (Str × Addr)) (fp : List Addr) (p : Addr × Obj), PG (blkP X s H scope (compEnvC scope cl C X.env) fp p) tg g) (ht : ∀ (s : Shared) (H : Hp) (C : Addr) (cl : List (Str × Addr)) (fp : List Addr) (p : Addr × Obj), PTs (blkP X s H scope (compEnvC scope cl C X.env) fp p) ifs tt)
    (hk : ∀ (s : Shared) (H : Hp) (C : Addr) (cl : List (Str × Addr)) (fp : List Addr) (p : Addr × Obj), PE (blkP X s H scope (compEnvC scope cl C X.env) fp p) kx tk)
    (he : ∀ (s : Shared) (H : Hp) (C : Addr) (cl : List (Str × Addr)) (fp : List Addr) (p : Addr × Obj), PE (blkP X s H scope (compEnvC scope cl C X.env) fp p) vx tv) (hs : ∀ x, foldedSetIterable iter X.env x = pure x := by intro _; rfl) :
    PE X (.DictComp kx vx [⟨tg, iter, ifs, 0⟩] scope pos) (tDcT wi g tt tk tv (own.map (·.2))) := by
  refine ⟨fun pins s σ H Q I h => ?_⟩
  rw [arm_eval_DictComp]
  refine dc_coreH hu hc hN I hi ok hg ht hk he hs h fun D C s' m H' I' q hn f => ⟨m, hn, fun h'' sb => ?_⟩
  obtain ⟨f0, f1, f2, f3, f4, f5⟩ := f
  exact ⟨.ref D, H', I'.turned (t' := s'.toks) (fun b o hb e => (sb.2 b hb).trans e) f0 f1 f3 f4 f5, rfl, q⟩
end
end M


namespace M
open PySem PySem.Spec PySem.Calls PySem.W PyProof.Rows PyProof.V L2 HotX L2H
/-! ### a dict's keys collected, whether or not an exception is handled -/
def Clm (A : Around) (x1 : Addr) (h : Heap) : Prop := A.handled = none ∨ HotAt A x1 h
theorem Clm.keep {A : Around} {x1 : Addr} {h h' : Heap} (c : Clm A x1 h) (k : ∀ o, h.get? x1 = some o → h'.get? x1 = some o) : Clm A x1 h' := by
  rcases c with c | ⟨hh, o, vs, e, r⟩
  · exact .inl c
  · exact .inr ⟨hh, o, vs, k o e, r⟩
section
variable {prog : Program} {w : World} {A : Around} {E : Value → Shared → Prop} {s : Shared} {es : Array DictEntry} {ep : Nat} {o : Obj}
theorem key_end_any {it d x1 : Addr} {i n : Nat} {Q : Option Value → Shared → Prop} (c : Clm A x1 s.heap) (hne : x1 ≠ it) (hit : s.heap.IsKeyIter it d i n ep) (hod : s.heap.get? d = some o) (hdd : o.data = .dict es ep)
    (hsz : es.size = n) (hge : n ≤ i) (hQ : ∀ h', (∀ b o, b ≠ it → s.heap.get? b = some o → h'.get? b = some o) → Q none { s with heap := h' }) : wpAny (model prog w) A (pyNext (.ref it)) Q E s := by
  rcases c with c | c
  · exact next_key_end c hit hod hdd hsz hge fun h' eb => hQ h' fun b ob hb e => eb b ob hb e
  · exact key_end_hot c hne hit hod hdd hsz hge hQ
theorem walks_rawC (I d x1 : Addr) (hne : d ≠ I) (hnx : x1 ≠ I) (hd : o.data = .dict es ep) :
    Walks prog w A I [I, d, x1] [I] es.size (fun i v => ∃ en : DictEntry, es[i]? = some en ∧ v = en.key) (fun i h => h.IsKeyIter I d i es.size ep ∧ h.get? d = some o ∧ Clm A x1 h) where
  sub := fun b hb => by simp at hb; simp [hb]
  frame := fun _ _ _ st hk => ⟨st.1.at fun ob e => hk I (by simp) ob e, hk d (by simp) o st.2.1, st.2.2.keep fun o e => hk x1 (by simp) o e⟩
  item := fun i s Q E hi st hQ => by
    have hx : es[i]? = some es[i] := Array.getElem?_eq_getElem hi
    refine next_key_item st.1 st.2.1 hd rfl hx fun h' hit' sb => ?_
    exact hQ _ h' s.toks ⟨_, hx, rfl⟩ ⟨hit', (sb.2 d hne).trans st.2.1, st.2.2.keep fun o e => (sb.2 x1 hnx).trans e⟩ fun b ob hb e => (sb.2 b (fun z => hb (by simp [z]))).trans e
  done := fun s Q E st hQ => key_end_any st.2.2 hnx st.1 st.2.1 hd rfl (Nat.le_refl _) fun h' he' => hQ h' s.toks fun b ob hb e => he' b ob (fun z => hb (by simp [z])) e
  self := fun _ _ _ _ st hQ => wpAny_pyIter_keyiter st.1 hQ
theorem extend_raw {R : Result → Shared → Prop} {d x1 : Addr} (lo : (d == sysModules) = false) (hx : o.ExactDict) (hd : o.data = .dict es ep) (hc : Clm A x1 s.heap) (hok : s.heap.get? d = some o) (hx1 : x1 < s.heap.objs.size) (S : Addr) (hSd : S ≠ d) (hSx : S ≠ x1) (res : Value) (c₀ : Nat) (hS : s.heap.get? S = some { cls := .type "list", data := .seq #[] c₀ })
    (hR : ∀ h' tk acc' c', (∀ b o, b ≠ S → s.heap.get? b = some o → h'.get? b = some o) → h'.get? S = some { cls := .type "list", dict := none, data := .seq acc' c', slots := #[] } → ItemsOf (fun i v => ∃ en : DictEntry, es[i]? = some en ∧ v = en.key) acc' es.size → R (.ok (.ret res)) { s with heap := h', toks := tk }) (hn : es.size ≤ sizeLine) :
    wpAny (model prog w) A.in1 (Builtin.List.listExtendWith (.ref S) (.ref d) res)
      (fun fin s' => match fin with | .done f => R (.ok f) s' | .again c' => c'.quiet = true ∧ codeAny (model prog w) A c' R s') (fun e s' => R (.error e) s') s := by
  have hSI : S ≠ s.heap.objs.size := Nat.ne_of_lt (Heap.lt_size hS)
  have hSf : S ∉ [s.heap.objs.size, d, x1] := by simp only [List.mem_cons, List.not_mem_nil, or_false, not_or]; exact ⟨hSI, hSd, hSx⟩
  have W : Walks prog w A.in1 s.heap.objs.size [s.heap.objs.size, d, x1] [s.heap.objs.size] es.size (fun i v => ∃ en : DictEntry, es[i]? = some en ∧ v = en.key) (fun i h => h.IsKeyIter s.heap.objs.size d i es.size ep ∧ h.get? d = some o ∧ Clm A.in1 x1 h) :=
    walks_rawC _ d x1 (Nat.ne_of_lt (Heap.lt_size hok)) (Nat.ne_of_lt hx1) hd
  unfold Builtin.List.listExtendWith
  refine wpAny_bind (wpAny_typeOf (T := "dict") ⟨o, hok, hx.1⟩ ?_)
  have h1 : Builtin.List.listSameRef (.ref S) (.ref d) = false := by simp [Builtin.List.listSameRef, hSd]
  have h2 : (Value.type "dict" == Value.type "list") = false := by decide
  have h3 : (Value.type "dict" == Value.type "tuple") = false := by decide
  simp only [h1, h2, h3, Bool.or_false, Bool.false_eq_true, if_false]
  refine wpAny_bind (iter_keys lo hok hx hd ?_)
  generalize hoI : ({ cls := .type "dict_keyiterator", data := .fields _ } : Obj) = oI
  have st : (s.heap.push oI).IsKeyIter s.heap.objs.size d 0 es.size ep ∧ (s.heap.push oI).get? d = some o ∧ Clm A.in1 x1 (s.heap.push oI) := by
    subst hoI
    exact ⟨⟨_, Heap.get?_push_size _ rfl, rfl, rfl⟩, Heap.get?_push_of_some _ hok, Clm.keep (A := A.in1) hc fun o e => Heap.get?_push_of_some _ e⟩
  clear hoI
  have key : ∀ (h : Heap) (c₁ tk : Nat), (h.IsKeyIter s.heap.objs.size d 0 es.size ep ∧ h.get? d = some o ∧ Clm A.in1 x1 h) → (∀ b o, b ≠ S → s.heap.get? b = some o → h.get? b = some o) →
      h.get? S = some { cls := .type "list", data := .seq #[] c₁ } → codeAny (model prog w) A (.builtin "list.extend.loop" ⟨[.ref S, .ref s.heap.objs.size, res], []⟩) R { s with heap := h, toks := tk } := by
    intro h c₁ tk hst hk hS₁
    refine codeAny_extend_loopS W.toS hn S hSf res es.size 0 _ #[] c₁ rfl (Nat.zero_le _) hst hS₁ (ItemsOf.nil _) fun s' acc' c' hm hS' hacc => ?_
    rw [Moved.eq_with hm]
    refine hR s'.heap s'.toks acc' c' (fun b o hb e => hm.heap b o (fun hmem => ?_) (hk b o hb e)) hS' hacc
    rcases List.mem_cons.mp hmem with e' | hmem
    · exact hb e'
    · exact absurd (Heap.lt_size e) (by rw [List.mem_singleton.mp hmem]; exact Nat.lt_irrefl _)
  have hS₁ := Heap.get?_push_of_some oI hS
  refine wpAny_bind (wpAny_holding (PySem.W.kdl_hint_dict ⟨o, Heap.get?_push_of_some _ hok, hx.1⟩ ?_))
  refine wpAny_ite_split (fun _ => ?_) (fun _ => wpAny_pure ⟨plainId_quiet PySem.F.plain_extend_loop _, key _ c₀ _ st (fun b o _ e => Heap.get?_push_of_some _ e) hS₁⟩)
  refine wpAny_bind (wpAny_rule ?_)
  refine wpAny_bind ?_
  show wpAny _ _ (updateSeq S (·.push .none) >>= fun _ => updateSeq S (·.pop)) _ _ _
  refine wpAny_bind (wpAny_updateSeq hS₁ rfl ?_)
  have hS₂ := Heap.get?_update_self (Obj.mapSeq (·.push Value.none)) hS₁ rfl
  refine wpAny_updateSeq (hz := by seq_fits) hS₂ rfl ?_
  have hS₃ := Heap.get?_update_self (Obj.mapSeq (·.pop)) hS₂ rfl
  refine wpAny_pure ⟨plainId_quiet PySem.F.plain_extend_loop _, key _ _ _ ?_ (fun b o hb e => ?_) hS₃⟩
  · refine W.frame 0 _ _ st fun b hb o e => ?_
    have hbS : b ≠ S := fun h => hSf (h ▸ hb)
    exact (Heap.get?_update_other _ _ (Ne.symm hbS)).trans ((Heap.get?_update_other _ _ (Ne.symm hbS)).trans e)
  · exact (Heap.get?_update_other _ _ (Ne.symm hb)).trans ((Heap.get?_update_other _ _ (Ne.symm hb)).trans (Heap.get?_push_of_some _ e))
theorem collect_raw {R : List Value → Shared → Prop} {d x1 : Addr} (lo : (d == sysModules) = false) (hx : o.ExactDict) (hd : o.data = .dict es ep) (hc : Clm A x1 s.heap) (hok : s.heap.get? d = some o) (hx1 : x1 < s.heap.objs.size) (hn : es.size ≤ sizeLine)
    (h : ∀ (h' : Heap) (tk : Nat) (acc : Array Value), (∀ b o, s.heap.get? b = some o → h'.get? b = some o) → ItemsOf (fun i v => ∃ en : DictEntry, es[i]? = some en ∧ v = en.key) acc es.size → R acc.toList { s with heap := h', toks := tk }) :
    wpAny (model prog w) A (collect (.ref d)) R E s := by
  have hlt := Heap.lt_size hok
  unfold collect
  refine wpAny_bind (wpAny_runValue (codeAny_builtin entry_proto_collect' ?_))
  rw [Around.under_plainId PySem.F.plain_proto_collect _]
  show wpAny _ A.in1 (newList [] >>= fun l => again (.builtin "list.__iadd__" ⟨[l, .ref d], []⟩)) _ _ s
  refine wpAny_bind (wpAny_newObj_type ?_)
  refine wpAny_pure ⟨plainId_quiet PySem.F.plain_list_iadd _, codeAny_builtin entry_list_iadd' ?_⟩
  rw [Around.under_plainId PySem.F.plain_list_iadd _]
  have hS₁ : (s.heap.push { cls := .type "list", data := .seq ([] : List Value).toArray }).get? s.heap.objs.size = some { cls := .type "list", data := .seq #[] } := Heap.get?_push_size _ rfl
  show wpAny _ A.in1 (Builtin.List.listExtendWith (.ref s.heap.objs.size) (.ref d) (.ref s.heap.objs.size)) _ _ _
  have key := extend_raw (prog := prog) (w := w) (A := A) (s := { s with heap := s.heap.push { cls := .type "list", data := .seq ([] : List Value).toArray } })
    (R := fun (q : Result) (s' : Shared) => ∃ (h' : Heap) (tk : Nat) (acc' : Array Value) (c' : Nat), q = .ok (.ret (.ref s.heap.objs.size)) ∧ s' = { s with heap := h', toks := tk } ∧
      (∀ b o, s.heap.get? b = some o → h'.get? b = some o) ∧ h'.get? s.heap.objs.size = some { cls := .type "list", dict := none, data := .seq acc' c', slots := #[] } ∧ ItemsOf (fun i v => ∃ en : DictEntry, es[i]? = some en ∧ v = en.key) acc' es.size)
    lo hx hd (hc.keep fun o e => Heap.get?_push_of_some _ e) (Heap.get?_push_of_some _ hok) (by show x1 < (s.heap.push _).objs.size; rw [Heap.size_push]; exact Nat.lt_succ_of_lt hx1) s.heap.objs.size (Nat.ne_of_gt hlt) (Nat.ne_of_gt hx1) (.ref s.heap.objs.size) 0 hS₁
    (fun h' tk acc' c' hk hS' hacc => ⟨h', tk, acc', c', rfl, rfl, fun b o e => hk b o (Nat.ne_of_lt (Heap.lt_size e)) (Heap.get?_push_of_some _ e), hS', hacc⟩) hn
  refine wpAny_mono key (fun fin s' x => ?_) fun e s' x => ?_
  · cases fin with
    | done f =>
      obtain ⟨h', tk, acc', c', e, rfl, hk, hS', hacc⟩ := x
      cases e
      show wpAny _ A (load s.heap.objs.size >>= _) _ _ _
      refine wpAny_bind (wpAny_load hS' ?_)
      exact wpAny_pure (h h' tk acc' hk hacc)
    | again c₁ =>
      refine ⟨x.1, codeAny_mono x.2 fun q s₂ y => ?_⟩
      obtain ⟨h', tk, acc', c', rfl, rfl, hk, hS', hacc⟩ := y
      show wpAny _ A (load s.heap.objs.size >>= _) _ _ _
      refine wpAny_bind (wpAny_load hS' ?_)
      exact wpAny_pure (h h' tk acc' hk hacc)
  · obtain ⟨_, _, _, _, e', _⟩ := x
    cases e'
end
end M


namespace M
open PySem PySem.Spec PySem.Calls PySem.W PyProof.Rows PyProof.V L2 HotX L2H
/-! ### a strict total order, ranks in a list -/
structure Sto {α : Type} (lt : α → α → Bool) : Prop where
  irr : ∀ a, lt a a = false
  tr : ∀ a b c, lt a b = true → lt b c = true → lt a c = true
  tot : ∀ a b, lt a b = false → lt b a = false → a = b
section
variable {α : Type} [DecidableEq α] {lt : α → α → Bool}
def rankIn (lt : α → α → Bool) (ks : List α) (k : α) : Int := (ks.countP fun x => lt x k : Nat)
theorem Sto.le_of (o : Sto lt) {a b : α} (h : lt a b = false) : ∀ x, lt x b = true → lt x a = true := fun x hx => by
  cases e : lt b a with
  | true => exact o.tr _ _ _ hx e
  | false => rw [o.tot _ _ h e]; exact hx
theorem rank_lt (o : Sto lt) {ks : List α} {a b : α} (ha : a ∈ ks) : lt a b = decide (rankIn lt ks a < rankIn lt ks b) := by
  cases e : lt a b with
  | true =>
    symm
    rw [decide_eq_true_iff]
    unfold rankIn
    have p := List.perm_cons_erase ha
    rw [p.countP_eq, p.countP_eq, List.countP_cons, List.countP_cons, o.irr, e]
    have := List.countP_mono_left (p := fun x => lt x a) (q := fun x => lt x b) (l := ks.erase a) fun x _ hx => o.tr _ _ _ hx e
    simp only [Bool.false_eq_true, if_false, if_true]
    omega
  | false =>
    symm
    rw [decide_eq_false_iff_not]
    unfold rankIn
    have := List.countP_mono_left (p := fun x => lt x b) (q := fun x => lt x a) (l := ks) fun x _ hx => o.le_of e x hx
    omega
def leO (lt : α → α → Bool) (a b : α) : Bool := !lt b a
theorem Sto.le_trans (o : Sto lt) (a b c : α) (h1 : leO lt a b = true) (h2 : leO lt b c = true) : leO lt a c = true := by
  unfold leO at *
  simp only [Bool.not_eq_true'] at *
  cases e : lt c a with
  | false => rfl
  | true =>
    cases e2 : lt a b with
    | true => rw [o.tr _ _ _ e e2] at h2; cases h2
    | false => rw [o.tot _ _ h1 e2] at h2; rw [e] at h2; cases h2
theorem Sto.le_total (o : Sto lt) (a b : α) : (leO lt a b || leO lt b a) = true := by
  unfold leO
  cases e : lt b a with
  | false => rfl
  | true =>
    cases e2 : lt a b with
    | false => rfl
    | true => have := o.tr _ _ _ e e2; rw [o.irr] at this; cases this
theorem Sto.le_anti (o : Sto lt) {a b : α} (h1 : leO lt a b = true) (h2 : leO lt b a = true) : a = b := by
  unfold leO at *
  simp only [Bool.not_eq_true'] at *
  exact o.tot _ _ h2 h1
def sortO (lt : α → α → Bool) (l : List α) : List α := l.mergeSort (leO lt)
theorem sortO_perm (l : List α) : (sortO lt l).Perm l := List.mergeSort_perm l _
theorem Sto.sorted (o : Sto lt) (l : List α) : (sortO lt l).Pairwise fun a b => leO lt a b = true := List.pairwise_mergeSort o.le_trans o.le_total l
theorem Sto.unique (o : Sto lt) : ∀ {l m : List α}, l.Perm m → (l.Pairwise fun a b => leO lt a b = true) → (m.Pairwise fun a b => leO lt a b = true) → l = m
  | [], m, p, _, _ => (List.nil_perm.mp p).symm
  | x :: l, [], p, _, _ => absurd p.length_eq (by simp)
  | x :: l, y :: m, p, h1, h2 => by
    have hx := List.pairwise_cons.mp h1
    have hy := List.pairwise_cons.mp h2
    have e : x = y := by
      have m1 : x ∈ y :: m := p.mem_iff.mp List.mem_cons_self
      have m2 : y ∈ x :: l := p.mem_iff.mpr List.mem_cons_self
      rcases List.mem_cons.mp m1 with e | m1
      · exact e
      · rcases List.mem_cons.mp m2 with e | m2
        · exact e.symm
        · exact o.le_anti (hx.1 y m2) (hy.1 x m1)
    subst e
    rw [o.unique (List.perm_cons x |>.mp p) hx.2 hy.2]
theorem Sto.eq (o : Sto lt) {ys ks : List α} (p : ys.Perm ks) (s : ys.Pairwise fun a b => leO lt a b = true) : ys = sortO lt ks := o.unique (p.trans (sortO_perm ks).symm) s (o.sorted ks)
theorem sortO_mem {l : List α} {x : α} : x ∈ sortO lt l ↔ x ∈ l := (sortO_perm l).mem_iff
theorem sortO_len (l : List α) : (sortO lt l).length = l.length := (sortO_perm l).length_eq
theorem sortO_nodup {l : List α} (h : l.Nodup) : (sortO lt l).Nodup := (sortO_perm l).nodup_iff.mpr h
end
/-! ### pairs of names -/
def ltS (a b : Str) : Bool := decide (a.cps.toList < b.cps.toList)
theorem sto_S : Sto ltS := by
  refine ⟨fun a => ?_, fun a b c h1 h2 => ?_, fun a b h1 h2 => ?_⟩
  · exact decide_eq_false (List.lt_irrefl _)
  · exact decide_eq_true (List.lt_trans (of_decide_eq_true h1) (of_decide_eq_true h2))
  · have e1 := of_decide_eq_false h1
    have e2 := of_decide_eq_false h2
    rw [List.not_lt] at e1 e2
    have e := List.le_antisymm e2 e1
    obtain ⟨x⟩ := a
    obtain ⟨y⟩ := b
    have : x = y := Array.toList_inj.mp e
    rw [this]
def ltP (a b : Str × Str) : Bool := if a.1 = b.1 then ltS a.2 b.2 else ltS a.1 b.1
theorem sto_P : Sto ltP := by
  refine ⟨fun a => ?_, fun a b c h1 h2 => ?_, fun a b h1 h2 => ?_⟩
  · unfold ltP
    rw [if_pos rfl]
    exact sto_S.irr _
  · unfold ltP at *
    by_cases e1 : a.1 = b.1
    · rw [if_pos e1] at h1
      by_cases e2 : b.1 = c.1
      · rw [if_pos e2] at h2
        rw [if_pos (e1.trans e2)]
        exact sto_S.tr _ _ _ h1 h2
      · rw [if_neg e2] at h2
        rw [e1, if_neg e2]
        exact h2
    · rw [if_neg e1] at h1
      by_cases e2 : b.1 = c.1
      · rw [← e2, if_neg e1]
        exact h1
      · rw [if_neg e2] at h2
        have e3 := sto_S.tr _ _ _ h1 h2
        rw [if_neg (fun z => by rw [z, sto_S.irr] at e3; cases e3)]
        exact e3
  · unfold ltP at *
    by_cases e1 : a.1 = b.1
    · rw [if_pos e1] at h1
      rw [if_pos e1.symm] at h2
      exact Prod.ext e1 (sto_S.tot _ _ h1 h2)
    · rw [if_neg e1] at h1
      rw [if_neg (Ne.symm e1)] at h2
      exact absurd (sto_S.tot _ _ h1 h2) e1
abbrev sortP2 (l : List (Str × Str)) : List (Str × Str) := sortO ltP l
/-! ### the sort's questions -/
def itemAt (h : Heap) (v : Value) (i : Nat) : Str := match v with
  | .ref a => (match h.get? a with
    | some o => (match o.data with
      | .seq xs _ => (match xs[i]? with
        | some (.str x _) => x
        | _ => ⟨#[]⟩)
      | _ => ⟨#[]⟩)
    | none => ⟨#[]⟩)
  | _ => ⟨#[]⟩
def keyP (h : Heap) (v : Value) : Str × Str := (itemAt h v 0, itemAt h v 1)
def Pr2 (h : Heap) (v : Value) (k : Str × Str) : Prop := ∃ (a : Addr) (t u : Tok), v = .ref a ∧ IsTup h a #[.str k.1 t, .str k.2 u]
theorem Pr2.key {h : Heap} {v : Value} {k : Str × Str} (x : Pr2 h v k) : keyP h v = k := by
  obtain ⟨a, t, u, rfl, o, ho, hc, n, hd⟩ := x
  simp only [keyP, itemAt, ho, hd]
  rfl
theorem Pr2.keep {h h' : Heap} {v : Value} {k : Str × Str} (x : Pr2 h v k) (e : ∀ b o, h.get? b = some o → o.cls = .type "tuple" → h'.get? b = some o) : Pr2 h' v k := by
  obtain ⟨a, t, u, rfl, o, ho, hc, r⟩ := x
  exact ⟨a, t, u, rfl, o, e _ _ ho hc, hc, r⟩
section
variable {prog : Program} {w : World} {A : Around} {E : Value → Shared → Prop} {s : Shared}
theorem firsts2 {h : Heap} : ∀ vs : List Value, (∀ v ∈ vs, ∃ k, Pr2 h v k) → ∃ fs : List Value, KatTups h vs fs ∧ fs.length = vs.length ∧ ∀ f ∈ fs, ∃ x t, f = Value.str x t
  | [], _ => ⟨[], KatTups.nil, rfl, fun f hf => by simp at hf⟩
  | v :: vs, x => by
    obtain ⟨fs, k, hl, hi⟩ := firsts2 vs fun u hu => x u (List.mem_cons_of_mem _ hu)
    obtain ⟨y, a, t, u, rfl, o, ho, hc, n, hd⟩ := x v (List.mem_cons_self ..)
    refine ⟨.str y.1 t :: fs, KatTups.cons ho hc hd rfl k, by rw [List.length_cons, List.length_cons, hl], fun f hf => ?_⟩
    rcases List.mem_cons.mp hf with rfl | hf
    · exact ⟨_, _, rfl⟩
    · exact hi f hf
theorem kind_p2 {vs : List Value} {ρ : Str × Str → Int} (h2 : 2 ≤ vs.length) (x : ∀ v ∈ vs, ∃ k, Pr2 s.heap v k)
    (hρ : ∀ v ∈ vs, ∀ u ∈ vs, ltP (keyP s.heap v) (keyP s.heap u) = decide (ρ (keyP s.heap v) < ρ (keyP s.heap u))) (Q : SortKind → Shared → Prop)
    (h : ∀ κ, TS.Cmp prog w A s κ (pairsOf vs) (fun v => ρ (keyP s.heap v)) → Q κ s) : wpAny (model prog w) A (keyKind' vs.toArray) Q E s := by
  obtain ⟨fs, k, hl, hi⟩ := firsts2 vs x
  refine kat_kind (T := Value.type "str") k (by omega) (fun f hf => ?_) rfl (h _ ?_)
  · obtain ⟨y, t, rfl⟩ := hi f hf
    exact fun A Q E s k q => wpAny_typeOf (typeIs_str s y t) q
  · have hb : (Value.type "str" != Value.type "tuple") = true := by first | rfl | decide | simp
    rw [hb]
    intro p q hp hq Q' E' hQ
    rw [pairsOf_toList] at hp hq
    have mp := (mem_zip_self hp).2
    have mq := (mem_zip_self hq).2
    obtain ⟨y, py⟩ := x _ mp
    obtain ⟨z, pz⟩ := x _ mq
    have hr := hρ _ mp _ mq
    have hQ' : Q' (ltP y z) s := by
      rw [py.key, pz.key] at hr
      rw [hr]
      have hQ2 : Q' (decide (ρ (keyP s.heap p.1) < ρ (keyP s.heap q.1))) s := hQ
      rw [py.key, pz.key] at hQ2
      exact hQ2
    obtain ⟨a, t, u, e1, o, ho, hc, n, hd⟩ := py
    obtain ⟨a', t', u', e2, o', ho', hc', n', hd'⟩ := pz
    rw [e1, e2]
    refine kat_lt ho hd ho' hd' ?_
    show KatLex prog w A true false Q' [(Value.str y.1 t, Value.str z.1 t'), (Value.str y.2 u, Value.str z.2 u')] 0 s
    unfold ltP at hQ'
    refine kat_cons (wpAny_eqBool_str ?_)
    by_cases e : y.1 = z.1
    · rw [if_pos e] at hQ'
      rw [decide_eq_true e]
      refine kat_yes (kat_cons (wpAny_eqBool_str ?_))
      by_cases e3 : y.2 = z.2
      · rw [decide_eq_true e3]
        refine kat_yes (kat_nil ?_)
        rw [e3, sto_S.irr] at hQ'
        exact hQ'
      · rw [decide_eq_false e3]
        exact kat_no (oneLt_any_str hQ')
    · rw [if_neg e] at hQ'
      rw [decide_eq_false e]
      exact kat_no (oneLt_any_str hQ')
end
end M


namespace M
open PySem PySem.Spec PySem.Calls PySem.W PyProof.Rows PyProof.V L2 HotX L2H
/-! ### sorted(d), the keys pairs of names -/
/-- nothing is handled, or what is handled stands pinned -/
def Cm (X : Cx) : Prop := X.calm = true ∨ HotC X
section
variable {X : Cx} {pins : List (Addr × Obj)} {σ : L2.St} {H : Hp} {s : Shared}
theorem Cm.at (c : Cm X) (I : Inv X pins σ H s) {d : Addr} (hd : d < s.heap.objs.size) : ∃ x1, x1 < s.heap.objs.size ∧ Clm X.A x1 s.heap := by
  rcases c with c | c
  · exact ⟨d, hd, .inl (I.ok.hd c)⟩
  · obtain ⟨x1, hot⟩ := c.at I
    obtain ⟨hh, o, vs, e, r⟩ := hot
    exact ⟨x1, Heap.lt_size e, .inr ⟨hh, o, vs, e, r⟩⟩
end
def PrA (H : Hp) (k : Str × Str) (b : Addr) : Prop := H b = some (.tup [.str k.1, .str k.2])
def rSortT : List V → Hp → VK → Prop := fun vs H Q => ∃ (a : Addr) (kvs : List (List L2.Key × V)) (ks : List (Str × Str)), vs = [.ref a] ∧ Rd H a (.dT kvs) ∧ kvs.map (·.1) = ks.map kT ∧ ks.length < 64 ∧
  ∀ l H' bs, H l = none → Keep [] H H' → H' l = some (.lst (bs.map V.ref)) → Paired (PrA H') (sortP2 ks) bs → Q (.ref l) H'
theorem paired_zip {α β : Type} {R : α → β → Prop} : ∀ (zs : List (β × α)), (∀ z ∈ zs, R z.2 z.1) → Paired R (zs.map (·.2)) (zs.map (·.1))
  | [], _ => Paired.nil
  | z :: zs, h => Paired.cons (h z List.mem_cons_self) (paired_zip zs fun y hy => h y (List.mem_cons_of_mem _ hy))
theorem cb_sortT {X : Cx} (hc : Cm X) : CallR X (.builtin "sorted") rSortT := by
  intro pins s σ H xs us Q I r h
  obtain ⟨d, kvs, ks, rfl, hd, hks, h64, q⟩ := h
  obtain ⟨u, rfl, rx⟩ := r.one
  cases rx
  obtain ⟨z, hs, xs', pr, o, es, ep, ho, hx, hdt, he, hn⟩ := (show ObjOk X.prog X.w H s.heap d (.dT kvs) from hd.ok I.hok)
  have l1 : es.size = xs'.length := size_of_entries he
  have l2 : kvs.length = xs'.length := Paired.length pr
  have l3 : kvs.length = ks.length := by have e := congrArg List.length hks; rw [List.length_map, List.length_map] at e; exact e
  obtain ⟨x1, hx1, cl⟩ := hc.at I (Heap.lt_size ho)
  refine call_function_entry kind_sorted plain_sorted entry_sorted (args_sorted1 _) ?_
  unfold Builtin.«sorted»
  refine wpAny_bind (m := checkCount "sorted" 1 1 _) (wpAny_pure ?_)
  refine wpAny_bind (collect_raw (A := X.A.in1) hs hx hdt (show Clm X.A.in1 x1 s.heap from cl) ho hx1 (by rw [sizeLine_eq]; omega) fun h' tk acc hk it => ?_)
  -- the collected keys
  generalize eas : xs'.map (fun x => x.2.1) = as
  have las : as.length = ks.length := by rw [← eas, List.length_map]; omega
  have ea : acc.toList = as.map Value.ref := by
    have hl : acc.toList.length = xs'.length := by rw [Array.length_toList, it.1]; exact l1
    rw [← eas, List.map_map]
    apply List.ext_getElem?
    intro j
    rw [List.getElem?_map]
    cases hj : acc.toList[j]? with
    | none =>
      have h1 := List.getElem?_eq_none_iff.mp hj
      rw [List.getElem?_eq_none (by omega)]
      all_goals rfl
    | some v =>
      obtain ⟨en, hen, hv⟩ := it.2 j v (by rw [← Array.getElem?_toList]; exact hj)
      have qe := entry_at he j
      rw [hen] at qe
      cases hb : xs'[j]? with
      | none =>
        rw [hb] at qe
        exact nomatch (show some en = none from qe)
      | some b =>
        rw [hb] at qe
        have e2 : en = entryOfKey (tupleKind (mixKind X.prog X.w)) b := Option.some.inj qe
        rw [hv, e2]
        all_goals rfl
  have kp : ∀ (j : Nat) (b : Addr), as[j]? = some b → ∃ k, ks[j]? = some k ∧ PrA H k b := by
    intro j b hj
    rw [← eas, List.getElem?_map] at hj
    cases hb : xs'[j]? with
    | none => rw [hb] at hj; cases hj
    | some x =>
      rw [hb] at hj
      have exb : x.2.1 = b := Option.some.inj hj
      obtain ⟨p, hp, r1, r2, r3⟩ := DX.pget pr hb
      have e3 : (kvs.map (·.1))[j]? = some p.1 := by rw [List.getElem?_map, hp]; rfl
      rw [hks, List.getElem?_map] at e3
      cases hkj : ks[j]? with
      | none => rw [hkj] at e3; cases e3
      | some k =>
        rw [hkj] at e3
        have ek : kT k = p.1 := Option.some.inj e3
        refine ⟨k, rfl, ?_⟩
        rw [← ek, exb] at r2
        exact r2
  rw [ea]
  refine wpAny_bind (wpAny_newList ?_ (by rw [List.length_map, las, sizeLine_eq]; omega))
  have hob : (h'.push { cls := .type "list", data := .seq (as.map Value.ref).toArray }).get? h'.objs.size = some (seqObj "list" (as.map Value.ref).toArray 0) := Heap.get?_push_size _ rfl
  have kb : ∀ b o, s.heap.get? b = some o → (h'.push { cls := .type "list", data := .seq (as.map Value.ref).toArray }).get? b = some o := fun b o e => Heap.get?_push_of_some _ (hk b o e)
  have ne0 : ∀ b o, h'.get? b = some o → b ≠ h'.objs.size := fun b o e => Nat.ne_of_lt (Heap.lt_size e)
  show wpAny _ _ _ _ _ { s with heap := h'.push { cls := .type "list", data := .seq (as.map Value.ref).toArray }, toks := tk }
  generalize hh2 : h'.push { cls := .type "list", data := .seq (as.map Value.ref).toArray } = h2 at hob kb ⊢
  have pin : ∀ (j : Nat) (b : Addr), as[j]? = some b → ∃ k, ks[j]? = some k ∧ Pr2 (TS.midHeap h2 h'.objs.size (as.map Value.ref)) (.ref b) k := by
    intro j b hj
    obtain ⟨k, hkj, hb⟩ := kp j b hj
    obtain ⟨_, its, rv, ot, hot, hct, nt, hdt⟩ := (show ObjOk X.prog X.w H s.heap b (.tup [.str k.1, .str k.2]) from I.hok b _ hb)
    obtain ⟨t, u, rfl⟩ : ∃ t u, its = [Value.str k.1 t, Value.str k.2 u] := by
      cases rv with
      | cons r1 r2 =>
        cases r2 with
        | cons r2 r3 =>
          cases r3
          obtain ⟨t, rfl⟩ := r1
          obtain ⟨u, rfl⟩ := r2
          exact ⟨t, u, rfl⟩
    exact ⟨k, hkj, b, t, u, rfl, ot, TS.midHeap_old (ne0 _ _ (hk _ _ hot)) (kb _ _ hot), hct, nt, hdt⟩
  have tx : ∀ (j : Nat) (b : Addr) (k : Str × Str), as[j]? = some b → ks[j]? = some k → keyP (TS.midHeap h2 h'.objs.size (as.map Value.ref)) (.ref b) = k := by
    intro j b k hj he
    obtain ⟨k', he', hp'⟩ := pin j b hj
    have ee : k' = k := Option.some.inj (he'.symm.trans he)
    rw [← ee]
    exact hp'.key
  have at_ : ∀ v ∈ as.map Value.ref, ∃ (j : Nat) (b : Addr) (k : Str × Str), v = .ref b ∧ as[j]? = some b ∧ ks[j]? = some k := by
    intro v hv'
    obtain ⟨b, hb, rfl⟩ := List.mem_map.mp hv'
    obtain ⟨j, hj⟩ := List.mem_iff_getElem?.mp hb
    obtain ⟨k, he, _⟩ := kp j b hj
    exact ⟨j, b, k, rfl, hj, he⟩
  refine wpAny_bind (wpAny_holding (wpAny_call_entry PyProof.Rows.slot_list_sort ⟨_, hob, rfl⟩ PyProof.Rows.entry_list_sort
    (SK.plain_sort (s := { s with heap := h2, toks := tk }) (r := fun v => rankIn ltP ks (keyP (TS.midHeap h2 h'.objs.size (as.map Value.ref)) v)) hob (by rw [List.length_map]; omega) (fun h2' Qk hQk => ?_) fun ps out o1 o2 o3 => ⟨.none, rfl, ?_⟩) (PyProof.Rows.args_list_sort _)))
  · refine kind_p2 (s := { s with heap := TS.midHeap h2 h'.objs.size (as.map Value.ref), toks := tk }) (ρ := rankIn ltP ks) h2' (fun v hv' => ?_) (fun v hv' u hu' => ?_) Qk hQk
    · obtain ⟨j, b, k, rfl, hj, he⟩ := at_ v hv'
      obtain ⟨k', _, hp'⟩ := pin j b hj
      exact ⟨k', hp'⟩
    · obtain ⟨j, b, k, rfl, hj, he⟩ := at_ v hv'
      obtain ⟨j2, b2, k2, rfl, hj2, he2⟩ := at_ u hu'
      show ltP (keyP (TS.midHeap h2 h'.objs.size (as.map Value.ref)) (.ref b)) (keyP (TS.midHeap h2 h'.objs.size (as.map Value.ref)) (.ref b2)) = _
      rw [tx j b k hj he, tx j2 b2 k2 hj2 he2]
      exact rank_lt sto_P (List.mem_of_getElem? he)
  · obtain ⟨zs, pz, ez⟩ := perm_lift (fun z : Addr × (Str × Str) => (Value.ref z.1, Value.ref z.1)) o2 (as.zip ks) (DX.zip_self Value.ref as ks las)
    have idx : ∀ z ∈ zs, ∃ j : Nat, as[j]? = some z.1 ∧ ks[j]? = some z.2 := by
      intro z' hz'
      obtain ⟨j, hj⟩ := List.mem_iff_getElem?.mp (pz.mem_iff.mp hz')
      exact ⟨j, List.getElem?_zip_eq_some.mp hj⟩
    have hout : out.toList = zs.map fun z => Value.ref z.1 := by
      rw [o1, ← ez, List.map_map]
      all_goals rfl
    have hperm : (zs.map (·.2)).Perm ks := by
      have e := pz.map (·.2)
      have m2 : (as.zip ks).map (·.2) = ks := List.map_snd_zip (by rw [las]; exact Nat.le_refl _)
      rw [m2] at e
      exact e
    have hsort : (zs.map (·.2)).Pairwise (fun e f => leO ltP e f = true) := by
      rw [← ez, List.pairwise_map] at o3
      rw [List.pairwise_map]
      refine List.Pairwise.imp_of_mem (fun {x y} hx hy h => ?_) o3
      obtain ⟨j, j1, j2⟩ := idx x hx
      obtain ⟨i, i1, i2⟩ := idx y hy
      have h' : rankIn ltP ks (keyP (TS.midHeap h2 h'.objs.size (as.map Value.ref)) (.ref x.1)) ≤ rankIn ltP ks (keyP (TS.midHeap h2 h'.objs.size (as.map Value.ref)) (.ref y.1)) := h
      rw [tx j _ _ j1 j2, tx i _ _ i1 i2] at h'
      unfold leO
      rw [rank_lt sto_P (List.mem_of_getElem? i2), Bool.not_eq_true', decide_eq_false_iff_not]
      omega
    have hfin : zs.map (·.2) = sortP2 ks := sto_P.eq hperm hsort
    have kF : ∀ b o, b ≠ h'.objs.size → h2.get? b = some o → (sortedHeap h2 h'.objs.size (as.map Value.ref) out).get? b = some o := fun b o hb e => (PyProof.Rows.sortedHeap_old hb (Heap.lt_size e)).trans e
    have kS : ∀ b o, s.heap.get? b = some o → (sortedHeap h2 h'.objs.size (as.map Value.ref) out).get? b = some o := fun b o e => kF b o (ne0 _ _ (hk b o e)) (kb b o e)
    obtain ⟨eF, heF⟩ := PyProof.Rows.sortedHeap_at (vs := as.map Value.ref) (out := out) hob
    have I1 : Inv X pins σ H { s with heap := sortedHeap h2 h'.objs.size (as.map Value.ref) out, toks := tk } := I.kept (t' := tk) kS
    have I0 : Inv X pins σ H { s with heap := h', toks := tk } := I.kept (t' := tk) hk
    have hn0 : H h'.objs.size = none := I0.hok.fresh (Nat.le_refl _)
    have hlen : ((zs.map (·.1)).map V.ref).length ≤ sizeLine := by
      have e := hperm.length_eq
      rw [List.length_map] at e
      rw [List.length_map, List.length_map, sizeLine_eq]
      omega
    have rv : Vals ((zs.map (·.1)).map V.ref) out.toList := by
      rw [hout, List.map_map]
      exact vals_maps (fun z : Addr × (Str × Str) => V.ref z.1) (fun z => Value.ref z.1) zs fun _ _ => rfl
    have I2 : Inv X pins σ (upd H h'.objs.size (.lst ((zs.map (·.1)).map V.ref))) { s with heap := sortedHeap h2 h'.objs.size (as.map Value.ref) out, toks := tk } :=
      I1.take (h' := sortedHeap h2 h'.objs.size (as.map Value.ref) out) (t' := tk) (fun b ob _ e => e) (I0.fpOk (Nat.le_refl _) hn0) ⟨hlen, out.toList, eF, rv, heF⟩
    refine wpAny_pure ⟨_, rfl, .ref h'.objs.size, _, I2, rfl, q _ _ (zs.map (·.1)) hn0 (Keep.new hn0) upd_same ?_⟩
    rw [← hfin]
    refine paired_zip zs fun z' hz' => ?_
    obtain ⟨j, j1, j2⟩ := idx z' hz'
    obtain ⟨k, hk1, hk2⟩ := kp j _ j1
    have : k = z'.2 := Option.some.inj (hk1.symm.trans j2)
    rw [← this]
    show upd H _ _ z'.1 = _
    rw [upd_ne (fun z => by unfold PrA at hk2; rw [z, hn0] at hk2; cases hk2)]
    exact hk2
end M


namespace M
open PySem PySem.Spec PyProof.Rows L2
/-! ### del xs[n:] -/
theorem cut_from : ∀ (l : List Value) (p : Nat → Bool) (j a : Nat), (∀ k, j ≤ k → k < j + l.length → p k = decide (a ≤ k)) → ((l.zipIdx j).filterMap fun x => if p x.2 = true then none else some x.1) = l.take (a - j)
  | [], p, j, a, h => by simp
  | x :: l, p, j, a, h => by
    rw [List.zipIdx_cons, List.filterMap_cons]
    have ih := cut_from l p (j + 1) a fun k h1 h2 => h k (by omega) (by rw [List.length_cons]; omega)
    have e := h j (Nat.le_refl _) (by rw [List.length_cons]; omega)
    simp only [e]
    by_cases hj : a ≤ j
    · simp only [hj, decide_true, if_true]
      rw [ih]
      have e1 : a - (j + 1) = 0 := by omega
      have e2 : a - j = 0 := by omega
      rw [e1, e2]
      simp
    · simp only [hj, decide_false, Bool.false_eq_true, if_false]
      rw [ih]
      have e2 : a - j = (a - (j + 1)) + 1 := by omega
      rw [e2, List.take_succ_cons]
theorem bounds_from {a n : Nat} (h : a ≤ n) : sliceBounds (some (a : Int)) none none n = ((a : Int), (n : Int), 1) := by
  simp only [sliceBounds, Option.getD_none]
  have h1 : ¬ ((a : Int) < 0) := by omega
  simp only [h1, if_false, show (1 : Int) > 0 by decide, if_true]
  congr 1
  omega
section
variable {prog : Program} {w : World} {A : Around} {E : Value → Shared → Prop} {s : Shared}
theorem delItem_from {l sl : Addr} {its : List Value} {n a : Nat} {vl vu : Value} {Q : Unit → Shared → Prop}
    (e : s.heap.get? l = some { cls := .type "list", data := .seq its.toArray n }) (hs : s.heap.IsSliceOf sl vl vu .none) (pl : IsPart vl (some (a : Int))) (pu : IsPart vu none) (hc : a ≤ its.length)
    (hsz : its.length ≤ sizeLine) (h : ∀ F : Array Value → Array Value, F its.toArray = (its.take a).toArray → Q () { s with heap := s.heap.update l (Obj.mapSeq F) }) :
    wpAny (model prog w) A (delItem (.ref l) (.ref sl)) Q E s := by
  have hl : s.heap.IsList l its.toArray := PySem.IsL.isList e
  obtain ⟨os, hos, hcs, hds⟩ := id hs
  have hTs : s.TypeIs (.ref sl) "slice" := ⟨os, hos, hcs⟩
  have hstep : ¬ ((rawPart none == rawInt 0) = true) := Bool.false_ne_true
  refine wpAny_delItem_slot hl.typeIs (by decide) PySem.F.slot_list_delitem (wpAny_call_entry PySem.F.slot_list_delitem hl.typeIs PySem.F.entry_list_delitem ?_ (PySem.F.args_list_delitem_2 _ _))
  show wpAny _ _ (Builtin.List.listSubscript? (.ref sl) >>= _) _ _ s
  refine wpAny_bind ?_
  unfold Builtin.List.listSubscript?
  refine wpAny_bind (wpAny_specialOf hTs slice_no_index ?_)
  simp only [Option.isNone_none, if_true]
  refine wpAny_pure ?_
  show wpAny _ _ (typeOf (.ref sl) >>= _) _ _ s
  refine wpAny_bind (wpAny_typeOf hTs ?_)
  first
    | rw [if_neg (by decide)]
    | refine PySem.W.KFB.if_not (by decide) ?_
  rw [listSliceParts_eq]
  refine wpAny_bind (wpAny_bind (wpAny_field hos hds (x := .none) rfl (wpAny_bind (wpAny_listPart .none ?_))))
  rw [if_neg hstep]
  refine wpAny_bind (wpAny_field hos hds (x := vl) rfl (wpAny_bind (wpAny_listPart pl ?_)))
  refine wpAny_bind (wpAny_field hos hds (x := vu) rfl (wpAny_bind (wpAny_listPart pu (wpAny_pure ?_))))
  unfold Builtin.List.listItems
  refine wpAny_bind (wpAny_bind (wpAny_seqItems e rfl (wpAny_pure ?_)))
  have hb : sliceBounds (some (a : Int)) none none its.toArray.size = ((a : Int), (its.length : Int), 1) := by
    rw [List.size_toArray]
    exact bounds_from hc
  refine wpAny_bind (wpAny_of_eq ((sliceIndices_raw (some (a : Int)) none none its.toArray.size (by simp)).trans (congrArg (pure : Int × Int × Int → Sem (Int × Int × Int)) hb)) ?_)
  refine wpAny_bind (wpAny_rule ?_)
  have key : ∀ (p : Nat → Bool), (∀ k : Nat, p k = (if (1 : Int) > 0 then decide ((a : Int) ≤ (k : Int)) && decide ((k : Int) < (its.length : Int)) && (((k : Int) - (a : Int)) % 1 == 0) else false)) →
      ((its.toArray.toList.zipIdx).filterMap fun x => if p x.2 = true then none else some x.1).toArray = (its.take a).toArray := fun p hp => by
    have q := cut_from its p 0 a fun k h1 h2 => by
      rw [hp k]
      have : (k : Int) < (its.length : Int) := by omega
      simp [this]
    rw [Nat.sub_zero] at q
    exact congrArg List.toArray q
  show wpAny _ _ (updateSeq l _ >>= _) _ _ s
  have key2 := key _ fun k => rfl
  refine wpAny_bind (wpAny_updateSeq (hz := by rw [List.size_toArray]; exact hsz) (_hz' := ?_) e rfl ?_)
  · refine wpAny_bind (wpAny_letGo ?_)
    exact wpAny_pure ⟨.none, rfl, h _ key2⟩
  · refine Nat.le_trans (Nat.le_of_eq (congrArg Array.size key2)) ?_
    rw [List.size_toArray, List.length_take]
    omega
end
/-- del o[e:] of a list -/
def tDelF (to te : TE) : TS := fun D σ H => to σ H fun x H1 => te σ H1 fun y H2 => ∃ i, y = .int i ∧ ∃ (l : Addr) (xs : List V) (a : Nat), some i = some (a : Int) ∧ x = .ref l ∧ H2 l = some (.lst xs) ∧ a ≤ xs.length ∧ D.nx σ (upd H2 l (.lst (xs.take a)))
theorem ps_delF {X : Cx} {o e : Expr} {to te : TE} {p2 tpos pos : Pos} (ho : PE X o to) (he : PE X e te) : PS X (.Delete [.Subscript o (.Slice (some e) none none p2) tpos] pos) (tDelF to te) := by
  refine ⟨fun pins s σ H D I h => ?_⟩
  refine wpAny_Delete (wpAny_deleteEach_cons (wpAny_delete_Subscript (thn (ho.run pins s σ H _ I h) fun u s1 ⟨x, H1, I1, rx, q1⟩ => ?_)))
  have hl : PO X (some e) (tPart te) := po_some he
  refine wpAny_Slice (thn (hl.run pins s1 σ H1 (fun o H2 => ∃ (l : Addr) (xs : List V) (a : Nat), o = some (a : Int) ∧ x = .ref l ∧ H2 l = some (.lst xs) ∧ a ≤ xs.length ∧ D.nx σ (upd H2 l (.lst (xs.take a)))) I1 q1) fun vl s2 ⟨l, H2, I2, pl, q2⟩ => ?_)
  rw [evalPart_none]
  refine wpAny_pure (wpAny_pure ?_)
  obtain ⟨l, xs, a, rfl, rfl, hH, hle, q⟩ := q2
  cases (show u = Value.ref l from rx)
  have I4 : Inv X pins σ H2 { s2 with heap := s2.heap.push { cls := .type "slice", data := .fields #[vl, .none, .none] } } := I2.kept (t' := s2.toks) fun b ob q => Heap.get?_push_of_some _ q
  obtain ⟨z, its, n, r, hln, e⟩ := I4.lstM hH
  refine delItem_from e (Heap.IsSliceOf.new ..) pl .none (by omega) (by omega) fun F hF => ?_
  refine wpAny_deleteEach_nil ⟨σ, _, ?_, q⟩
  refine I4.lset (its' := its.take a) (t' := s2.toks) hH e hF (r.take a) ?_
  rw [List.length_take]
  omega
/-! ### dicts with pair keys: del d[k], d.pop(k) -/
section
variable {X : Cx} {pins : List (Addr × Obj)} {σ : L2.St} {H : Hp} {s : Shared} {a b : Addr} {kvs : List (List Key × V)} {k : List Key} {A : Around} {E : Value → Shared → Prop}
theorem dt_drop {xs : List (List Key × Addr × Value)} {h' : Heap} {tk : Nat} (I : Inv X pins σ H s) (e : H a = some (.dT kvs)) (z : kvs.length ≤ sizeLine) (hd : (a == sysModules) = false) (rel : KT H kvs xs) (dd' : h'.DictOfH (tupleKind (mixKind X.prog X.w)) a (withoutH xs k)) (hs : Heap.SameBut a s.heap h') :
    Inv X pins σ (upd H a (.dT (dropK kvs k))) { s with heap := h', toks := tk } := by
  obtain ⟨o, es, ep, hq, h2, h3, h4, _, h5⟩ := dd'
  exact d_write I (by rw [e]; exact True.intro) hs ⟨o, hq⟩ ⟨Nat.le_trans (dropK_le kvs k) z, hd, _, (DX.KT_drop k rel).keeps (fun c ys ec => (by rw [upd_ne (ne_of ec e (fun z => nomatch z))]; exact ec)), o, es, ep, hq, h2, h3, h4, h5⟩
theorem kt_some {xs : List (List Key × Addr × Value)} {v : V} (rel : KT H kvs xs) (l : valV kvs k = some v) : ∃ p, atKey xs k = some p ∧ RelV v p.2 := by
  have r := rel.val k
  rw [l] at r
  cases e : atKey xs k with
  | none => rw [e] at r; exact r.elim
  | some p => rw [e] at r; exact ⟨p, rfl, r⟩
theorem d_delT {v : V} {Q : Unit → Shared → Prop} (hu : A.units + 1 < cLine) (I : Inv X pins σ H s) (e : H a = some (.dT kvs)) (eb : H b = some (.tup (k.map kV))) (l : valV kvs k = some v) (h : ∀ s', Inv X pins σ (upd H a (.dT (dropK kvs k))) s' → Q () s') :
    wpAny (model X.prog X.w) A (delItem (.ref a) (.ref b)) Q E s := by
  obtain ⟨z, hd, xs, rel, dd⟩ := dt_of I.hok e
  have hz : xs.length ≤ sizeLine := by rw [← Paired.length rel]; exact z
  obtain ⟨p, hp, rp⟩ := kt_some rel l
  exact wpAny_delItem_heap (hsz := hz) (tupleKind_room_in1 hu) (key_of I.hok eb) hd dd hp fun h' dd' hs => h _ (dt_drop I e z hd rel dd' hs)
theorem d_popT {v : V} {Q : Value → Shared → Prop} (hu : A.units + 1 < cLine) (I : Inv X pins σ H s) (e : H a = some (.dT kvs)) (eb : H b = some (.tup (k.map kV))) (l : valV kvs k = some v) (h : ∀ w' s', Inv X pins σ (upd H a (.dT (dropK kvs k))) s' → RelV v w' → Q w' s') :
    wpAny (model X.prog X.w) A (call (.builtin "dict.pop") [.ref a, .ref b]) Q E s := by
  obtain ⟨z, hd, xs, rel, dd⟩ := dt_of I.hok e
  have hz : xs.length ≤ sizeLine := by rw [← Paired.length rel]; exact z
  obtain ⟨p, hp, rp⟩ := kt_some rel l
  exact call_pop_heap (hsz := hz) (more := []) (.inl rfl) (PySem.F.args_dict_pop_2 _ _) (tupleKind_room_in1 hu) (key_of I.hok eb) hd dd hp fun h' dd' hs => h _ _ (dt_drop I e z hd rel dd' hs) rp
end
def rDelT (x y : V) (H : Hp) (R : Hp → Prop) : Prop := ∃ a b kvs k v, x = .ref a ∧ y = .ref b ∧ H a = some (.dT kvs) ∧ H b = some (.tup (k.map kV)) ∧ valV kvs k = some v ∧ R (upd H a (.dT (dropK kvs k)))
def tDelT (to ti : TE) : TS := fun D σ H => to σ H fun x H1 => ti σ H1 fun y H2 => rDelT x y H2 (D.nx σ)
section
variable {X : Cx} {o i : Expr} {to ti : TE} {tpos pos : Pos}
theorem ps_delT (hu : X.A.units + 64 < cLine) (ho : PE X o to) (hi : PE X i ti) : PS X (.Delete [.Subscript o i tpos] pos) (tDelT to ti) := by
  refine ⟨fun pins s σ H D I h => ?_⟩
  refine wpAny_Delete (wpAny_deleteEach_cons (wpAny_delete_Subscript (thn (ho.run pins s σ H _ I h) fun u s1 ⟨x, H1, I1, rx, q1⟩ => thn (hi.run pins s1 σ H1 _ I1 q1) fun iv s2 ⟨y, H2, I2, ry, q2⟩ => ?_)))
  obtain ⟨a, b, kvs, k, v, rfl, rfl, ha, hb, l, q⟩ := q2
  obtain rfl : u = Value.ref a := rx
  obtain rfl : iv = Value.ref b := ry
  exact d_delT (by omega) I2 ha hb l fun s3 I3 => wpAny_deleteEach_nil ⟨σ, _, I3, q⟩
def rPopT1 : V → List V → Hp → VK → Prop := fun x ys H Q => ∃ a b kvs k v, x = .ref a ∧ ys = [.ref b] ∧ H a = some (.dT kvs) ∧ H b = some (.tup (k.map kV)) ∧ valV kvs k = some v ∧ Q v (upd H a (.dT (dropK kvs k)))
theorem mt_popT1 (hu : X.A.units + 64 < cLine) : MtR X "dict.pop" rPopT1 := by
  intro pins s σ H x xs v us Q I rx rxs h
  obtain ⟨a, b, kvs, k, d, rfl, rfl, ha, hb, l, q⟩ := h
  cases rx
  obtain ⟨u1, rfl, r1⟩ := rxs.one
  cases r1
  exact d_popT (by omega) I ha hb l fun w' s' I' rw' => ⟨d, _, I', rw', q⟩
def rGet2 : V → List V → Hp → VK → Prop := fun x ys H Q => ∃ a y z o, x = .ref a ∧ ys = [y, z] ∧ DGet H a y o ∧ Q (o.getD z) H
theorem mt_get2 (hu : X.A.units + 64 < cLine) : MtR X "dict.get" rGet2 := by
  intro pins s σ H x xs v us Q I rx rxs h
  obtain ⟨a, y, z, o, rfl, rfl, g, q⟩ := h
  cases rx
  obtain ⟨u1, u2, rfl, r1, r2⟩ := vals2 rxs
  exact d_get2 (by omega) I g r1 r2 fun w' s' I' rw' => ⟨_, _, I', rw', q⟩
end
end M


namespace M
open PySem PySem.Spec PyProof.Rows L2 L2H
/-! ### methods that may raise; methods and classes called while an exception is handled -/
structure MetN (P : Program) (w : World) (K : PySem.W.Frag) (mg : Str → Option Value) (base : Heap) (k : Nat) (C : Addr) (m : Str) (sp : Sp) : Prop where
  ex : ∃ (f : Addr) (fd : FuncData) (ps : List Str), Cls K C ∧ Meth K C m f ∧ FnOk P w K mg base (L2N.CX P w) k f fd ps sp ∧ Binds K fd ps []
structure MetH (P : Program) (w : World) (K : PySem.W.Frag) (mg : Str → Option Value) (base : Heap) (k : Nat) (C : Addr) (m : Str) (sp : Sp) : Prop where
  ex : ∃ (f : Addr) (fd : FuncData) (ps : List Str), Cls K C ∧ Meth K C m f ∧ FnH P w K mg base CX0 k f fd ps sp ∧ Binds K fd ps []
structure MakH (P : Program) (w : World) (K : PySem.W.Frag) (mg : Str → Option Value) (base : Heap) (k : Nat) (x : Str) (C : Addr) (sp : Sp) : Prop where
  ex : ∃ (f : Addr) (fd : FuncData) (ps : List Str), Mk K C f ∧ FnH P w K mg base CX0 k f fd ps sp ∧ mg x = some (.ref C) ∧ Binds K fd ps []
section
variable {X : Cx} {k j : Nat} {C f : Addr} {fd : FuncData} {ps : List Str} {x m : Str} {sp : Sp} {p pos apos : Pos} {e o : Expr} {es : List Expr} {ta : TE} {t : TA} {W : WX} {CX : CXT} {E : L2.St → XK}
theorem pe_methS {pl : Sem Bool} (he : PE X o ta) (c : Cls X.K C) (hm : Meth X.K C m f) (F : FnOk X.prog X.w X.K X.mg X.base CX k f fd ps sp) (hr : Room k X.A) (hb : Binds X.K fd ps []) (hx : ∀ σ, PassesAt CX X σ (E σ)) (ha : PA X (e :: es) t)
    (hst : starEach (e :: es) X.env = (false, eval e X.env) :: starEach es X.env := by rfl) (hpl : (backTo pos (starEach es X.env)).any (·.1) = false := by rfl)
    (ht : eval (.Call (.Attribute o m apos) (e :: es) [] pos) X.env = (do
      let ov ← eval o X.env
      standAt apos.atName
      let (f, first) ← holding [ov] (getMethod ov m pl)
      callWith pos f first (backTo pos (starEach (e :: es) X.env)) (backToKw pos (keywordEach [] X.env))) := by rfl) :
    PE X (.Call (.Attribute o m apos) (e :: es) [] pos) (tMethH C m sp E ta t) := by
  refine ⟨fun pins s σ H Q I h => ?_⟩
  refine PySem.W.methodCall_KW (pl := pl) (thn (he.run pins s σ H _ I h) fun u s1 ⟨x, H1, I1, rx, a, dx, fs, ex, ea, l, q⟩ => ?_) ht
  subst ex
  obtain rfl : u = Value.ref a := rx
  refine getmeth_ok I1 ea c hm l ?_
  refine PySem.W.callWith_K (first := [.ref a]) (h₀ := X.base) I.ok.mod.kin hm.kp (thn (ha.run pos pins s1 σ H1 _ I1 q) fun us s2 ⟨vs, H2, I2, r, q2⟩ => ⟨I2.kIn, ?_⟩) hst hpl
  exact run_fnS (us := .ref a :: us) (vs := .ref a :: vs) F hr hb (hx σ) I2 (.cons rfl r) q2
theorem pe_meth0S {pl : Sem Bool} (he : PE X o ta) (c : Cls X.K C) (hm : Meth X.K C m f) (F : FnOk X.prog X.w X.K X.mg X.base CX k f fd ps sp) (hr : Room k X.A) (hb : Binds X.K fd ps []) (hx : ∀ σ, PassesAt CX X σ (E σ))
    (ht : eval (.Call (.Attribute o m apos) [] [] pos) X.env = (do
      let ov ← eval o X.env
      standAt apos.atName
      let (f, first) ← holding [ov] (getMethod ov m pl)
      callWith pos f first (backTo pos (starEach [] X.env)) (backToKw pos (keywordEach [] X.env))) := by rfl) :
    PE X (.Call (.Attribute o m apos) [] [] pos) (tMethH C m sp E ta tNil) := by
  refine ⟨fun pins s σ H Q I h => ?_⟩
  refine PySem.W.methodCall_KW (pl := pl) (thn (he.run pins s σ H _ I h) fun u s1 ⟨x, H1, I1, rx, a, dx, fs, ex, ea, l, q⟩ => ?_) ht
  subst ex
  obtain rfl : u = Value.ref a := rx
  refine getmeth_ok I1 ea c hm l ?_
  exact PySem.W.callWith_K0 (first := [.ref a]) I1.kIn hm.kp (run_fnS (us := [.ref a]) (vs := [.ref a]) F hr hb (hx σ) I1 (.cons rfl .nil) q)
theorem pe_mtN {pl : Sem Bool} (c : MetN X.prog X.w X.K X.mg X.base k C m sp) (tk : L2N.Takes X W) (hr : Room j X.A) (hk : k ≤ j) (he : PE X o ta) (ha : PA X (e :: es) t)
    (hst : starEach (e :: es) X.env = (false, eval e X.env) :: starEach es X.env := by rfl) (hpl : (backTo pos (starEach es X.env)).any (·.1) = false := by rfl)
    (ht : eval (.Call (.Attribute o m apos) (e :: es) [] pos) X.env = (do
      let ov ← eval o X.env
      standAt apos.atName
      let (f, first) ← holding [ov] (getMethod ov m pl)
      callWith pos f first (backTo pos (starEach (e :: es) X.env)) (backToKw pos (keywordEach [] X.env))) := by rfl) :
    PE X (.Call (.Attribute o m apos) (e :: es) [] pos) (tMethH C m sp (WE W) ta t) := by
  obtain ⟨f, fd, ps, hc, hm, F, b⟩ := c.ex
  exact pe_methS (pl := pl) he hc hm F (hr.mono hk) b (L2N.passAt tk) ha hst hpl ht
theorem pe_mtN0 {pl : Sem Bool} (c : MetN X.prog X.w X.K X.mg X.base k C m sp) (tk : L2N.Takes X W) (hr : Room j X.A) (hk : k ≤ j) (he : PE X o ta)
    (ht : eval (.Call (.Attribute o m apos) [] [] pos) X.env = (do
      let ov ← eval o X.env
      standAt apos.atName
      let (f, first) ← holding [ov] (getMethod ov m pl)
      callWith pos f first (backTo pos (starEach [] X.env)) (backToKw pos (keywordEach [] X.env))) := by rfl) :
    PE X (.Call (.Attribute o m apos) [] [] pos) (tMethH C m sp (WE W) ta tNil) := by
  obtain ⟨f, fd, ps, hc, hm, F, b⟩ := c.ex
  exact pe_meth0S (pl := pl) he hc hm F (hr.mono hk) b (L2N.passAt tk) ht
theorem pe_mtH {pl : Sem Bool} (c : MetH X.prog X.w X.K X.mg X.base k C m sp) (hc : HotC X) (hr : RoomH j X.A) (hk : k ≤ j) (he : PE X o ta) (ha : PA X (e :: es) t)
    (hst : starEach (e :: es) X.env = (false, eval e X.env) :: starEach es X.env := by rfl) (hpl : (backTo pos (starEach es X.env)).any (·.1) = false := by rfl)
    (ht : eval (.Call (.Attribute o m apos) (e :: es) [] pos) X.env = (do
      let ov ← eval o X.env
      standAt apos.atName
      let (f, first) ← holding [ov] (getMethod ov m pl)
      callWith pos f first (backTo pos (starEach (e :: es) X.env)) (backToKw pos (keywordEach [] X.env))) := by rfl) :
    PE X (.Call (.Attribute o m apos) (e :: es) [] pos) (tMeth C m sp [] E0 ta t) := by
  obtain ⟨f, fd, ps, c, hm, F, b⟩ := c.ex
  have q := pe_methH (pl := pl) (E := fun _ => E0) he c hm F (hr.mono hk) hc b (fun σ _ _ _ _ _ _ h => h.elim) ha hst hpl ht
  refine ⟨fun pins s σ H Q I h => q.run pins s σ H Q I ?_⟩
  have e : tMeth C m sp [] E0 ta t σ H Q = tMethH C m sp (fun _ => E0) ta t σ H Q := by
    unfold tMeth tMethH
    simp only [List.append_nil]
  rw [← e]
  exact h
theorem run_makeH {pins : List (Addr × Obj)} {σ : L2.St} {H : Hp} {s : Shared} {Q : VK} {us : List Value} {vs : List V} (M : Mk X.K C f) (F : FnH X.prog X.w X.K X.mg X.base CX0 k f fd ps sp) (hr : RoomH (k + 1) X.A) (hc : HotC X) (hb : Binds X.K fd ps [])
    (I : Inv X pins σ H s) (r : Vals vs us)
    (h : ∀ x dx, H x = none → H dx = none → dx ≠ x → sp (.ref x :: (vs ++ [])) (upd (upd H dx (.own x)) x (.ins C dx [])) (fun v H2 => v = .non ∧ Q (.ref x) H2) E0) :
    wpAny (model X.prog X.w) X.A (call (.ref C) us) (EP X pins σ Q) X.xe s := by
  have hq := h (s.heap.objs.size + 1) s.heap.objs.size (I.hok.fresh (Nat.le_succ _)) (I.hok.fresh (Nat.le_refl _)) (Nat.ne_of_lt (Nat.lt_succ_self _))
  have I2 := Inv.made (C := C) I
  rw [List.append_nil] at hq
  have r2 : Vals (V.ref (s.heap.objs.size + 1) :: vs) (Value.ref (s.heap.objs.size + 1) :: us) := .cons rfl r
  have hl : (Value.ref (s.heap.objs.size + 1) :: us).length = ps.length := by
    have e := r2.length
    rw [F.len _ _ _ _ hq] at e
    exact e.symm
  obtain ⟨p, hot, hp⟩ := hc
  have P1 := I2.pin p (List.mem_append_left _ hp)
  have hpin : PinOk X.stack _ _ p := ⟨P1.1, P1.2.1, fun hm => (List.mem_cons.mp (I2.stkSub p.1 hm)).elim P1.2.2.1 P1.2.2.2.1, P1.2.2.2.2⟩
  have b := hb _ (Value.ref (s.heap.objs.size + 1) :: us) I2.kIn (by rw [List.append_nil]; exact hl)
  rw [List.append_nil] at b
  have hr' : RoomH k (X.A.under (.builtin "type.__call__" ⟨.ref C :: us, []⟩)) := ⟨by have := hr.dp; rw [make_depth]; omega, by have := hr.un; rw [make_units]; omega⟩
  refine wpAny_call (make_map (f := f) I.kIn M.makes M.init (beq_iff_eq.mp M.fn) (codeAny_mono (F.run _ X.stack _ _ ⟨Value.ref (s.heap.objs.size + 1) :: us, []⟩ (Value.ref (s.heap.objs.size + 1) :: us) _ _ E0 p hr' hot hpin
    (I2.env0.make C us []) b r2 hq) fun r s' hq' => ?_))
  cases r with
  | error e => exact hq'.elim
  | ok fl =>
    cases fl with
    | ret u =>
      obtain ⟨v, H', I3, rv, ev, q3⟩ := I2.after hq'
      subst ev
      exact ⟨rv, ⟨V.ref (s.heap.objs.size + 1), H', I3, rfl, q3⟩⟩
    | next => exact False.elim hq'
    | brk => exact False.elim hq'
    | cont => exact False.elim hq'
theorem pe_mkH (c : MakH X.prog X.w X.K X.mg X.base k x C sp) (hc : HotC X) (hr : RoomH j X.A) (hk : k + 1 ≤ j) (hg : Gl X x) (ha : PA X (e :: es) t)
    (hdb : (x == ("__debug__" : Str)) = false := by decide) (he : starEach (e :: es) X.env = (false, eval e X.env) :: starEach es X.env := by rfl) (hpl : (backTo pos (starEach es X.env)).any (·.1) = false := by rfl) :
    PE X (.Call (.Name x p) (e :: es) [] pos) (tMake C sp [] E0 t) := by
  obtain ⟨f, fd, ps, M, F, hm, b⟩ := c.ex
  refine ⟨fun pins s σ H Q I h => ?_⟩
  refine wpAny_Call_Name_kw (ld_glob I hg hm ?_ hdb)
  refine PySem.W.callWith_K (h₀ := X.base) I.ok.mod.kin M.kp (thn (ha.run pos pins s σ H _ I h) fun us s1 ⟨vs, H1, I1, r, q⟩ => ⟨I1.kIn, ?_⟩) he hpl
  exact run_makeH M F (hr.mono hk) hc b I1 r q
end
/-! ### bodies -/
section
variable {P : Program} {w : World} {K : PySem.W.Frag} {mg : Str → Option Value} {base : Heap} {x qual : Str} {params : Arguments} {body : List Stmt} {scope : Scope} {f : Addr} {fd : FuncData}
theorem takesF {N : List Str} {cdv : Value} {A : Around} {outer : List Env} {s : Shared} {H : Hp} {E : XK} : L2N.Takes (cxOf (L2N.CX P w) P w K mg base N qual scope f cdv A outer s H E) (fun cls d _ H => E cls d H) :=
  L2N.takes_of rfl rfl rfl (E₁ := fun e' s'' => L2N.CX P w outer H s E e' s'') rfl
theorem tryF {CX : CXT} {N : List Str} {cdv : Value} {A : Around} {outer : List Env} {s : Shared} {H : Hp} {E : XK} : TryC (cxOf CX P w K mg base N qual scope f cdv A outer s H E) := by
  refine ⟨rfl, rfl, rfl, fun hd => ?_⟩
  exact L2H.passesAt_of rfl hd
theorem FunD.okH {N ps : List Str} {k : Nat} {sp : Sp} {dvs : List V} {kws : List (Str × V)} (F : FunD K x qual params body scope dvs kws f fd) (S : FnScope N ps scope) (len : ∀ vs H Q E, sp vs H Q E → vs.length = ps.length)
    (hbody : ∀ (cdv : Value) (A : Around) (outer : List Env) (s : Shared) (H : Hp) (vs : List V) (Q : VK) (E : XK) (p : Addr × Obj), Hot1 A p → RoomH k (A.deeper (envOfC qual scope s.heap.objs.size f cdv)) → sp vs H Q E →
      ∃ t, PSs (cxH CX0 P w K mg base N qual scope f cdv A outer s H E p) body t ∧ t { nx := fun _ H' => Q .non H', rt := Q } (L2.start N vs) H) : FnH P w K mg base CX0 (k + 1) f fd ps sp := by
  obtain ⟨oc, od, dV, kV, doc, pm, an, cdv, ct, osl, rfl, lk, hcd, _, _⟩ := F.ex
  exact fn_ofH lk hcd S len fun A outer s H vs Q E p hot hr hsp => hbody cdv A outer s H vs Q E p hot hr hsp
theorem hotF {N : List Str} {cdv : Value} {A : Around} {outer : List Env} {s : Shared} {H : Hp} {E : XK} {p : Addr × Obj} {CX : CXT} (h : Hot1 A p) : HotC (cxH CX P w K mg base N qual scope f cdv A outer s H E p) := ⟨p, h, List.mem_singleton.mpr rfl⟩
end
/-! ### a field of the caught exception -/
theorem pe_xfY {X : Cx} {a T C : Addr} {oe oT : Obj} {cls : Value} {d : Option Addr} {pins : List (Addr × Obj)} {xe : Value → Shared → Prop} {e : Expr} {te : TE} {pos : Pos} {n : Str} (T' : XfC X.K C) (hno : PySem.W.findIn X.K (.ref C) n = some none)
    (F : FlyN X a oe T oT cls d pins) (he : PE (suY X a oe T oT pins xe) e te) (hb : attributeBase e n X.env (eval e X.env) = eval e X.env := by rfl) :
    PE (suY X a oe T oT pins xe) (.Attribute e n pos) (tXf a cls d C n te) := by
  refine ⟨fun pn' s σ H Q I h => ?_⟩
  refine attr_of hb (thn (he.run pn' s σ H _ I h) fun u s1 hh => ?_)
  obtain ⟨x, H1, I1, rx, ex, ec, dd, fs, v, ed, ea, l, q⟩ := hh
  subst ex
  obtain rfl : u = Value.ref a := rx
  subst ec
  subst ed
  obtain ⟨ha, _⟩ := I1.pin (a, oe) (List.mem_append_left _ List.mem_cons_self)
  obtain ⟨vs, tt, hd, _⟩ := F.f
  have hx : ObjOk X.prog X.w H1 s1.heap dd (.xd fs) := I1.hok dd _ ea
  obtain ⟨mA, hns, hr⟩ := hx
  obtain ⟨od, ho, hl⟩ := lookIn_ns hns
  obtain ⟨u, hu, ru⟩ := RelO.some_of (v := v) (o := mA n) (by rw [← l]; exact hr n)
  have J : PySem.W.InstAt s1.heap a oe C (some od) := ⟨ha, F.z.1, by unfold PySem.W.notCls; rw [hd] <;> rfl, by rw [F.z.2.1]; exact ho⟩
  exact HandSPX.exc_get I1.kIn J T'.ga T'.gg T'.exC (PySem.W.findObj_own T'.hdC hno rfl (by rw [hl, hu])) (handed_of ru) ⟨v, H1, I1.tok _, ru, q⟩
end M


namespace M
open PySem PySem.Spec PyProof.Rows L2 L2H SlX
/-! ### what a derivation is given of the things that it calls -/
/-- an own exception, made by keywords -/
structure XMk (P : Program) (w : World) (K : PySem.W.Frag) (mg : Str → Option Value) (base : Heap) (k : Nat) (x : Str) (C : Addr) (fs : List Str) : Prop where mk0 ::
  ex : ∃ (fI : Addr) (fd : FuncData) (B newId i : String) (bmB : List Value), XCls K C fI B newId i bmB fs ∧ FnOk P w K mg base CX0 k fI fd ("self" :: fs) (sp_ini C fs) ∧
    (∀ (s : Shared) (u : Value) (ws : List Value), ws.length = fs.length → BindsTo s fd ⟨[u], fs.zip ws⟩ ((("self" : Str) :: fs).zip (u :: ws))) ∧ mg x = some (.ref C)
/-- own `in`, own `[]` -/
structure OwnG (P : Program) (w : World) (K : PySem.W.Frag) (mg : Str → Option Value) (base : Heap) (k : Nat) (C : Addr) (spc spg : Sp) : Prop where
  con : ∃ g, PySem.W.findIn K (.ref C) "__contains__" = some (some (.ref g)) ∧ PySem.W.isFn K (.ref g) = true ∧ FnR P w K mg base CX0 k g spc
  itm : ∃ g, PySem.W.findIn K (.ref C) "__getitem__" = some (some (.ref g)) ∧ PySem.W.fnIn K g = true ∧ PySem.W.isFn K (.ref g) = true ∧ FnR P w K mg base CX0 k g spg
/-- a method, a property of a class with slots -/
structure MSl (P : Program) (w : World) (K : PySem.W.Frag) (mg : Str → Option Value) (base : Heap) (k : Nat) (C : Addr) (m : Str) (sp : Sp) : Prop where
  ex : ∃ g, SCls K C ∧ Meth K C m g ∧ FnR P w K mg base CX0 k g sp
structure PSl (P : Program) (w : World) (K : PySem.W.Frag) (mg : Str → Option Value) (base : Heap) (k : Nat) (C : Addr) (f : Str) (sp : Sp) : Prop where
  ex : ∃ p g, SCls K C ∧ PySem.W.findIn K (.ref C) f = some (some (.ref p)) ∧ PySem.W.specialIn K (.ref p) "__get__" = some (some (.builtin "property.__get__")) ∧ PySem.W.takesIn K (.ref p) = some true ∧ (∃ rest, PySem.W.recIn K p "property" = some (.ref g :: rest)) ∧ FnR P w K mg base CX0 k g sp
/-- a def called with keywords -/
structure CalK (P : Program) (w : World) (K : PySem.W.Frag) (mg : Str → Option Value) (base : Heap) (k : Nat) (x : Str) (sp : Sp) (n : Nat) (ks : List Str) (gV : List V → List V → List V) : Prop where
  ex : ∃ (f : Addr) (fd : FuncData) (ps : List Str) (g : List Value → List Value → List Value), FnOk P w K mg base CX0 k f fd ps sp ∧ mg x = some (.ref f) ∧ PySem.W.keepIn K (.ref f) = true ∧ KBn K fd ps n ks g gV
section
variable {X : Cx} {k j n : Nat} {C : Addr} {x m f : Str} {sp spc spg : Sp} {fs ks : List Str} {kws : List Keyword} {tk t : TA} {p pos apos : Pos} {e o : Expr} {es : List Expr} {ta tb : TE} {gV : List V → List V → List V}
theorem XMk.mk (c : XMk X.prog X.w X.K X.mg X.base k x C fs) (hr : Room j X.A) (hk : k + 1 ≤ j) (hg : Gl X x) (hkw : PK X kws tk)
    (hall : (backToKw pos (keywordEach kws X.env)).all (·.1.isSome) = true := by rfl) (hks : (backToKw pos (keywordEach kws X.env)).filterMap (·.1) = fs := by rfl) (hdb : (x == ("__debug__" : Str)) = false := by decide)
    (hpl : ((backTo pos (starEach [] X.env)).any (·.1) || (backToKw pos (keywordEach kws X.env)).any (·.1.isNone)) = false := by rfl) :
    L2N.PMk X (.Call (.Name x p) [] kws pos) (tMkK C fs tk) := by
  obtain ⟨fI, fd, B, newId, i, bmB, T, F, hb, hm⟩ := c.ex
  exact pmk_kw T F (hr.mono hk) hb C8.pass0 hg hm hkw hall hks hdb hpl
theorem OwnG.cin (c : OwnG X.prog X.w X.K X.mg X.base k C spc spg) (hr : Room j X.A) (hk : k + 1 ≤ j) : OpR X (compareOp .In) (rInO C spc E0) := by
  obtain ⟨g, h1, h2, F⟩ := c.con
  exact op_inO h1 h2 F (hr.mono (by omega)) C8.pass0
theorem OwnG.nin (c : OwnG X.prog X.w X.K X.mg X.base k C spc spg) (hr : Room j X.A) (hk : k + 1 ≤ j) : OpR X (compareOp .NotIn) (rNotInO C spc E0) := by
  obtain ⟨g, h1, h2, F⟩ := c.con
  exact op_notInO h1 h2 F (hr.mono (by omega)) C8.pass0
theorem OwnG.ix {a b : Expr} (c : OwnG X.prog X.w X.K X.mg X.base k C spc spg) (hr : Room j X.A) (hk : k + 1 ≤ j) (ha : PE X a ta) (hb : PE X b tb) (hsl : ∀ v u, subscripted b true v u = runValue (.builtin "lifetime.subscript" ⟨[v, u], []⟩) := by intro v u; with_unfolding_all rfl) : PE X (.Subscript a b pos) (tOp (rIxO C spg E0) ta tb) := by
  obtain ⟨g, h1, h2, h3, F⟩ := c.itm
  exact pe_ixO h1 h2 h3 F (hr.mono hk) C8.pass0 ha hb hsl
theorem pe_ms {pl : Sem Bool} (c : MSl X.prog X.w X.K X.mg X.base k C m sp) (hr : Room j X.A) (hk : k ≤ j) (he : PE X o ta) (ha : PA X (e :: es) t)
    (hst : starEach (e :: es) X.env = (false, eval e X.env) :: starEach es X.env := by rfl) (hpl : (backTo pos (starEach es X.env)).any (·.1) = false := by rfl)
    (ht : eval (.Call (.Attribute o m apos) (e :: es) [] pos) X.env = (do
      let ov ← eval o X.env
      standAt apos.atName
      let (f, first) ← holding [ov] (getMethod ov m pl)
      callWith pos f first (backTo pos (starEach (e :: es) X.env)) (backToKw pos (keywordEach [] X.env))) := by rfl) :
    PE X (.Call (.Attribute o m apos) (e :: es) [] pos) (tMethSl C sp E0 ta t) := by
  obtain ⟨g, h1, h2, F⟩ := c.ex
  exact pe_methSl (pl := pl) he h1 h2 F (hr.mono hk) C8.pass0 ha hst hpl ht
theorem pe_ms0 {pl : Sem Bool} (c : MSl X.prog X.w X.K X.mg X.base k C m sp) (hr : Room j X.A) (hk : k ≤ j) (he : PE X o ta)
    (ht : eval (.Call (.Attribute o m apos) [] [] pos) X.env = (do
      let ov ← eval o X.env
      standAt apos.atName
      let (f, first) ← holding [ov] (getMethod ov m pl)
      callWith pos f first (backTo pos (starEach [] X.env)) (backToKw pos (keywordEach [] X.env))) := by rfl) :
    PE X (.Call (.Attribute o m apos) [] [] pos) (tMethSl C sp E0 ta tNil) := by
  obtain ⟨g, h1, h2, F⟩ := c.ex
  exact pe_methSl0 (pl := pl) he h1 h2 F (hr.mono hk) C8.pass0 ht
theorem pe_psl (c : PSl X.prog X.w X.K X.mg X.base k C f sp) (hr : Room j X.A) (hk : k + 1 ≤ j) (he : PE X e ta) (hb : attributeBase e f X.env (eval e X.env) = eval e X.env := by rfl) : PE X (.Attribute e f pos) (tPropSl C sp E0 ta) := by
  obtain ⟨p, g, h1, h2, h3, h4, h5, F⟩ := c.ex
  exact pe_propSl he h1 h2 h3 h4 h5 F (hr.mono hk) (fun _ _ _ _ z => z) hb
theorem pe_ck (c : CalK X.prog X.w X.K X.mg X.base k x sp n ks gV) (hr : Room j X.A) (hk : k ≤ j) (hg : Gl X x) (ha : PA X (e :: es) t) (hkw : PK X kws tk) (hall : (backToKw pos (keywordEach kws X.env)).all (·.1.isSome) = true := by rfl) (hks : (backToKw pos (keywordEach kws X.env)).filterMap (·.1) = ks := by rfl)
    (hdb : (x == ("__debug__" : Str)) = false := by decide) (he : starEach (e :: es) X.env = (false, eval e X.env) :: starEach es X.env := by rfl)
    (hpl : ((backTo pos (starEach (e :: es) X.env)).any (·.1) || (backToKw pos (keywordEach kws X.env)).any (·.1.isNone)) = false := by rfl) :
    PE X (.Call (.Name x p) (e :: es) kws pos) (tCallN n ks.length sp gV E0 t tk) := by
  obtain ⟨f, fd, ps, g, F, hm, kp, hb⟩ := c.ex
  exact pe_callN F (hr.mono hk) hg hm kp hb C8.pass0 ha hkw hall hks hdb he hpl
end
/-! ### promises, weakened -/
section
variable {P : Program} {w : World} {K : PySem.W.Frag} {mg : Str → Option Value} {base : Heap} {j k : Nat} {C f : Addr} {fd : FuncData} {ps : List Str} {m : Str} {sp sp' : Sp} {CX : CXT}
theorem MetN.mono (c : MetN P w K mg base j C m sp) (h : j ≤ k) : MetN P w K mg base k C m sp := by
  obtain ⟨f, fd, ps, h1, h2, F, b⟩ := c.ex
  exact ⟨f, fd, ps, h1, h2, F.mono h, b⟩
theorem MetN.imp (c : MetN P w K mg base k C m sp) (h : ∀ vs H Q E, sp' vs H Q E → sp vs H Q E) : MetN P w K mg base k C m sp' := by
  obtain ⟨f, fd, ps, h1, h2, F, b⟩ := c.ex
  exact ⟨f, fd, ps, h1, h2, F.imp h, b⟩
theorem fn_noneX (no : ∀ vs H Q E, ¬ sp vs H Q E) : FnOk P w K mg base CX k f fd ps sp :=
  ⟨fun vs H Q E h => absurd h (no vs H Q E), fun A outer s H args us vs Q E _ _ _ _ h => absurd h (no vs H Q E)⟩
theorem rawNil (F : FnOk P w K mg base CX k f fd ps sp) (hb : Binds K fd ps []) : FnR P w K mg base CX k f sp := (F.raw hb .nil).imp fun vs H Q E h => by rw [List.append_nil]; exact h
theorem takes0 {X : Cx} : L2N.Takes X (fun _ _ _ _ => False) := by
  rintro u s' ⟨a, B, sI, pins, σ, H, cls, d, e, I, nb, up, sky, na, os, ag, w⟩
  exact w.elim
end
end M


namespace M
open PySem PySem.Spec PyProof.Rows L2 HotX L2H
/-! ### a tuple unpacked while an exception is handled -/
section
variable {prog : Program} {w : World} {A : Around} {E : Value → Shared → Prop} {s : Shared}
theorem tup_end_hot {it t x1 : Addr} {i : Nat} {items : Array Value} {Q : Option Value → Shared → Prop} (hot : HotAt A x1 s.heap) (hne : x1 ≠ it) (hit : IsTupIter s.heap it t i) (ht : IsTup s.heap t items) (hx : items[i]? = none)
    (hQ : ∀ h', (∀ b o, b ≠ it → s.heap.get? b = some o → h'.get? b = some o) → Q none { s with heap := h' }) : wpAny (model prog w) A (pyNext (.ref it)) Q E s := by
  obtain ⟨o, ho, hc, hd⟩ := id hit
  obtain ⟨ol, hol, _, nl, hdl⟩ := ht
  obtain ⟨hh, o1, vs1, h1, d1, c1⟩ := hot
  unfold pyNext
  refine wpAny_bind (wpAny_attempt (wpAny_callSpecial?_slot (name := Str.ofString "__next__") hit.typeIs slot_tupleiter_next (wpAny_call_entry slot_tupleiter_next hit.typeIs entry_tupleiter_next ?_ (args_tupleiter_next _))))
  show wpAny _ _ (field (.ref it) 0 >>= _) _ _ s
  refine wpAny_bind (wpAny_field ho hd (x := .ref t) rfl ?_)
  show wpAny _ _ (if (Value.ref t == Value.none) = true then _ else _) _ _ s
  rw [if_neg (show ¬ ((Value.ref t == Value.none) = true) from Bool.false_ne_true)]
  show wpAny _ _ (field (.ref it) 1 >>= _) _ _ s
  refine wpAny_bind (wpAny_field ho hd (x := .int i 0) rfl ?_)
  show wpAny _ _ (seqItems? (.ref t) >>= _) _ _ s
  refine wpAny_bind (wpAny_seqItems hol hdl ?_)
  simp only [Int.toNat_natCast, hx]
  refine wpAny_bind (wpAny_rule (wpAny_bind (wpAny_setField ho hd (by simp) ?_)))
  show wpAny _ _ (newExc (.type "StopIteration") [] >>= _) _ _ _
  refine wpAny_bind ?_
  simp only [newExc, newTuple]
  refine wpAny_bind (wpAny_newObj_type ?_ (by size_fits))
  refine wpAny_bind (m := firstArgMember _ _) (wpAny_of_eq (a := Value.none) (by first | rfl | (simp only [firstArgMember]; rfl)) ?_)
  refine wpAny_newObj_type ?_ (by size_fits)
  have oth : ∀ b ob, b ≠ it → s.heap.get? b = some ob → (s.heap.update it (Obj.mapFields (·.setIfInBounds 0 .none))).get? b = some ob := fun b ob hb e => by rw [Heap.get?_update_other _ _ (Ne.symm hb)]; exact e
  have g1 := Heap.get?_push_of_some { cls := .type "tuple", data := .seq ([] : List Value).toArray } (oth x1 o1 hne h1)
  refine raiseNew_hot ⟨hh, o1, vs1, Heap.get?_push_of_some _ g1, d1, c1⟩ (Nat.ne_of_lt (Heap.lt_size g1)) (Heap.get?_push_size _ rfl) rfl (by first | (simp; done) | (simp; omega) | (simp only [Array.size_append]; simp; omega)) ?_
  refine wpAny_bind (wpAny_isInstance (T := "StopIteration") (b := true) ⟨_, Heap.get?_update_self _ (Heap.get?_push_size _ rfl) rfl, rfl⟩ isSubtype_stop ?_)
  refine wpAny_pure (hQ _ fun b ob hb e => ?_)
  have g2 := Heap.get?_push_of_some { cls := .type "tuple", data := .seq ([] : List Value).toArray } (oth b ob hb e)
  rw [Heap.get?_update_other _ _ (Nat.ne_of_gt (Heap.lt_size g2))]
  exact Heap.get?_push_of_some _ g2
theorem unpackItems_tupH {t x1 : Addr} {items : Array Value} {Q : List Value → Shared → Prop} (hot : HotAt A x1 s.heap) (ht : IsTup s.heap t items)
    (hQ : ∀ h', Heap.ExtBut s.heap.objs.size s.heap h' → Q items.toList { s with heap := h' }) : wpAny (model prog w) A (unpackItems (.ref t) items.size none) Q E s := by
  have hlt : t ≠ s.heap.objs.size := by obtain ⟨o, ho, _⟩ := ht; exact Nat.ne_of_lt (Heap.lt_size ho)
  obtain ⟨hh, o1, vs1, h1, d1, c1⟩ := hot
  have hx1 : x1 ≠ s.heap.objs.size := Nat.ne_of_lt (Heap.lt_size h1)
  unfold unpackItems
  refine wpAny_bind ?_
  · unfold notIterableAtAll
    refine wpAny_bind (wpAny_specialOf ht.typeIs slot_tuple_iter.lookup ?_)
    refine wpAny_pure ?_
    simp only [Bool.false_eq_true, if_false]
    refine wpAny_bind (wpAny_holding (iter_tuple ht ?_))
    refine wpAny_bind (wpAny_holding (draw_tuple hlt items.size 0 _ _ ⟨_, Heap.get?_push_size _ rfl, rfl, rfl⟩ (ht.push _) (by omega) fun h₁ hit₁ hs₁ => ?_))
    have hall : List.take items.size (List.drop 0 items.toList) = items.toList := by
      rw [List.drop_zero]; exact List.take_of_length_le (by simp)
    rw [hall]
    rw [if_neg (by simp)]
    have ht₁ : IsTup h₁ t items := (ht.push _).extBut hs₁.extBut hlt
    refine wpAny_bind (wpAny_holding (tup_end_hot ⟨hh, o1, vs1, hs₁.extBut x1 o1 hx1 (Heap.get?_push_of_some _ h1), d1, c1⟩ hx1 hit₁ ht₁ (by simp) fun h₂ he₂ => ?_))
    simp only [Option.isSome_none, Bool.false_eq_true, if_false]
    refine wpAny_pure (hQ h₂ fun b o hb e => he₂ b o hb (hs₁.extBut b o hb (Heap.get?_push_of_some _ e)))
theorem unpack_tupH {t x1 : Addr} {items : Array Value} {targets : List (Bool × (Value → Sem Unit))} {Q : Unit → Shared → Prop} (hot : HotAt A x1 s.heap) (ht : IsTup s.heap t items)
    (hn : targets.length = items.size) (hstar : targets.findIdx? (·.1) = none)
    (h : ∀ h', Heap.ExtBut s.heap.objs.size s.heap h' → wpAny (model prog w) A (assignInOrder (targets.map (·.2)) items.toList) Q E { s with heap := h' }) :
    wpAny (model prog w) A (unpack (.ref t) targets) Q E s := by
  unfold unpack
  rw [hn, hstar]
  exact wpAny_bind (wpAny_holding (unpackItems_tupH hot ht h))
theorem assign_tupH {env : Env} {elts : List Expr} {x1} {pos : Pos} {t xa : Addr} {items : Array Value} {Q : Unit → Shared → Prop} (hot : HotAt A xa s.heap) (ht : IsTup s.heap t items)
    (hn : (assignEach elts env).length = items.size) (hstar : (assignEach elts env).findIdx? (·.1) = none)
    (h : ∀ h', Heap.ExtBut s.heap.objs.size s.heap h' → wpAny (model prog w) A (assignInOrder ((assignEach elts env).map (·.2)) items.toList) Q E { s with heap := h' }) :
    wpAny (model prog w) A (assign (.Tuple elts x1 pos) env (.ref t)) Q E s := by
  rw [assign_Tuple]
  exact wpAny_bind (wpAny_standAt (unpack_tupH hot ht hn hstar h))
end
theorem roomY {X : Cx} {a T : Addr} {oe oT : Obj} {pins : List (Addr × Obj)} {xe : Value → Shared → Prop} {j : Nat} (hr : Room j X.A) : RoomH j (suY X a oe T oT pins xe).A := ⟨hr.dp, hr.un⟩
theorem pg_tupH {X : Cx} {pos : Pos} {es : List Expr} {k : Nat} {t : TGs} {n : Nat} (hc : HotC X) (h : PGs X es t)
    (hn : (assignEach es X.env).length = n := by rfl) (hst : (assignEach es X.env).findIdx? (·.1) = none := by rfl) : PG X (.Tuple es k pos) (gTup X.K n t) := by
  refine ⟨fun pins s σ H v u Q I r hw => ?_⟩
  obtain ⟨a, xs, e1, hq, hl, hw⟩ := hw
  subst e1
  cases r
  obtain ⟨its, rv, ht, hz⟩ := I.tuple hq
  obtain ⟨p, ⟨hh, v1, e1, c1⟩, hp⟩ := hc
  refine assign_tupH (xa := p.1) ⟨hh, p.2, v1, (I.pin p (List.mem_append_left _ hp)).1, e1, c1⟩ ht (by simp [hn, ← hl, rv.length]) hst fun h' hx => ?_
  have I1 : Inv X pins σ H { s with heap := h' } := I.kept (t' := s.toks) fun b o e => hx b o (Nat.ne_of_lt (Heap.lt_size e)) e
  exact h.run pins _ σ H xs _ Q I1 (by simpa using rv) hw
end M


namespace M
open PySem PySem.Spec PyProof.Rows L2 L2H SlX
def top (i : Nat) : Stmt := PySem.Challenge.pw_modlink_k07_whole_events.main.body.getD i (.Pass ⟨0, 0, 0, 0⟩)
abbrev s_wall : Stmt := top 0
abbrev s_InvalidProgram___init__ : Stmt := inClass (top 3) 0
abbrev s_UnknownModule___init__ : Stmt := inClass (top 4) 0
abbrev s_is_integer : Stmt := top 15
abbrev s_is_name : Stmt := top 16
abbrev s_blocks_of : Stmt := top 17
abbrev s_names_of : Stmt := top 18
abbrev s_expressions_of : Stmt := top 19
abbrev s_statements_in : Stmt := top 20
abbrev s_depth_of : Stmt := top 21
abbrev s_is_valid_expression : Stmt := top 22
abbrev s_is_valid_statement : Stmt := top 23
abbrev s_first_fault : Stmt := top 24
abbrev s_Outcome___init__ : Stmt := inClass (top 30) 1
abbrev s_Outcome_ending : Stmt := inClass (top 30) 2
abbrev s_Outcome_shown : Stmt := inClass (top 30) 3
abbrev s_Outcome_events : Stmt := inClass (top 30) 4
abbrev s_Outcome_trail : Stmt := inClass (top 30) 5
abbrev s_Outcome_seen : Stmt := inClass (top 30) 6
abbrev s_Outcome_status : Stmt := inClass (top 30) 7
abbrev s_Outcome_bound : Stmt := inClass (top 30) 8
abbrev s_Outcome___eq__ : Stmt := inClass (top 30) 9
abbrev s_World___init__ : Stmt := inClass (top 31) 0
abbrev s_World_told_status : Stmt := inClass (top 31) 1
abbrev s_World_enter : Stmt := inClass (top 31) 2
abbrev s_World_leave : Stmt := inClass (top 31) 3
abbrev s_World_fail : Stmt := inClass (top 31) 4
abbrev s_World_meet : Stmt := inClass (top 31) 5
abbrev s_World_outcome : Stmt := inClass (top 31) 6
abbrev s_Failure___init__ : Stmt := inClass (top 34) 0
abbrev s_Stop___init__ : Stmt := inClass (top 35) 0
abbrev s_Interpreter___init__ : Stmt := inClass (top 36) 0
abbrev s_Interpreter_refuse : Stmt := inClass (top 36) 1
abbrev s_Interpreter_take_block : Stmt := inClass (top 36) 2
abbrev s_Interpreter_read : Stmt := inClass (top 36) 3
abbrev s_Interpreter_value : Stmt := inClass (top 36) 4
abbrev s_Interpreter_bind : Stmt := inClass (top 36) 5
abbrev s_Interpreter_step : Stmt := inClass (top 36) 6
abbrev s_Interpreter_choice : Stmt := inClass (top 36) 7
abbrev s_Interpreter_go : Stmt := inClass (top 36) 8
abbrev s_Interpreter_attempt : Stmt := inClass (top 36) 9
abbrev s_Interpreter_call : Stmt := inClass (top 36) 10
abbrev s_Interpreter_block_of : Stmt := inClass (top 36) 11
abbrev s_Interpreter_load : Stmt := inClass (top 36) 12
abbrev s_Interpreter_bind_loaded : Stmt := inClass (top 36) 13
abbrev s_check_limit : Stmt := top 37
abbrev s_run : Stmt := top 38
abbrev s_Program___init__ : Stmt := inClass (top 40) 1
abbrev s_Program___getitem__ : Stmt := inClass (top 40) 2
abbrev s_Program___contains__ : Stmt := inClass (top 40) 3
abbrev s_Program___len__ : Stmt := inClass (top 40) 4
abbrev s_Program___iter__ : Stmt := inClass (top 40) 5
abbrev s_Program___eq__ : Stmt := inClass (top 40) 6
abbrev s_Program___or__ : Stmt := inClass (top 40) 7
abbrev s_Program_all_names : Stmt := inClass (top 40) 8
abbrev s_Program_with_module : Stmt := inClass (top 40) 9
abbrev s_Program_without : Stmt := inClass (top 40) 10
abbrev s_Program_statements : Stmt := inClass (top 40) 11
abbrev s_Program_each_statement : Stmt := inClass (top 40) 12
abbrev s_Program_of_texts : Stmt := inClass (top 40) 13
abbrev s_law_mix : Stmt := top 42
abbrev s_law_next : Stmt := top 43
abbrev s_law_alike : Stmt := top 44
abbrev s_law_name : Stmt := top 45
abbrev s_law_names : Stmt := top 46
abbrev s_law_integer : Stmt := top 47
abbrev s_law_expr : Stmt := top 48
abbrev s_law_load : Stmt := top 49
abbrev s_law_statement : Stmt := top 50
abbrev s_law_rows : Stmt := top 51
abbrev s_law_first_rows : Stmt := top 52
abbrev s_law_program : Stmt := top 53
abbrev s_law_walked : Stmt := top 54
abbrev s_law : Stmt := top 55
end M


namespace M
open PySem PySem.Spec PyProof.Rows L2
/-! ### what the head tells -/
theorem tabEq {fa : List He.Fa} {fn : List He.DefD} {ts : List He.Tab} {w : World} {K : PySem.W.Frag} (c : He.SaysT fa fn ts w K) (i : Nat) {t : He.Tab} (h : ts[i]? = some t := by rfl) : He.dicW K (t.1 K) = some (He.keysIn w.params t.2) := by
  have e : ts.map (fun t => He.dicW K (t.1 K)) = ts.map fun t => some (He.keysIn w.params t.2) := congrArg (fun z : He.AlT => z.2) c
  have e2 : (ts.map fun t => He.dicW K (t.1 K))[i]? = (ts.map fun t => some (He.keysIn w.params t.2))[i]? := by rw [e]
  rw [List.getElem?_map, List.getElem?_map, h] at e2
  exact Option.some.inj e2
theorem find_none {P : Params} {x : Str} : ∀ {l : List DictEntry} {ks : List Str}, l.map He.keyOf = He.keysIn P ks → (∀ k ∈ ks, k ≠ x) → l.find? (·.key.isStr x) = none ∧ l.any (·.refKey) = false
  | [], _, _, _ => ⟨rfl, rfl⟩
  | e :: r, [], h, _ => by cases h
  | e :: r, k :: ks, h, hn => by
    have h1 : He.keyOf e :: r.map He.keyOf = some (k, PyData.keyHash P k) :: He.keysIn P ks := h
    injection h1 with h2 h3
    obtain ⟨i1, i2⟩ := find_none h3 fun k' m => hn k' (List.mem_cons_of_mem _ m)
    unfold He.keyOf at h2
    split at h2
    · rename_i y t q
      obtain ⟨h5, h6⟩ := Prod.mk.inj (Option.some.inj h2)
      subst h5
      have hy : e.key.isStr x = false := by
        rw [q]
        have := hn y List.mem_cons_self
        simp [Value.isStr, this]
      have hr : e.refKey = false := by
        unfold DictEntry.refKey
        rw [q]
      constructor
      · rw [List.find?_cons, hy]; exact i1
      · rw [List.any_cons, hr, i2]; rfl
    · cases h2
theorem ktab_of {K : PySem.W.Frag} {w : World} {a : Addr} {kvs : List (Str × Str)} (h : He.dicW K a = some (He.keysIn w.params (kvs.map (·.1)))) (hv : He.valsB K a (kvs.map fun p => (p.1, He.Dv.str p.2)) = true) : KTab K w a kvs := by
  refine ⟨He.dicW_ok h, fun p hp => ?_, fun x hx => ?_⟩
  · exact He.valsB_ok hv (q := (p.1, He.Dv.str p.2)) (List.mem_map.mpr ⟨p, hp, rfl⟩)
  · unfold He.dicW at h
    unfold PySem.W.nsIn
    cases q : K.lookup a with
    | none => rw [q] at h; cases h
    | some o =>
      obtain ⟨oc, od, dt, osl⟩ := o
      rw [q] at h
      cases oc with
      | type c =>
        cases od with
        | none =>
          cases dt with
          | dict es n =>
            have h1 : (match decide (c = "dict") && (osl.isEmpty && !(a == sysModules)) with
              | true => some (es.toList.map He.keyOf)
              | false => none) = some (He.keysIn w.params (kvs.map (·.1))) := h
            cases z : decide (c = "dict") && (osl.isEmpty && !(a == sysModules)) with
            | false => rw [z] at h1; cases h1
            | true =>
              rw [z] at h1
              obtain ⟨f1, f2⟩ := find_none (x := x) (Option.some.inj h1) (fun k m => by
                obtain ⟨p, hp, rfl⟩ := List.mem_map.mp m
                exact hx p hp)
              show (match es.toList.find? (·.key.isStr x) with
                | some e => some (some e.val)
                | none => if es.toList.any (·.refKey) then none else some none) = some none
              rw [f1, f2]
              rfl
          | _ => cases h
        | some b => cases dt <;> cases h
      | _ => cases od <;> cases dt <;> cases h
/-- a def that keeps its promise, to be called by its name -/
theorem mkCal {P : Program} {w : World} {K : PySem.W.Frag} {mg : Str → Option Value} {base : Heap} {k : Nat} {x : Str} {sp : Sp} {f : Addr} {fd : FuncData} {ps : List Str} (F : FnOk P w K mg base CX0 k f fd ps sp) (hm : mg x = some (.ref f)) (kp : PySem.W.keepIn K (.ref f) = true) (b : Binds K fd ps []) : C8.Cal P w K mg base k x sp [] :=
  ⟨⟨f, fd, ps, [], F, hm, kp, b, .nil⟩⟩
theorem mkCalE {P : Program} {w : World} {K : PySem.W.Frag} {mg : Str → Option Value} {base : Heap} {k k' : Nat} {x : Str} {sp : Sp} {f : Addr} {fd : FuncData} {ps : List Str} (F : FnOk P w K mg base CX0 k f fd ps sp) (e : k = k') (hm : mg x = some (.ref f)) (kp : PySem.W.keepIn K (.ref f) = true) (b : Binds K fd ps []) : C8.Cal P w K mg base k' x sp [] := by
  subst e; exact mkCal F hm kp b
/-- nothing can be asked -/
theorem fn_none {P : Program} {w : World} {K : PySem.W.Frag} {mg : Str → Option Value} {base : Heap} {k : Nat} {sp : Sp} {f : Addr} {fd : FuncData} {ps : List Str} (no : ∀ vs H Q E, ¬ sp vs H Q E) : FnOk P w K mg base CX0 k f fd ps sp :=
  ⟨fun vs H Q E h => absurd h (no vs H Q E), fun A outer s H args us vs Q E _ _ _ _ h => absurd h (no vs H Q E)⟩
end M


namespace M
open PySem PySem.Spec PyProof.Rows L2
/-! ### a Hook that walks level by level (no duplicates are sought) -/
def refsB (o : Obj) : List Addr := match o.data with
  | .dict es _ => es.toList.flatMap fun e => He.refV e.val
  | .func fd => He.refV fd.code ++ (He.refV fd.defaults ++ (He.refV fd.kwdefaults ++ fd.closure.map (·.2)))
  | .cls cd => [cd.ns]
  | .fields vs => vs.toList.flatMap He.refV
  | .seq its _ => its.toList.flatMap He.refV
  | _ => []
def nextB (g : Addr → Option Obj) (as : List Addr) : List Addr := as.flatMap fun a => match g a with
  | some o => refsB o
  | none => []
def bfsB (g : Addr → Option Obj) : Nat → List Addr → List Addr
  | 0, as => as
  | n + 1, as => as ++ bfsB g n (nextB g as)
def frB (g : Addr → Option Obj) (n : Nat) (xs : List Addr) : PySem.W.Frag := He.frG g (bfsB g n (mainGlobals :: xs))
abbrev AlB : Type := He.AlT × Bool
def obsB (n : Nat) (xs : List Addr) (fa : List He.Fa) (fn : List He.DefD) (ts : List He.Tab) (ex : PySem.W.Frag → Bool) (g : Addr → Option Obj) : AlB := (fun K => (He.obsT fa fn ts K, ex K)) (frB g n xs)
def valB (fn : List He.DefD) (ts : List He.Tab) (w : World) : AlB := (He.valT fn ts w, true)
structure SaysB (fa : List He.Fa) (fn : List He.DefD) (ts : List He.Tab) (ex : PySem.W.Frag → Bool) (w : World) (K : PySem.W.Frag) : Prop where
  t : He.SaysT fa fn ts w K
  more : ex K = true
theorem frB_in {h : Heap} {n : Nat} {xs : List Addr} : (frB h.get? n xs).In h := He.frG_in
theorem saysB_of {n : Nat} {xs : List Addr} {fa : List He.Fa} {fn : List He.DefD} {ts : List He.Tab} {ex : PySem.W.Frag → Bool} {w : World} {h : Heap} (e : obsB n xs fa fn ts ex h.get? = valB fn ts w) : SaysB fa fn ts ex w (frB h.get? n xs) :=
  ⟨congrArg (fun z : AlB => z.1) e, congrArg (fun z : AlB => z.2) e⟩
def hookB (n : Nat) (xs : List Addr) (fa : List He.Fa) (fn : List He.DefD) (ts : List He.Tab) (ex : PySem.W.Frag → Bool) : PySem.W.Hook where
  α := AlB
  obs := fun s => obsB n xs fa fn ts ex s.heap.get?
  val := fun w => valB fn ts w
  says := fun w h => ∃ K : PySem.W.Frag, K.In h ∧ SaysB fa fn ts ex w K
  of := fun _ _ e => ⟨_, frB_in, saysB_of e⟩
  keeps := fun _ _ _ ⟨K, hK, c⟩ k => ⟨K, PySem.W.Frag.In.keeps hK k, c⟩
theorem obsB_eq {n : Nat} {xs : List Addr} {fa : List He.Fa} {fn : List He.DefD} {ts : List He.Tab} {ex : PySem.W.Frag → Bool} {g : Addr → Option Obj} {s : Shared} (h : ∀ a, g a = s.heap.get? a) : obsB n xs fa fn ts ex g = (hookB n xs fa fn ts ex).obs s := by
  have e : g = s.heap.get? := funext h
  rw [e] <;> rfl
end M


namespace M
open PySem PySem.Spec PyProof.Rows L2 L2H SlX
/-! ### what the head tells of classes: own exceptions, slots, properties -/
/-- an own exception x whose __init__ (st) calls super().__init__ -/
structure SuD where
  x : Str
  st : Stmt
  qual : Str
  B : String
  newId : String
  i : String
  bm : List Value
  fs : List Str
abbrev SuV : Type := Option (Str × Str × Arguments × FuncBody × Scope × Addr × List Str × Addr)
def SuD.C (K : PySem.W.Frag) (d : SuD) : Addr := He.ga K d.x
def SuD.f (K : PySem.W.Frag) (d : SuD) : Addr := He.ma K (He.ga K d.x) "__init__"
def SuD.obs (K : PySem.W.Frag) (d : SuD) : SuV := match K.lookup (d.f K) with
  | some ⟨_, _, .func fd, _⟩ => some (fd.name, fd.qualname, fd.params, fd.body, fd.scope, fd.globals, fd.closure.map (·.1), fd.builtins)
  | _ => none
def SuD.val (d : SuD) : SuV := some ("__init__", d.qual, defArgs d.st, .stmts (defBody d.st), defScope d.st, mainGlobals, ["__class__"], builtinsNs)
def cellB (K : PySem.W.Frag) (C : Addr) : List (Str × Addr) → Bool
  | [q] => (match K.lookup q.2 with
    | some ⟨_, _, .cell (some (.ref C')), _⟩ => C' == C
    | _ => false)
  | _ => false
def fileB (K : PySem.W.Frag) (file : Str) : Value → Bool
  | .ref cda => (match K.lookup cda with
    | some ⟨_, _, .fields vs, _⟩ => (match (vs[2]? : Option Value) with
      | some (Value.str fl _) => file == fl
      | _ => false)
    | _ => false)
  | _ => false
def SuD.fnB (K : PySem.W.Frag) (file : Str) (d : SuD) : Bool := match K.lookup (d.f K) with
  | some ⟨_, _, .func fd, _⟩ => PySem.W.codeIn K fd.code d.qual && (cellB K (d.C K) fd.closure && fileB K file fd.code)
  | _ => false
def SuD.clB (K : PySem.W.Frag) (d : SuD) : Bool := PySem.W.excInitIn K (d.C K) d.bm d.newId && (decide (PySem.W.mroIn K (d.C K) (.ref (d.C K)) = some true) && (He.eqO (PySem.W.ks_superIn K (d.C K) (d.C K) "__init__") (some (some (.builtin d.i))) &&
  (decide (PySem.W.subIn K (.ref (d.C K)) (.type d.B) = some true) && (He.eqO (PySem.W.nsIn K PySem.cStatics "thirdparty.any") (some none) && (decide (PySem.W.subIn K (.ref (d.C K)) (.type "BaseException") = some true) &&
  (decide (PySem.W.typeIn K (.ref (d.C K)) = some (.type "type")) && (PySem.W.keepIn K (.ref (d.C K)) && (He.eqO (PySem.W.findIn K (.ref (d.C K)) "__init__") (some (some (.ref (d.f K)))) && (decide (PySem.W.typeIn K (.ref (d.f K)) = some (.type "function")) &&
  (d.fs.all fun f => He.eqO (PySem.W.findIn K (.ref (d.C K)) f) (some none)))))))))))
/-- .. directly below Exception -/
def SuD.exB (K : PySem.W.Frag) (d : SuD) : Bool := He.eqO (PySem.W.findIn K (.ref (d.C K)) "__setattr__") (some (some (.builtin "object.__setattr__"))) && ((PySem.W.clsIn K (d.C K)).any fun cd => decide (cd.mro = .ref (d.C K) :: PySem.ESX.exTail) && cd.hasDict)
theorem SuD.suDef {P : Program} {K : PySem.W.Frag} {d : SuD} (e : d.obs K = d.val) (c : d.fnB K P.main.file = true) : ∃ fd, SuDef P K d.qual d.st (d.f K) (d.C K) fd := by
  unfold SuD.fnB at c
  unfold SuD.obs at e
  cases q : K.lookup (d.f K) with
  | none => rw [q] at c; cases c
  | some o =>
    obtain ⟨oc, od, dt, osl⟩ := o
    rw [q] at c e
    cases dt with
    | func fd =>
      obtain ⟨n1, n2, n3, n4, n5, n6, n7, n8, n9, n10, n11, n12, n13, n14, n15⟩ := fd
      have e2 : (some (n1, n2, n3, n4, n5, n6, n7.map (·.1), n15) : SuV) = (some ("__init__", d.qual, defArgs d.st, .stmts (defBody d.st), defScope d.st, mainGlobals, ["__class__"], builtinsNs) : SuV) := e
      simp only [Option.some.injEq, Prod.mk.injEq] at e2
      obtain ⟨h1, h2, h3, h4, h5, h6, h7, h8⟩ := e2
      have c2 : (PySem.W.codeIn K n13 d.qual && (cellB K (d.C K) n7 && fileB K P.main.file n13)) = true := c
      obtain ⟨k1, k2⟩ := He.ba c2
      obtain ⟨k3, k4⟩ := He.ba k2
      subst h1 h2 h3 h4 h5 h6 h8
      match n7, h7, k3, q with
      | [(y, cc)], h7, k3, q =>
        have ey : y = ("__class__" : Str) := by simpa using h7
        subst ey
        have k3' : (match K.lookup cc with
          | some ⟨_, _, .cell (some (.ref C')), _⟩ => C' == d.C K
          | _ => false) = true := k3
        cases qc : K.lookup cc with
        | none => rw [qc] at k3'; cases k3'
        | some ob =>
          rw [qc] at k3'
          split at k3'
          · rename_i cl cld C' csl hob
            cases hob
            have eC : C' = d.C K := beq_iff_eq.mp k3'
            rw [eC] at qc
            cases n13 with
            | ref cda =>
              have k4' : (match K.lookup cda with
                | some ⟨_, _, .fields vs, _⟩ => (match (vs[2]? : Option Value) with
                  | some (Value.str fl _) => P.main.file == fl
                  | _ => false)
                | _ => false) = true := k4
              cases qd : K.lookup cda with
              | none => rw [qd] at k4'; cases k4'
              | some oo =>
                rw [qd] at k4'
                split at k4'
                · rename_i ccl cdd vs ccs hoo
                  cases hoo
                  split at k4'
                  · rename_i fl tf hv
                    exact ⟨_, ⟨oc, od, n8, n9, n10, n11, n12, .ref cda, n14, osl, cc, _, _, _, cda, _, _, vs, _, fl, tf, rfl, q, k1, qc, rfl, qd, hv, k4'⟩⟩
                  · cases k4'
                · cases k4'
            | _ => cases k4
          · cases k3'
    | _ => cases c
theorem SuD.xcls {K : PySem.W.Frag} {d : SuD} (fb : ExcBaseFacts d.B d.newId d.i d.bm) (kx : PySem.W.KxsFacts d.B d.i) (og : OexG K (d.C K)) (c : d.clB K = true) : XCls K (d.C K) (d.f K) d.B d.newId d.i d.bm d.fs := by
  obtain ⟨c1, c⟩ := He.ba c
  obtain ⟨c2, c⟩ := He.ba c
  obtain ⟨c3, c⟩ := He.ba c
  obtain ⟨c4, c⟩ := He.ba c
  obtain ⟨c5, c⟩ := He.ba c
  obtain ⟨c6, c⟩ := He.ba c
  obtain ⟨c7, c⟩ := He.ba c
  obtain ⟨c8, c⟩ := He.ba c
  obtain ⟨c9, c⟩ := He.ba c
  obtain ⟨c10, c11⟩ := He.ba c
  exact ⟨⟨fb, kx, c1, of_decide_eq_true c2, He.eqO_ok c3, of_decide_eq_true c4, He.eqO_ok c5⟩, og, of_decide_eq_true c6, of_decide_eq_true c7, c8, He.eqO_ok c9, of_decide_eq_true c10, fun f hf => He.eqO_ok (List.all_eq_true.mp c11 f hf)⟩
theorem SuD.oex {K : PySem.W.Frag} {d : SuD} (c : d.exB K = true) : OexG K (d.C K) := by
  obtain ⟨c1, c2⟩ := He.ba c
  cases q : PySem.W.clsIn K (d.C K) with
  | none => rw [q] at c2; cases c2
  | some cd =>
    rw [q] at c2
    obtain ⟨c3, c4⟩ := He.ba (show (decide (cd.mro = .ref (d.C K) :: PySem.ESX.exTail) && cd.hasDict) = true from c2)
    exact OexG.ex (He.eqO_ok c1) q (of_decide_eq_true c3) c4
/-! slots, properties -/
def sclB (K : PySem.W.Frag) (C : Addr) : Bool := PySem.W.plainGet K C Str.empty && (PySem.W.isClsIn K C && (PySem.W.plainOver K C && He.eqO (PySem.W.findIn K (.ref C) "__setattr__") (some (some (.builtin "object.__setattr__")))))
theorem sclB_ok {K : PySem.W.Frag} {C : Addr} (c : sclB K C = true) : SCls K C := by
  obtain ⟨c1, c⟩ := He.ba c
  obtain ⟨c2, c⟩ := He.ba c
  obtain ⟨c3, c4⟩ := He.ba c
  exact ⟨c1, c2, c3, He.eqO_ok c4⟩
def slotB (K : PySem.W.Frag) (C : Addr) (f : Str) (i : Nat) : Bool := He.eqO (PySem.W.findIn K (.ref C) f) (some (some (.ref (He.ma K C f)))) && (He.eqO (PySem.W.specialIn K (.ref (He.ma K C f)) "__get__") (some (some (.builtin "member_descriptor.__get__"))) &&
  (decide (PySem.W.takesIn K (.ref (He.ma K C f)) = some true) && (decide (PySem.W.typeIn K (.ref (He.ma K C f)) = some (.type "member_descriptor")) && (decide (PySem.W.slotIn K (He.ma K C f) C = some i) && decide (i < 1000)))))
theorem slotB_ok {K : PySem.W.Frag} {C : Addr} {f : Str} {i : Nat} (c : slotB K C f i = true) : Slot1 K C f (He.ma K C f) i := by
  obtain ⟨c1, c⟩ := He.ba c
  obtain ⟨c2, c⟩ := He.ba c
  obtain ⟨c3, c⟩ := He.ba c
  obtain ⟨c4, c⟩ := He.ba c
  obtain ⟨c5, c6⟩ := He.ba c
  exact ⟨He.eqO_ok c1, He.eqO_ok c2, of_decide_eq_true c3, of_decide_eq_true c4, of_decide_eq_true c5, of_decide_eq_true c6⟩
/-- the getter of a property -/
def pga (K : PySem.W.Frag) (C : Addr) (f : Str) : Addr := match PySem.W.recIn K (He.ma K C f) "property" with
  | some (.ref g :: _) => g
  | _ => 0
def propB (K : PySem.W.Frag) (C : Addr) (f : Str) : Bool := He.eqO (PySem.W.findIn K (.ref C) f) (some (some (.ref (He.ma K C f)))) && (He.eqO (PySem.W.specialIn K (.ref (He.ma K C f)) "__get__") (some (some (.builtin "property.__get__"))) &&
  (decide (PySem.W.takesIn K (.ref (He.ma K C f)) = some true) && (match PySem.W.recIn K (He.ma K C f) "property" with
    | some (.ref g :: _) => true
    | _ => false)))
theorem propB_ok {K : PySem.W.Frag} {C : Addr} {f : Str} (c : propB K C f = true) : PySem.W.findIn K (.ref C) f = some (some (.ref (He.ma K C f))) ∧ PySem.W.specialIn K (.ref (He.ma K C f)) "__get__" = some (some (.builtin "property.__get__")) ∧ PySem.W.takesIn K (.ref (He.ma K C f)) = some true ∧
    (∃ rest, PySem.W.recIn K (He.ma K C f) "property" = some (.ref (pga K C f) :: rest)) := by
  obtain ⟨c1, c⟩ := He.ba c
  obtain ⟨c2, c⟩ := He.ba c
  obtain ⟨c3, c4⟩ := He.ba c
  refine ⟨He.eqO_ok c1, He.eqO_ok c2, of_decide_eq_true c3, ?_⟩
  unfold pga
  split at c4
  · rename_i g rest hg
    rw [hg]
    exact ⟨rest, rfl⟩
  · cases c4
/-- a property's getter, looked at as a def -/
structure PrD where
  x : Str
  f : Str
  st : Stmt
  qual : Str
def PrD.g (K : PySem.W.Frag) (d : PrD) : Addr := pga K (He.ga K d.x) d.f
def PrD.obs (K : PySem.W.Frag) (d : PrD) : He.FnW := match K.lookup (d.g K) with
  | some ⟨_, _, .func fd, _⟩ => some (fd.name, fd.qualname, fd.params, fd.body, fd.scope, fd.globals, fd.closure, fd.builtins)
  | _ => none
def PrD.val (d : PrD) : He.FnW := some (d.f, d.qual, defArgs d.st, .stmts (defBody d.st), defScope d.st, mainGlobals, [], builtinsNs)
def PrD.ok (K : PySem.W.Frag) (d : PrD) : Bool := propB K (He.ga K d.x) d.f && (PySem.W.keepIn K (.ref (d.g K)) && (match K.lookup (d.g K) with
  | some ⟨_, _, .func fd, _⟩ => PySem.W.codeIn K fd.code d.qual && decide (fd.defaults = .none)
  | _ => false))
theorem PrD.funD {K : PySem.W.Frag} {d : PrD} (e : d.obs K = d.val) (c : d.ok K = true) : ∃ fd, FunD K d.f d.qual (defArgs d.st) (defBody d.st) (defScope d.st) [] [] (d.g K) fd := by
  obtain ⟨c0, c⟩ := He.ba c
  obtain ⟨kp, c2⟩ := He.ba c
  unfold PrD.obs at e
  cases q : K.lookup (d.g K) with
  | none => rw [q] at c2; cases c2
  | some o =>
    obtain ⟨oc, od, dt, osl⟩ := o
    rw [q] at c2 e
    cases dt with
    | func fd =>
      obtain ⟨n1, n2, n3, n4, n5, n6, n7, n8, n9, n10, n11, n12, n13, n14, n15⟩ := fd
      have e2 : (some (n1, n2, n3, n4, n5, n6, n7, n15) : He.FnW) = some (d.f, d.qual, defArgs d.st, .stmts (defBody d.st), defScope d.st, mainGlobals, [], builtinsNs) := e
      simp only [Option.some.injEq, Prod.mk.injEq] at e2
      obtain ⟨h1, h2, h3, h4, h5, h6, h7, h8⟩ := e2
      subst h1 h2 h3 h4 h5 h6 h7 h8
      have c3 : (PySem.W.codeIn K n13 d.qual && decide (n8 = .none)) = true := c2
      obtain ⟨k1, k2⟩ := He.ba c3
      exact ⟨_, ⟨oc, od, n8, n9, n10, n11, n12, n13, n14, osl, rfl, q, k1, .inl ⟨rfl, of_decide_eq_true k2⟩, .inl rfl⟩, kp⟩
    | _ => cases c2
/-! ### the Hook with these -/
abbrev AlC : Type := He.AlT × Bool × List SuV × List He.FnW
def obsC (n : Nat) (xs : List Addr) (fa : List He.Fa) (fn : List He.DefD) (ts : List He.Tab) (su : List SuD) (pr : List PrD) (ex : PySem.W.Frag → Bool) (g : Addr → Option Obj) : AlC := (fun K => (He.obsT fa fn ts K, ex K, su.map (SuD.obs K), pr.map (PrD.obs K))) (frB g n xs)
def valC (fn : List He.DefD) (ts : List He.Tab) (su : List SuD) (pr : List PrD) (w : World) : AlC := (He.valT fn ts w, true, su.map SuD.val, pr.map PrD.val)
structure SaysC (fa : List He.Fa) (fn : List He.DefD) (ts : List He.Tab) (su : List SuD) (pr : List PrD) (ex : PySem.W.Frag → Bool) (w : World) (K : PySem.W.Frag) : Prop where
  t : He.SaysT fa fn ts w K
  more : ex K = true
  su : su.map (SuD.obs K) = su.map SuD.val
  pr : pr.map (PrD.obs K) = pr.map PrD.val
section
variable {n : Nat} {xs : List Addr} {fa : List He.Fa} {fn : List He.DefD} {ts : List He.Tab} {su : List SuD} {pr : List PrD} {ex : PySem.W.Frag → Bool} {w : World}
theorem saysC_of {h : Heap} (e : obsC n xs fa fn ts su pr ex h.get? = valC fn ts su pr w) : SaysC fa fn ts su pr ex w (frB h.get? n xs) :=
  ⟨congrArg (fun z : AlC => z.1) e, congrArg (fun z : AlC => z.2.1) e, congrArg (fun z : AlC => z.2.2.1) e, congrArg (fun z : AlC => z.2.2.2) e⟩
def hookC (n : Nat) (xs : List Addr) (fa : List He.Fa) (fn : List He.DefD) (ts : List He.Tab) (su : List SuD) (pr : List PrD) (ex : PySem.W.Frag → Bool) : PySem.W.Hook where
  α := AlC
  obs := fun s => obsC n xs fa fn ts su pr ex s.heap.get?
  val := fun w => valC fn ts su pr w
  says := fun w h => ∃ K : PySem.W.Frag, K.In h ∧ SaysC fa fn ts su pr ex w K
  of := fun _ _ e => ⟨_, frB_in, saysC_of e⟩
  keeps := fun _ _ _ ⟨K, hK, c⟩ k => ⟨K, PySem.W.Frag.In.keeps hK k, c⟩
theorem obsC_eq {g : Addr → Option Obj} {s : Shared} (h : ∀ a, g a = s.heap.get? a) : obsC n xs fa fn ts su pr ex g = (hookC n xs fa fn ts su pr ex).obs s := by
  have e : g = s.heap.get? := funext h
  rw [e] <;> rfl
theorem SaysC.su_ {K : PySem.W.Frag} (c : SaysC fa fn ts su pr ex w K) (i : Nat) {d : SuD} (h : su[i]? = some d := by rfl) : d.obs K = d.val := by
  have e2 : (su.map (SuD.obs K))[i]? = (su.map SuD.val)[i]? := by rw [c.su]
  rw [List.getElem?_map, List.getElem?_map, h] at e2
  exact Option.some.inj e2
theorem SaysC.pr_ {K : PySem.W.Frag} (c : SaysC fa fn ts su pr ex w K) (i : Nat) {d : PrD} (h : pr[i]? = some d := by rfl) : d.obs K = d.val := by
  have e2 : (pr.map (PrD.obs K))[i]? = (pr.map PrD.val)[i]? := by rw [c.pr]
  rw [List.getElem?_map, List.getElem?_map, h] at e2
  exact Option.some.inj e2
end
end M


namespace M
open PySem PySem.Spec PyProof.Rows L2 L2H SlX
theorem allE {l : List Bool} (h : l.all id = true) (i : Nat) {b : Bool} (e : l[i]? = some b) : b = true := List.all_eq_true.mp h b (List.mem_of_getElem? e)
def noDf (K : PySem.W.Frag) (f : Addr) : Bool := match K.lookup f with
  | some ⟨_, _, .func fd, _⟩ => decide (fd.defaults = .none)
  | _ => false
abbrev PP : Program := PySem.Challenge.pw_modlink_k07_whole_events
def d_is_integer : He.DefD := ⟨("is_integer", none), "is_integer", "is_integer", defArgs s_is_integer, defBody s_is_integer, defScope s_is_integer, [], []⟩
def d_is_name : He.DefD := ⟨("is_name", none), "is_name", "is_name", defArgs s_is_name, defBody s_is_name, defScope s_is_name, [], []⟩
def d_blocks_of : He.DefD := ⟨("blocks_of", none), "blocks_of", "blocks_of", defArgs s_blocks_of, defBody s_blocks_of, defScope s_blocks_of, [], []⟩
def d_names_of : He.DefD := ⟨("names_of", none), "names_of", "names_of", defArgs s_names_of, defBody s_names_of, defScope s_names_of, [], []⟩
def d_expressions_of : He.DefD := ⟨("expressions_of", none), "expressions_of", "expressions_of", defArgs s_expressions_of, defBody s_expressions_of, defScope s_expressions_of, [], []⟩
def d_statements_in : He.DefD := ⟨("statements_in", none), "statements_in", "statements_in", defArgs s_statements_in, defBody s_statements_in, defScope s_statements_in, [], []⟩
def d_depth_of : He.DefD := ⟨("depth_of", none), "depth_of", "depth_of", defArgs s_depth_of, defBody s_depth_of, defScope s_depth_of, [], []⟩
def d_is_valid_expression : He.DefD := ⟨("is_valid_expression", none), "is_valid_expression", "is_valid_expression", defArgs s_is_valid_expression, defBody s_is_valid_expression, defScope s_is_valid_expression, [], []⟩
def d_is_valid_statement : He.DefD := ⟨("is_valid_statement", none), "is_valid_statement", "is_valid_statement", defArgs s_is_valid_statement, defBody s_is_valid_statement, defScope s_is_valid_statement, [], []⟩
def d_first_fault : He.DefD := ⟨("first_fault", none), "first_fault", "first_fault", defArgs s_first_fault, defBody s_first_fault, defScope s_first_fault, [], []⟩
def d_check_limit : He.DefD := ⟨("check_limit", none), "check_limit", "check_limit", defArgs s_check_limit, defBody s_check_limit, defScope s_check_limit, [], []⟩
def d_run : He.DefD := ⟨("run", none), "run", "run", defArgs s_run, defBody s_run, defScope s_run, [], [("limit", .int 12)]⟩
def d_law_mix : He.DefD := ⟨("_law_mix", none), "_law_mix", "_law_mix", defArgs s_law_mix, defBody s_law_mix, defScope s_law_mix, [], []⟩
def d_law_next : He.DefD := ⟨("_law_next", none), "_law_next", "_law_next", defArgs s_law_next, defBody s_law_next, defScope s_law_next, [], []⟩
def d_law_alike : He.DefD := ⟨("_law_alike", none), "_law_alike", "_law_alike", defArgs s_law_alike, defBody s_law_alike, defScope s_law_alike, [], []⟩
def d_law_name : He.DefD := ⟨("_law_name", none), "_law_name", "_law_name", defArgs s_law_name, defBody s_law_name, defScope s_law_name, [], []⟩
def d_law_names : He.DefD := ⟨("_law_names", none), "_law_names", "_law_names", defArgs s_law_names, defBody s_law_names, defScope s_law_names, [], []⟩
def d_law_integer : He.DefD := ⟨("_law_integer", none), "_law_integer", "_law_integer", defArgs s_law_integer, defBody s_law_integer, defScope s_law_integer, [], []⟩
def d_law_expr : He.DefD := ⟨("_law_expr", none), "_law_expr", "_law_expr", defArgs s_law_expr, defBody s_law_expr, defScope s_law_expr, [], []⟩
def d_law_load : He.DefD := ⟨("_law_load", none), "_law_load", "_law_load", defArgs s_law_load, defBody s_law_load, defScope s_law_load, [], []⟩
def d_law_statement : He.DefD := ⟨("_law_statement", none), "_law_statement", "_law_statement", defArgs s_law_statement, defBody s_law_statement, defScope s_law_statement, [], []⟩
def d_law_rows : He.DefD := ⟨("_law_rows", none), "_law_rows", "_law_rows", defArgs s_law_rows, defBody s_law_rows, defScope s_law_rows, [], []⟩
def d_law_first_rows : He.DefD := ⟨("_law_first_rows", none), "_law_first_rows", "_law_first_rows", defArgs s_law_first_rows, defBody s_law_first_rows, defScope s_law_first_rows, [], []⟩
def d_law_program : He.DefD := ⟨("_law_program", none), "_law_program", "_law_program", defArgs s_law_program, defBody s_law_program, defScope s_law_program, [], []⟩
def d_law_walked : He.DefD := ⟨("_law_walked", none), "_law_walked", "_law_walked", defArgs s_law_walked, defBody s_law_walked, defScope s_law_walked, [], []⟩
def d_law : He.DefD := ⟨("law", none), "law", "law", defArgs s_law, defBody s_law, defScope s_law, [], []⟩
def d_Outcome___init__ : He.DefD := ⟨("Outcome", some "__init__"), "__init__", "Outcome.__init__", defArgs s_Outcome___init__, defBody s_Outcome___init__, defScope s_Outcome___init__, [], []⟩
def d_Outcome_status : He.DefD := ⟨("Outcome", some "status"), "status", "Outcome.status", defArgs s_Outcome_status, defBody s_Outcome_status, defScope s_Outcome_status, [], []⟩
def d_World___init__ : He.DefD := ⟨("World", some "__init__"), "__init__", "World.__init__", defArgs s_World___init__, defBody s_World___init__, defScope s_World___init__, [], []⟩
def d_World_told_status : He.DefD := ⟨("World", some "told_status"), "told_status", "World.told_status", defArgs s_World_told_status, defBody s_World_told_status, defScope s_World_told_status, [], []⟩
def d_World_enter : He.DefD := ⟨("World", some "enter"), "enter", "World.enter", defArgs s_World_enter, defBody s_World_enter, defScope s_World_enter, [], []⟩
def d_World_leave : He.DefD := ⟨("World", some "leave"), "leave", "World.leave", defArgs s_World_leave, defBody s_World_leave, defScope s_World_leave, [], []⟩
def d_World_fail : He.DefD := ⟨("World", some "fail"), "fail", "World.fail", defArgs s_World_fail, defBody s_World_fail, defScope s_World_fail, [], []⟩
def d_World_meet : He.DefD := ⟨("World", some "meet"), "meet", "World.meet", defArgs s_World_meet, defBody s_World_meet, defScope s_World_meet, [], []⟩
def d_World_outcome : He.DefD := ⟨("World", some "outcome"), "outcome", "World.outcome", defArgs s_World_outcome, defBody s_World_outcome, defScope s_World_outcome, [], []⟩
def d_Interpreter___init__ : He.DefD := ⟨("Interpreter", some "__init__"), "__init__", "Interpreter.__init__", defArgs s_Interpreter___init__, defBody s_Interpreter___init__, defScope s_Interpreter___init__, [], []⟩
def d_Interpreter_refuse : He.DefD := ⟨("Interpreter", some "refuse"), "refuse", "Interpreter.refuse", defArgs s_Interpreter_refuse, defBody s_Interpreter_refuse, defScope s_Interpreter_refuse, [], []⟩
def d_Interpreter_take_block : He.DefD := ⟨("Interpreter", some "take_block"), "take_block", "Interpreter.take_block", defArgs s_Interpreter_take_block, defBody s_Interpreter_take_block, defScope s_Interpreter_take_block, [], []⟩
def d_Interpreter_read : He.DefD := ⟨("Interpreter", some "read"), "read", "Interpreter.read", defArgs s_Interpreter_read, defBody s_Interpreter_read, defScope s_Interpreter_read, [], []⟩
def d_Interpreter_value : He.DefD := ⟨("Interpreter", some "value"), "value", "Interpreter.value", defArgs s_Interpreter_value, defBody s_Interpreter_value, defScope s_Interpreter_value, [], []⟩
def d_Interpreter_bind : He.DefD := ⟨("Interpreter", some "bind"), "bind", "Interpreter.bind", defArgs s_Interpreter_bind, defBody s_Interpreter_bind, defScope s_Interpreter_bind, [], []⟩
def d_Interpreter_step : He.DefD := ⟨("Interpreter", some "step"), "step", "Interpreter.step", defArgs s_Interpreter_step, defBody s_Interpreter_step, defScope s_Interpreter_step, [], []⟩
def d_Interpreter_choice : He.DefD := ⟨("Interpreter", some "choice"), "choice", "Interpreter.choice", defArgs s_Interpreter_choice, defBody s_Interpreter_choice, defScope s_Interpreter_choice, [], []⟩
def d_Interpreter_go : He.DefD := ⟨("Interpreter", some "go"), "go", "Interpreter.go", defArgs s_Interpreter_go, defBody s_Interpreter_go, defScope s_Interpreter_go, [], []⟩
def d_Interpreter_attempt : He.DefD := ⟨("Interpreter", some "attempt"), "attempt", "Interpreter.attempt", defArgs s_Interpreter_attempt, defBody s_Interpreter_attempt, defScope s_Interpreter_attempt, [], []⟩
def d_Interpreter_call : He.DefD := ⟨("Interpreter", some "call"), "call", "Interpreter.call", defArgs s_Interpreter_call, defBody s_Interpreter_call, defScope s_Interpreter_call, [], []⟩
def d_Interpreter_block_of : He.DefD := ⟨("Interpreter", some "block_of"), "block_of", "Interpreter.block_of", defArgs s_Interpreter_block_of, defBody s_Interpreter_block_of, defScope s_Interpreter_block_of, [], []⟩
def d_Interpreter_load : He.DefD := ⟨("Interpreter", some "load"), "load", "Interpreter.load", defArgs s_Interpreter_load, defBody s_Interpreter_load, defScope s_Interpreter_load, [], []⟩
def d_Interpreter_bind_loaded : He.DefD := ⟨("Interpreter", some "bind_loaded"), "bind_loaded", "Interpreter.bind_loaded", defArgs s_Interpreter_bind_loaded, defBody s_Interpreter_bind_loaded, defScope s_Interpreter_bind_loaded, [], []⟩
def d_Program___init__ : He.DefD := ⟨("Program", some "__init__"), "__init__", "Program.__init__", defArgs s_Program___init__, defBody s_Program___init__, defScope s_Program___init__, [], []⟩
def d_Program___getitem__ : He.DefD := ⟨("Program", some "__getitem__"), "__getitem__", "Program.__getitem__", defArgs s_Program___getitem__, defBody s_Program___getitem__, defScope s_Program___getitem__, [], []⟩
def d_Program___contains__ : He.DefD := ⟨("Program", some "__contains__"), "__contains__", "Program.__contains__", defArgs s_Program___contains__, defBody s_Program___contains__, defScope s_Program___contains__, [], []⟩
def u_Failure : SuD := ⟨"Failure", s_Failure___init__, "Failure.__init__", "Exception", "Exception.__new__", "Exception.__init__", [.type "Exception", .type "BaseException", .type "object"], ["kind", "places"]⟩
def u_Stop : SuD := ⟨"Stop", s_Stop___init__, "Stop.__init__", "Exception", "Exception.__new__", "Exception.__init__", [.type "Exception", .type "BaseException", .type "object"], ["places"]⟩
def p_Outcome_ending : PrD := ⟨"Outcome", "ending", s_Outcome_ending, "Outcome.ending"⟩
def p_Outcome_events : PrD := ⟨"Outcome", "events", s_Outcome_events, "Outcome.events"⟩
def fn : List He.DefD := ([d_is_integer, d_is_name, d_blocks_of, d_names_of, d_expressions_of, d_statements_in, d_depth_of, d_is_valid_expression, d_is_valid_statement, d_first_fault, d_check_limit, d_run, d_law_mix, d_law_next, d_law_alike, d_law_name, d_law_names, d_law_integer, d_law_expr, d_law_load, d_law_statement, d_law_rows, d_law_first_rows, d_law_program, d_law_walked, d_law, d_Outcome___init__, d_Outcome_status, d_World___init__, d_World_told_status] : List He.DefD) ++ ([d_World_enter, d_World_leave, d_World_fail, d_World_meet, d_World_outcome, d_Interpreter___init__, d_Interpreter_refuse, d_Interpreter_take_block, d_Interpreter_read, d_Interpreter_value, d_Interpreter_bind, d_Interpreter_step, d_Interpreter_choice, d_Interpreter_go, d_Interpreter_attempt, d_Interpreter_call, d_Interpreter_block_of, d_Interpreter_load, d_Interpreter_bind_loaded, d_Program___init__, d_Program___getitem__, d_Program___contains__] : List He.DefD)
def fa : List He.Fa := ([.glo "is_integer", .glo "is_name", .glo "blocks_of", .glo "names_of", .glo "expressions_of", .glo "statements_in", .glo "depth_of", .glo "is_valid_expression", .glo "is_valid_statement", .glo "first_fault", .glo "check_limit", .glo "run", .glo "_law_mix", .glo "_law_next", .glo "_law_alike", .glo "_law_name", .glo "_law_names", .glo "_law_integer", .glo "_law_expr", .glo "_law_load", .glo "_law_statement", .glo "_law_rows", .glo "_law_first_rows", .glo "_law_program", .glo "_law_walked", .glo "law", .free "isinstance", .free "int", .free "bool", .free "str"] : List He.Fa) ++ ([.free "len", .free "max", .free "min", .free "range", .free "list", .free "tuple", .free "dict", .free "sorted", .free "enumerate", .free "super", .glo "Program", .glo "World", .glo "Outcome", .glo "Interpreter", .glo "Failure", .glo "Stop", .cls "Interpreter", .cls "World", .noat "Interpreter" "own_program", .noat "Interpreter" "world", .noat "Interpreter" "under", .noat "World" "left", .noat "World" "statuses", .noat "World" "bindings", .noat "World" "lines", .noat "World" "happened", .meth "Outcome" "__init__", .meth "Outcome" "status", .meth "World" "__init__", .meth "World" "told_status"] : List He.Fa) ++ ([.meth "World" "enter", .meth "World" "leave", .meth "World" "fail", .meth "World" "meet", .meth "World" "outcome", .meth "Interpreter" "__init__", .meth "Interpreter" "refuse", .meth "Interpreter" "take_block", .meth "Interpreter" "read", .meth "Interpreter" "value", .meth "Interpreter" "bind", .meth "Interpreter" "step", .meth "Interpreter" "choice", .meth "Interpreter" "go", .meth "Interpreter" "attempt", .meth "Interpreter" "call", .meth "Interpreter" "block_of", .meth "Interpreter" "load", .meth "Interpreter" "bind_loaded", .meth "Program" "__init__", .meth "Program" "__getitem__", .meth "Program" "__contains__", .mkr "Program", .mkr "World", .mkr "Outcome", .mkr "Interpreter", .exm "Failure" "Failure" true, .exm "Stop" "Failure" false, .exm "Stop" "Stop" true, .int "MAX_LETTERS" 8] : List He.Fa) ++ ([.int "MAX_MODULES" 8, .int "MAX_STATEMENTS" 60, .int "MAX_DEPTH" 3, .int "MAX_OPERATORS" 3, .int "TOO_LARGE" 1000000000000000000000000000000000000000000000000000000000000, .int "MAX_LIMIT" 30, .str "LETTERS" "abcdefghijklmnopqrstuvwxyz", .str "ABSENT" "absent", .str "RUNNING" "running", .str "DONE" "done", .str "STOPPED" "stopped", .glo "LOADS"] : List He.Fa)
def ts : List He.Tab := []
def su : List SuD := [u_Failure, u_Stop]
def pr : List PrD := [p_Outcome_ending, p_Outcome_events]
def exs (K : PySem.W.Frag) : List Bool := [sclB K (He.ga K "Program"),
  slotB K (He.ga K "Program") "own_names" 1,
  slotB K (He.ga K "Program") "own_blocks" 0,
  sclB K (He.ga K "Outcome"),
  slotB K (He.ga K "Outcome") "own_ending" 0,
  slotB K (He.ga K "Outcome") "own_shown" 2,
  slotB K (He.ga K "Outcome") "own_events" 1,
  slotB K (He.ga K "Outcome") "own_trail" 4,
  slotB K (He.ga K "Outcome") "own_spaces" 3,
  SuD.fnB K PP.main.file u_Failure,
  SuD.clB K u_Failure,
  SuD.exB K u_Failure,
  xfB K (He.ga K "Failure"),
  noDf K (SuD.f K u_Failure),
  SuD.fnB K PP.main.file u_Stop,
  SuD.clB K u_Stop,
  SuD.exB K u_Stop,
  xfB K (He.ga K "Stop"),
  noDf K (SuD.f K u_Stop),
  PrD.ok K p_Outcome_ending,
  PrD.ok K p_Outcome_events,
  He.tupB K "LOADS" [.str "\x69mport", .str "from", .str "star"],
  PySem.W.fnIn K (He.ma K (He.ga K "Program") "__getitem__")]
def ex (K : PySem.W.Frag) : Bool := (exs K).all id
def nms : List PySem.Str := (["_wall", "LinkError", "InvalidProgram", "UnknownModule", "InvalidLimit", "LETTERS", "MAX_LETTERS", "MAX_MODULES", "MAX_STATEMENTS", "MAX_DEPTH", "MAX_OPERATORS", "TOO_LARGE", "LOADS", "is_integer", "is_name", "blocks_of", "names_of", "expressions_of", "statements_in", "depth_of", "is_valid_expression", "is_valid_statement", "first_fault", "ABSENT", "RUNNING", "DONE", "STOPPED", "Outcome", "World", "MAX_LIMIT"] : List PySem.Str) ++ (["Failure", "Stop", "Interpreter", "check_limit", "run", "Program", "_law_mix", "_law_next", "_law_alike", "_law_name", "_law_names", "_law_integer", "_law_expr", "_law_load", "_law_statement", "_law_rows", "_law_first_rows", "_law_program", "_law_walked"] : List PySem.Str)
abbrev R : PySem.W.OpenRow := PySem.W.OpenLaw.row PySem.Challenge.rw_modlink_k07_whole_events
abbrev hk : PySem.W.Hook := hookC 5 [PySem.cStatics] fa fn ts su pr ex
def ob (s : PySem.W.SharedT) : AlC := obsC 5 [PySem.cStatics] fa fn ts su pr ex (HandSHeadRun.getT s)
theorem ob_eq (s : PySem.W.SharedT) : ob s = hk.obs s.abs := obsC_eq (HandSHeadRun.getT_eq s)
def RunP (w : World) : Prop := HandSHeadRun.RunEq R (PySem.W.view R.prog [55]) hk ob 30000 nms w
theorem run_f (w : World) : RunP (w.withFollow "special-get-raises" false) := by intro os; kernel_rfl
theorem run_t (w : World) : RunP (w.withFollow "special-get-raises" true) := by intro os; kernel_rfl
theorem run (w : World) : RunP w := PySem.W.byRow2 "special-get-raises" (P := RunP) run_f run_t w
end M


namespace M
open PySem L2
/-! ### the draws -/
structure Drw (H : Hp) (h c : Addr) : Prop where
  ex : ∃ (st ix : Int) (cells : List Int), H h = some (.lst [.int st, .ref c, .int ix]) ∧ H c = some (.lst (cells.map V.int)) ∧ 0 ≤ st ∧ st < 2147483647 ∧ 0 ≤ ix ∧ cells.length ≤ 63
  ne : h ≠ c
theorem Drw.keep {H H' : Hp} {h c : Addr} (d : Drw H h c) {S : List Addr} (k : Keep S H H') (n1 : h ∉ S) (n2 : c ∉ S) : Drw H' h c := by
  obtain ⟨st, ix, cells, h1, h2, r⟩ := d.ex
  exact ⟨⟨st, ix, cells, k.obj _ _ n1 h1, k.obj _ _ n2 h2, r⟩, d.ne⟩
theorem Drw.k0 {H H' : Hp} {h c : Addr} (d : Drw H h c) (k : Keep [] H H') : Drw H' h c := d.keep k List.not_mem_nil List.not_mem_nil
def t_law_next (K : PySem.W.Frag)  : TS := (tSeq (tAsg (tOp (rIx K) (tOp (rAdd K) (tOp (rIx K) (tVar 0) (tC (.int 1))) (tLstX (tCons (tC (.int 0)) tNil))) (tOp rModI (tCB rInt1 (tCons (tOp (rIx K) (tVar 0) (tC (.int 2))) tNil)) (tCB rMax2 (tCons (tC (.int 1)) (tCons (tCB (rLen K) (tCons (tOp (rIx K) (tVar 0) (tC (.int 1))) tNil)) tNil))))) (gName 2))
  (tSeq (tIfS (tTest (tOp rGeI (tVar 2) (tOp rPowI (tC (.int 10)) (tC (.int 18))))) (tSeq (tAsg (tOp rDivI (tVar 2) (tVar 1)) (gSub (tOp (rIx K) (tVar 0) (tC (.int 1))) (tOp rModI (tCB rInt1 (tCons (tOp (rIx K) (tVar 0) (tC (.int 2))) tNil)) (tCB (rLen K) (tCons (tOp (rIx K) (tVar 0) (tC (.int 1))) tNil))) rSetL))
  (tRet (tOp rModI (tCB rInt1 (tCons (tVar 2) tNil)) (tVar 1)))) tNext)
  (tSeq (tAsg (tOp rModI (tCB rInt1 (tCons (tOp (rAdd K) (tOp (rAdd K) (tOp rMulI (tOp (rIx K) (tVar 0) (tC (.int 0))) (tC (.int 48271))) (tOp rMulI (tVar 2) (tC (.int 69621)))) (tC (.int 11))) tNil)) (tC (.int 2147483647))) (gSub (tVar 0) (tC (.int 0)) rSetL))
  (tSeq (tAsg (tOp (rAdd K) (tOp (rIx K) (tVar 0) (tC (.int 2))) (tC (.int 1))) (gSub (tVar 0) (tC (.int 2)) rSetL))
  (tRet (tOp rModI (tCB rInt1 (tCons (tOp rDivI (tOp (rIx K) (tVar 0) (tC (.int 0))) (tC (.int 7))) tNil)) (tVar 1)))))))
def n_law_next : List Str := ["_law_h", "_law_cap", "_law_cell"]
def sp_law_next (K : PySem.W.Frag) : Sp := fun vs H Q _ => ∃ h c cap, vs = [.ref h, .int cap] ∧ Drw H h c ∧ 0 < cap ∧ cap < 2 ^ 64 ∧ ∀ v H', 0 ≤ v → v < cap → Keep [h, c] H H' → Drw H' h c → Q (.int v) H'
theorem atI_lt {α : Type} {xs : List α} {i : Int} (h0 : 0 ≤ i) (h : i < xs.length) : ∃ v, xs[i.toNat]? = some v ∧ atI xs i = some v := by
  have e : i = ((i.toNat : Nat) : Int) := by omega
  have hl : i.toNat < xs.length := by omega
  refine ⟨xs[i.toNat], by simp [hl], ?_⟩
  conv => lhs; rw [e]
  exact atI_nat (by simp [hl])
theorem pure_law_next {K : PySem.W.Frag} (vs : List V) (H : Hp) (Q : VK) (E : XK) (h : sp_law_next K vs H Q E) : t_law_next K { nx := fun _ H' => Q .non H', rt := Q } (start n_law_next vs) H := by
  obtain ⟨h, c, cap, rfl, D, c0, c1, q⟩ := h
  show t_law_next K _ [some (.ref h), some (.int cap), none] H
  unfold t_law_next
  have sl := sl_eq
  obtain ⟨st, ix, cells, h1, h2, hs0, hs1, hi0, hl⟩ := D.ex
  row_readAll go
  refine v_ixL (SqL.of h1) rfl ?_
  refine v_mkL (by row_readAll ln) fun p1 H1 hp1 k1 h3 => ?_
  refine v_addL (k1.obj _ _ List.not_mem_nil h2) h3 (by simp; omega) fun p2 H2 hp2 k2 h4 => ?_
  have g1 := k2.obj _ _ List.not_mem_nil (k1.obj _ _ List.not_mem_nil h1)
  have g2 := k2.obj _ _ List.not_mem_nil (k1.obj _ _ List.not_mem_nil h2)
  refine v_ixL (SqL.of g1) rfl ?_
  row_readAll go
  refine v_ixL (SqL.of g1) rfl ?_
  refine v_lenL (SqL.of g2) ?_
  row_readAll go
  have em : ∃ m : Int, (if ((List.map V.int cells).length : Int) > 1 then ((List.map V.int cells).length : Int) else 1) = m ∧ 0 < m ∧ m ≤ cells.length + 1 ∧ (0 < cells.length → m = cells.length) := by
    refine ⟨_, rfl, ?_⟩
    simp only [List.length_map]
    split <;> omega
  obtain ⟨m, em, m0, m1, m2⟩ := em
  rw [em]
  refine ⟨m0, ?_⟩
  have hr0 := Int.emod_nonneg ix (show m ≠ 0 by omega)
  have hr1 := Int.emod_lt_of_pos ix m0
  have el : List.map V.int cells ++ [V.int 0] = (cells ++ [0]).map V.int := by simp
  rw [el] at h4
  obtain ⟨v, hv, ha⟩ := atI_lt (xs := (cells ++ [0]).map V.int) hr0 (by simp; omega)
  rw [List.getElem?_map] at hv
  cases hz : (cells ++ [0])[(ix % m).toNat]? with
  | none => rw [hz] at hv; cases hv
  | some z =>
  rw [hz] at hv
  cases hv
  refine v_ixL (SqL.of h4) ha ?_
  row_readAll go
  refine ⟨⟨by decide, by decide, by decide⟩, ?_⟩
  have k3 : KC [h, c] H H2 := ⟨(k1.trans k2).nil⟩
  refine ite_c (fun hc => ?_) (fun hc => ?_)
  · have hc' : (10 : Int) ^ 18 ≤ z := hc
    have hpos : 0 < cells.length := by
      rcases Nat.eq_zero_or_pos cells.length with e | e
      · have e2 : cells = [] := List.eq_nil_of_length_eq_zero e
        subst e2
        have e3 : (ix % m).toNat = 0 := by simp at m1; omega
        rw [e3] at hz
        simp at hz
        omega
      · exact e
    row_readAll go
    refine ⟨wide_div c0 (b := 64) (by omega) (by decide) (by decide), ?_⟩
    refine v_ixL (SqL.of g1) rfl ?_
    refine v_ixL (SqL.of g1) rfl ?_
    row_readAll go
    refine v_ixL (SqL.of g1) rfl ?_
    refine v_lenL (SqL.of g2) ?_
    row_readAll go
    have e5 : ((List.map V.int cells).length : Int) = m := by rw [List.length_map, m2 hpos]
    rw [e5]
    refine ⟨m0, ?_⟩
    refine v_setL (j := (ix % m).toNat) g2 ?_ fun H3 k4 g3 => ?_
    · rw [← List.length_map (f := V.int), ] at m2
      unfold ixN
      rw [if_pos hr0, if_pos (by rw [e5]; exact hr1)]
    row_readAll go
    refine ⟨c0, ?_⟩
    refine q _ H3 (Int.emod_nonneg _ (by omega)) (Int.emod_lt_of_pos _ c0) (k3.k.step k4 (by simp)) ⟨⟨st, ix, cells.set (ix % m).toNat (z / cap), k4.obj _ _ (by simp [D.ne]) g1, by rw [g3]; simp [List.map_set], hs0, hs1, hi0, by simpa using hl⟩, D.ne⟩
  · row_readAll go
    refine v_ixL (SqL.of g1) rfl ?_
    row_readAll go
    refine ⟨.inr ⟨by decide, by decide⟩, .inr ⟨by decide, by decide⟩, by decide, ?_⟩
    refine v_setL (j := 0) g1 rfl fun H3 k4 g3 => ?_
    row_readAll go
    refine v_ixL (SqL.of g3) rfl ?_
    row_readAll go
    refine v_setL (j := 2) g3 rfl fun H4 k5 g4 => ?_
    row_readAll go
    refine v_ixL (SqL.of g4) rfl ?_
    row_readAll go
    refine ⟨⟨by decide, by decide⟩, c0, ?_⟩
    refine q _ H4 (Int.emod_nonneg _ (by omega)) (Int.emod_lt_of_pos _ c0) ((k3.k.step k4 (by simp)).step k5 (by simp)) ⟨⟨_, _, cells, g4, k5.obj _ _ (by simp [Ne.symm D.ne]) (k4.obj _ _ (by simp [Ne.symm D.ne]) g2), Int.emod_nonneg _ (by omega), Int.emod_lt_of_pos _ (by omega), by omega, hl⟩, D.ne⟩
end M


namespace M
open PySem PySem.Spec L2
/-! ### names, well made data -/
def okN (x : Str) : Prop := 1 ≤ x.length ∧ x.length ≤ 8 ∧ ∀ c ∈ x.cps.toList, 97 ≤ c ∧ c ≤ 122
def okNB (x : Str) : Bool := decide (1 ≤ x.length) && decide (x.length ≤ 8) && x.cps.toList.all fun c => decide (97 ≤ c) && decide (c ≤ 122)
theorem okN_of {x : Str} (h : okNB x = true) : okN x := by
  unfold okNB at h
  simp only [Bool.and_eq_true, decide_eq_true_eq, List.all_eq_true] at h
  exact ⟨h.1.1, h.1.2, h.2⟩
theorem join_eq (sep : Str) (l : List Str) : Txt.join sep l = Str.join sep l := eq_of_beq (PyProof.Rows.join_plain_closes sep l)
theorem join_signs (l : List Nat) : Txt.join (Str.ofString "") (l.map fun k => (⟨#[k]⟩ : Str)) = ⟨l.toArray⟩ := by
  rw [join_eq, show Str.ofString "" = ⟨#[]⟩ by decide +kernel]
  exact PyProof.Rows.join_ones l
theorem okN.lay {x : Str} (h : okN x) : PyData.canLay0 (.str x) = true := by
  simp only [PyData.canLay0]
  unfold PySem.PyData.strOk
  rw [Array.all_eq_true_iff_forall_mem]
  intro c hc
  have := h.2.2 c (by simpa using hc)
  simp only [decide_eq_true_eq]
  omega
def okI (i : Int) : Prop := i.natAbs < 10 ^ 60
theorem okI.log {i : Int} (h : okI i) : i.natAbs.log2 < 200 := by
  unfold okI at h
  rcases Nat.eq_zero_or_pos i.natAbs with e | e
  · rw [e]; decide
  · exact (Nat.log2_lt (by omega)).mpr (Nat.lt_of_lt_of_le h (by decide))
def Ex.wf : Nat → Ex → Prop
  | _, .int i => okI i
  | _, .nm n => okN n
  | _, .of n a => okN n ∧ okN a
  | 0, .bin .. => False
  | d + 1, .bin _ l r => l.wf d ∧ r.wf d
theorem Ex.wf.mono : ∀ {e : Ex} {d d' : Nat}, e.wf d → d ≤ d' → e.wf d'
  | .int _, d, d', h, _ => by cases d <;> cases d' <;> exact h
  | .nm _, d, d', h, _ => by cases d <;> cases d' <;> exact h
  | .of _ _, d, d', h, _ => by cases d <;> cases d' <;> exact h
  | .bin _ l r, 0, _, h, _ => by exact h.elim
  | .bin _ l r, d + 1, 0, _, hd => by omega
  | .bin _ l r, d + 1, d' + 1, h, hd => by
    simp only [Ex.wf] at h ⊢
    exact ⟨h.1.mono (by omega), h.2.mono (by omega)⟩
theorem Ex.wf.dep : ∀ {e : Ex} {d : Nat}, e.wf d → e.dep ≤ d
  | .int _, _, _ => Nat.zero_le _
  | .nm _, _, _ => Nat.zero_le _
  | .of _ _, _, _ => Nat.zero_le _
  | .bin _ l r, 0, h => by exact h.elim
  | .bin _ l r, d + 1, h => by
    simp only [Ex.wf] at h
    have h1 := h.1.dep
    have h2 := h.2.dep
    simp only [Ex.dep]; omega
theorem Ex.wf.fits : ∀ {e : Ex} {d : Nat}, e.wf d → e.fits
  | .int i, d, h => by
    have h2 : okI i := by cases d <;> exact h
    have := h2.log
    simp only [Ex.fits]; omega
  | .nm _, _, _ => by simp only [Ex.fits]
  | .of _ _, _, _ => by simp only [Ex.fits]
  | .bin _ l r, 0, h => by exact h.elim
  | .bin _ l r, d + 1, h => by
    simp only [Ex.wf] at h
    simp only [Ex.fits]
    exact ⟨h.1.fits, h.2.fits⟩
theorem int_text_len {i : Int} (h : okI i) : (Str.ofString (toString i)).length ≤ 61 := by
  have key : ∀ n : Nat, n < 10 ^ 60 → (toString n).toList.length ≤ 60 := fun n hn => by
    show (Nat.repr n).toList.length ≤ 60
    unfold Nat.repr Nat.toDigits
    rw [String.toList_ofList]
    have := PySem.digitsCore_len_pow 10 (by decide) 60 (n + 1) n [] (by decide) hn
    simpa using this
  have el : ∀ s : String, (Str.ofString s).length = s.toList.length := fun s => by
    rw [Str.ofString_eq_toList]; simp [Str.length]
  rw [el]
  unfold okI at h
  cases i with
  | ofNat n =>
    have := key n h
    show (toString n).toList.length ≤ 61
    omega
  | negSucc n =>
    have := key (n + 1) h
    show ("-" ++ toString (n + 1)).toList.length ≤ 61
    rw [String.toList_append, List.length_append]
    have e1 : ("-" : String).toList.length = 1 := by decide
    omega
def exLen : Nat → Nat
  | 0 => 61
  | d + 1 => 2 * exLen d + 5
theorem exLen_ge : ∀ d, 61 ≤ exLen d
  | 0 => Nat.le_refl _
  | d + 1 => by have := exLen_ge d; simp only [exLen]; omega
theorem Ex.wf.len : ∀ {e : Ex} {d : Nat}, e.wf d → e.txt.length ≤ exLen d
  | .int i, d, h => by
    have h2 : okI i := by cases d <;> exact h
    have := int_text_len h2
    have := exLen_ge d
    simp only [Ex.txt]; omega
  | .nm n, d, h => by
    have h2 : okN n := by cases d <;> exact h
    have := h2.2.1
    have := exLen_ge d
    simp only [Ex.txt]; omega
  | .of n a, d, h => by
    have h2 : okN n ∧ okN a := by cases d <;> exact h
    have := h2.1.2.1
    have := h2.2.2.1
    have := exLen_ge d
    have e1 : (Str.ofString ".").length = 1 := by decide +kernel
    simp only [Ex.txt, str_len, e1]; omega
  | .bin s l r, 0, h => by exact h.elim
  | .bin s l r, d + 1, h => by
    simp only [Ex.wf] at h
    have h1 := h.1.len
    have h2 := h.2.len
    have e1 : (Str.ofString "(").length = 1 := by decide +kernel
    have e2 : (Str.ofString ")").length = 1 := by decide +kernel
    have e3 : (Str.ofString (if s = true then " + " else " < ")).length = 3 := by cases s <;> decide +kernel
    simp only [Ex.txt, str_len, e1, e2, e3, exLen]; omega
theorem Ex.wf.lay : ∀ {e : Ex} {d : Nat}, e.wf d → e.d.canLay0 = true ∧ e.d.depth ≤ d + 1
  | .int i, d, h => by simp [Ex.d, PyData.canLay0, PyData.depth]
  | .nm n, d, h => by
    have h2 : okN n := by cases d <;> exact h
    have := h2.lay
    simp only [PyData.canLay0] at this
    simp [Ex.d, PyData.canLay0, PyData.canLayAll0, PyData.depth, PyData.depthAll, this]
    decide +kernel
  | .of n a, d, h => by
    have h2 : okN n ∧ okN a := by cases d <;> exact h
    have h3 := h2.1.lay
    have h4 := h2.2.lay
    simp only [PyData.canLay0] at h3 h4
    simp [Ex.d, PyData.canLay0, PyData.canLayAll0, PyData.depth, PyData.depthAll, h3, h4]
    decide +kernel
  | .bin s l r, 0, h => by exact h.elim
  | .bin s l r, d + 1, h => by
    simp only [Ex.wf] at h
    obtain ⟨h1, h2⟩ := h.1.lay
    obtain ⟨h3, h4⟩ := h.2.lay
    have e : PyData.strOk (opW s) = true := by cases s <;> decide +kernel
    simp only [Ex.d, PyData.canLay0, PyData.canLayAll0, PyData.depth, PyData.depthAll, h1, h3, e]
    simp; omega
/-! statements -/
def kinds : List Str := ["absent", "any", "kind", "missing", "raised", "unbound"]
mutual
def Stm.wf : Stm → Prop
  | .set n e => okN n ∧ e.wf 3
  | .del n => okN n
  | .shw e => e.wf 3
  | .call e => e.wf 3
  | .raise => True
  | .imp m n => okN m ∧ okN n
  | .frm m w n => okN m ∧ okN w ∧ okN n
  | .star m => okN m
  | .fn n b => okN n ∧ wfL b
  | .ite e b o => e.wf 3 ∧ wfL b ∧ wfL o
  | .tri k b h => k ∈ kinds ∧ wfL b ∧ wfL h
def wfL : List Stm → Prop
  | [] => True
  | s :: r => s.wf ∧ wfL r
end
theorem wfL_iff : ∀ b : List Stm, wfL b ↔ ∀ s ∈ b, s.wf
  | [] => by simp [wfL]
  | s :: r => by simp [wfL, wfL_iff r]
mutual
theorem Stm.wf.fits : ∀ {s : Stm}, s.wf → s.fits
  | .set n e, h => by simp only [Stm.wf] at h; simp only [Stm.fits]; exact ⟨h.2.fits, by have := h.2.dep; omega⟩
  | .del n, _ => by simp only [Stm.fits]
  | .shw e, h => by simp only [Stm.wf] at h; simp only [Stm.fits]; exact ⟨h.fits, by have := h.dep; omega⟩
  | .call e, h => by simp only [Stm.wf] at h; simp only [Stm.fits]; exact ⟨h.fits, by have := h.dep; omega⟩
  | .raise, _ => by simp only [Stm.fits]
  | .imp m n, _ => by simp only [Stm.fits]
  | .frm m w n, _ => by simp only [Stm.fits]
  | .star m, _ => by simp only [Stm.fits]
  | .fn n b, h => by simp only [Stm.wf] at h; simp only [Stm.fits]; exact wfL_fits h.2
  | .ite e b o, h => by simp only [Stm.wf] at h; simp only [Stm.fits]; exact ⟨⟨h.1.fits, by have := h.1.dep; omega⟩, wfL_fits h.2.1, wfL_fits h.2.2⟩
  | .tri k b o, h => by simp only [Stm.wf] at h; simp only [Stm.fits]; exact ⟨wfL_fits h.2.1, wfL_fits h.2.2⟩
theorem wfL_fits : ∀ {b : List Stm}, wfL b → fitsL b
  | [], _ => by simp only [fitsL]
  | s :: r, h => by simp only [wfL] at h; simp only [fitsL]; exact ⟨h.1.fits, wfL_fits h.2⟩
end
theorem kinds_lay {k : Str} (h : k ∈ kinds) : PyData.strOk k = true := by
  unfold kinds at h
  simp only [List.mem_cons, List.not_mem_nil, or_false] at h
  rcases h with rfl | rfl | rfl | rfl | rfl | rfl <;> decide +kernel
theorem kinds_len {k : Str} (h : k ∈ kinds) : k.length ≤ 7 := by
  unfold kinds at h
  simp only [List.mem_cons, List.not_mem_nil, or_false] at h
  rcases h with rfl | rfl | rfl | rfl | rfl | rfl <;> decide +kernel
theorem okN.ok {x : Str} (h : okN x) : PyData.strOk x = true := by have := h.lay; simpa only [PyData.canLay0] using this
mutual
theorem Stm.wf.lay : ∀ {s : Stm}, s.wf → s.d.canLay0 = true ∧ s.d.depth ≤ 2 * s.dep + 6
  | .set n e, h => by
    simp only [Stm.wf] at h
    obtain ⟨h1, h2⟩ := h.2.lay
    have h3 := h.1.ok
    have e : PyData.strOk "set" = true := by decide +kernel
    simp only [Stm.d, Stm.dep, PyData.canLay0, PyData.canLayAll0, PyData.depth, PyData.depthAll, h1, h3, e]; simp; omega
  | .del n, h => by
    simp only [Stm.wf] at h
    have h3 := h.ok
    have e : PyData.strOk "del" = true := by decide +kernel
    simp only [Stm.d, Stm.dep, PyData.canLay0, PyData.canLayAll0, PyData.depth, PyData.depthAll, h3, e]; simp
  | .shw e, h => by
    simp only [Stm.wf] at h
    obtain ⟨h1, h2⟩ := h.lay
    have e : PyData.strOk "show" = true := by decide +kernel
    simp only [Stm.d, Stm.dep, PyData.canLay0, PyData.canLayAll0, PyData.depth, PyData.depthAll, h1, e]; simp; omega
  | .call e, h => by
    simp only [Stm.wf] at h
    obtain ⟨h1, h2⟩ := h.lay
    have e : PyData.strOk "call" = true := by decide +kernel
    simp only [Stm.d, Stm.dep, PyData.canLay0, PyData.canLayAll0, PyData.depth, PyData.depthAll, h1, e]; simp; omega
  | .raise, _ => by
    have e : PyData.strOk "raise" = true := by decide +kernel
    simp only [Stm.d, Stm.dep, PyData.canLay0, PyData.canLayAll0, PyData.depth, PyData.depthAll, e]; simp
  | .imp m n, h => by
    simp only [Stm.wf] at h
    have h3 := h.1.ok
    have h4 := h.2.ok
    have e : PyData.strOk "\x69mport" = true := by decide +kernel
    simp only [Stm.d, Stm.dep, PyData.canLay0, PyData.canLayAll0, PyData.depth, PyData.depthAll, h3, h4, e]; simp
  | .frm m w n, h => by
    simp only [Stm.wf] at h
    have h3 := h.1.ok
    have h4 := h.2.1.ok
    have h5 := h.2.2.ok
    have e : PyData.strOk "from" = true := by decide +kernel
    simp only [Stm.d, Stm.dep, PyData.canLay0, PyData.canLayAll0, PyData.depth, PyData.depthAll, h3, h4, h5, e]; simp
  | .star m, h => by
    simp only [Stm.wf] at h
    have h3 := h.ok
    have e : PyData.strOk "star" = true := by decide +kernel
    simp only [Stm.d, Stm.dep, PyData.canLay0, PyData.canLayAll0, PyData.depth, PyData.depthAll, h3, e]; simp
  | .fn n b, h => by
    simp only [Stm.wf] at h
    have h3 := h.1.ok
    obtain ⟨h1, h2⟩ := wfL_lay h.2
    have e : PyData.strOk "def" = true := by decide +kernel
    simp only [Stm.d, Stm.dep, PyData.canLay0, PyData.canLayAll0, PyData.depth, PyData.depthAll, h1, h3, e]; simp; omega
  | .ite e b o, h => by
    simp only [Stm.wf] at h
    obtain ⟨h5, h6⟩ := h.1.lay
    obtain ⟨h1, h2⟩ := wfL_lay h.2.1
    obtain ⟨h3, h4⟩ := wfL_lay h.2.2
    have e : PyData.strOk "if" = true := by decide +kernel
    simp only [Stm.d, Stm.dep, PyData.canLay0, PyData.canLayAll0, PyData.depth, PyData.depthAll, h1, h3, h5, e]; simp; omega
  | .tri k b o, h => by
    simp only [Stm.wf] at h
    have h5 := kinds_lay h.1
    obtain ⟨h1, h2⟩ := wfL_lay h.2.1
    obtain ⟨h3, h4⟩ := wfL_lay h.2.2
    have e : PyData.strOk "try" = true := by decide +kernel
    simp only [Stm.d, Stm.dep, PyData.canLay0, PyData.canLayAll0, PyData.depth, PyData.depthAll, h1, h3, h5, e]; simp; omega
theorem wfL_lay : ∀ {b : List Stm}, wfL b → PyData.canLayAll0 (blkD b) = true ∧ PyData.depthAll (blkD b) ≤ 2 * depL b + 6
  | [], _ => by simp [blkD, PyData.canLayAll0, PyData.depthAll]
  | s :: r, h => by
    simp only [wfL] at h
    obtain ⟨h1, h2⟩ := h.1.lay
    obtain ⟨h3, h4⟩ := wfL_lay h.2
    simp only [blkD, PyData.canLayAll0, PyData.depthAll, depL, h1, h3]; simp; omega
end
theorem wfL_LayB {b : List Stm} (h : wfL b) (d : depL b ≤ 20) : LayB b := by
  obtain ⟨h1, h2⟩ := wfL_lay h
  refine (shaped_iff _).mpr ?_
  simp only [PyData.canLay0, PyData.depth]
  exact ⟨h1, by omega⟩
theorem Stm.wf.headLen {s : Stm} (h : s.wf) : s.head.length ≤ 600 := by
  have L : exLen 3 = 523 := by decide
  cases s with
  | set n e => simp only [Stm.wf] at h; have h1 := h.1.2.1; have h2 := h.2.len; rw [L] at h2; have e1 : (Str.ofString "set ").length = 4 := by decide +kernel
               have e2 : (Str.ofString " = ").length = 3 := by decide +kernel
               simp only [Stm.head, str_len, e1, e2]; omega
  | del n => simp only [Stm.wf] at h; have h1 := h.2.1; have e1 : (Str.ofString "del ").length = 4 := by decide +kernel
             simp only [Stm.head, str_len, e1]; omega
  | shw e => simp only [Stm.wf] at h; have h2 := h.len; rw [L] at h2; have e1 : (Str.ofString "show").length = 4 := by decide +kernel
             have e2 : (Str.ofString " ").length = 1 := by decide +kernel
             simp only [Stm.head, str_len, e1, e2]; omega
  | call e => simp only [Stm.wf] at h; have h2 := h.len; rw [L] at h2; have e1 : (Str.ofString "call").length = 4 := by decide +kernel
              have e2 : (Str.ofString " ").length = 1 := by decide +kernel
              simp only [Stm.head, str_len, e1, e2]; omega
  | raise => have e1 : (Str.ofString "raise").length = 5 := by decide +kernel
             simp only [Stm.head, e1]; omega
  | imp m n => simp only [Stm.wf] at h; have h1 := h.1.2.1; have h2 := h.2.2.1; have e1 : (Str.ofString "\x69mport ").length = 7 := by decide +kernel
               have e2 : (Str.ofString " as ").length = 4 := by decide +kernel
               simp only [Stm.head, str_len, e1, e2]; omega
  | frm m w n => simp only [Stm.wf] at h; have h1 := h.1.2.1; have h2 := h.2.1.2.1; have h3 := h.2.2.2.1; have e1 : (Str.ofString "from ").length = 5 := by decide +kernel
                 have e2 : (Str.ofString " as ").length = 4 := by decide +kernel
                 have e3 : (Str.ofString " \x69mport ").length = 8 := by decide +kernel
                 simp only [Stm.head, str_len, e1, e2, e3]; omega
  | star m => simp only [Stm.wf] at h; have h1 := h.2.1; have e1 : (Str.ofString "from ").length = 5 := by decide +kernel
              have e2 : (Str.ofString " \x69mport *").length = 9 := by decide +kernel
              simp only [Stm.head, str_len, e1, e2]; omega
  | fn n b => simp only [Stm.wf] at h; have h1 := h.1.2.1; have e1 : (Str.ofString "def").length = 3 := by decide +kernel
              have e2 : (Str.ofString " ").length = 1 := by decide +kernel
              have e3 : (Str.ofString ":").length = 1 := by decide +kernel
              simp only [Stm.head, str_len, e1, e2, e3]; omega
  | ite e b o => simp only [Stm.wf] at h; have h2 := h.1.len; rw [L] at h2; have e1 : (Str.ofString "if ").length = 3 := by decide +kernel
                 have e3 : (Str.ofString ":").length = 1 := by decide +kernel
                 simp only [Stm.head, str_len, e1, e3]; omega
  | tri k b o => simp only [Stm.wf] at h; have h1 := kinds_len h.1; have e1 : (Str.ofString "try").length = 3 := by decide +kernel
                 have e2 : (Str.ofString " ").length = 1 := by decide +kernel
                 have e3 : (Str.ofString ":").length = 1 := by decide +kernel
                 simp only [Stm.head, str_len, e1, e2, e3]; omega
mutual
theorem Stm.wf.lineLen : ∀ {s : Stm} (ind : Str), s.wf → ∀ l ∈ s.lines ind, l.length ≤ ind.length + 2 * s.dep + 600
  | .set n e, ind, h, l, m => by have := h.headLen; simp only [Stm.lines, List.mem_singleton] at m; subst m; simp only [str_len]; omega
  | .del n, ind, h, l, m => by have := h.headLen; simp only [Stm.lines, List.mem_singleton] at m; subst m; simp only [str_len]; omega
  | .shw e, ind, h, l, m => by have := h.headLen; simp only [Stm.lines, List.mem_singleton] at m; subst m; simp only [str_len]; omega
  | .call e, ind, h, l, m => by have := h.headLen; simp only [Stm.lines, List.mem_singleton] at m; subst m; simp only [str_len]; omega
  | .raise, ind, h, l, m => by have := h.headLen; simp only [Stm.lines, List.mem_singleton] at m; subst m; simp only [str_len]; omega
  | .imp a b, ind, h, l, m => by have := h.headLen; simp only [Stm.lines, List.mem_singleton] at m; subst m; simp only [str_len]; omega
  | .frm a b c, ind, h, l, m => by have := h.headLen; simp only [Stm.lines, List.mem_singleton] at m; subst m; simp only [str_len]; omega
  | .star a, ind, h, l, m => by have := h.headLen; simp only [Stm.lines, List.mem_singleton] at m; subst m; simp only [str_len]; omega
  | .fn n b, ind, h, l, m => by
    have h0 := h.headLen
    simp only [Stm.wf] at h
    have e2 : (Str.ofString "  ").length = 2 := by decide +kernel
    simp only [Stm.lines, List.mem_append, List.mem_singleton] at m
    simp only [Stm.dep]
    rcases m with rfl | m
    · simp only [str_len]; omega
    · have := innerLen (ind ++ "  ") h.2 l m
      rw [str_len, e2] at this; omega
  | .ite e b o, ind, h, l, m => by
    have h0 := h.headLen
    simp only [Stm.wf] at h
    have e2 : (Str.ofString "  ").length = 2 := by decide +kernel
    have e3 : (Str.ofString "else:").length = 5 := by decide +kernel
    simp only [Stm.lines, List.mem_append, List.mem_singleton] at m
    simp only [Stm.dep]
    rcases m with ((rfl | m) | rfl) | m
    · simp only [str_len]; omega
    · have := innerLen (ind ++ "  ") h.2.1 l m
      rw [str_len, e2] at this; omega
    · simp only [str_len]; omega
    · have := innerLen (ind ++ "  ") h.2.2 l m
      rw [str_len, e2] at this; omega
  | .tri e b o, ind, h, l, m => by
    have h0 := h.headLen
    simp only [Stm.wf] at h
    have e2 : (Str.ofString "  ").length = 2 := by decide +kernel
    have e3 : (Str.ofString "except:").length = 7 := by decide +kernel
    simp only [Stm.lines, List.mem_append, List.mem_singleton] at m
    simp only [Stm.dep]
    rcases m with ((rfl | m) | rfl) | m
    · simp only [str_len]; omega
    · have := innerLen (ind ++ "  ") h.2.1 l m
      rw [str_len, e2] at this; omega
    · simp only [str_len]; omega
    · have := innerLen (ind ++ "  ") h.2.2 l m
      rw [str_len, e2] at this; omega
theorem innerLen : ∀ {b : List Stm} (ind : Str), wfL b → ∀ l ∈ inner ind b, l.length ≤ ind.length + 2 * depL b + 600
  | [], ind, _, l, m => by
    have e3 : (Str.ofString "pass").length = 4 := by decide +kernel
    simp only [inner, List.mem_singleton] at m; subst m; simp only [str_len]; omega
  | s :: r, ind, h, l, m => by
    simp only [wfL] at h
    simp only [inner, List.mem_append] at m
    simp only [depL]
    rcases m with m | m
    · have := h.1.lineLen ind l m; omega
    · have := linesLen ind h.2 l m; omega
theorem linesLen : ∀ {b : List Stm} (ind : Str), wfL b → ∀ l ∈ linesL ind b, l.length ≤ ind.length + 2 * depL b + 600
  | [], ind, _, l, m => by simp [linesL] at m
  | s :: r, ind, h, l, m => by
    simp only [wfL] at h
    simp only [linesL, List.mem_append] at m
    simp only [depL]
    rcases m with m | m
    · have := h.1.lineLen ind l m; omega
    · have := linesLen ind h.2 l m; omega
end
theorem wfL_small {b : List Stm} (h : wfL b) (d : depL b ≤ 20) (n : (linesL "" b).length ≤ 4000) : Small (linesL "" b) := by
  refine ⟨n, fun l m => ?_⟩
  have := linesLen "" h l m
  have e0 : (Str.ofString "").length = 0 := by decide +kernel
  omega
end M


namespace M
open PySem L2
def t_law_mix (K : PySem.W.Frag)  : TS := (tSeq (tAsg (tVar 1) (gName 2))
  (tSeq (tFor (iSeq K (tVar 0)) (gName 3) (tAsg (tOp rModI (tCB rInt1 (tCons (tOp (rAdd K) (tOp (rAdd K) (tOp rMulI (tVar 2) (tC (.int 48271))) (tOp rModI (tCB rInt1 (tCons (tVar 3) tNil)) (tC (.int 2147483629)))) (tC (.int 1))) tNil)) (tC (.int 2147483647))) (gName 2)))
  (tRet (tLstX (tCons (tVar 2) (tCons (tCB (rListOf K) (tCons (tVar 0) tNil)) (tCons (tC (.int 0)) tNil)))))))
def n_law_mix : List Str := ["_law_script", "_law_seed", "_law_state", "_law_cell"]
def sp_law_mix (K : PySem.W.Frag) : Sp := fun vs H Q _ => ∃ (a : Addr) (ns : List Int) (seed : Int), vs = [.ref a, .int seed] ∧ SqL K H a (ns.map V.int) ∧ ns.length ≤ 63 ∧ 0 ≤ seed ∧ seed < 2147483647 ∧ ∀ h c H', H h = none → H c = none → Keep [] H H' → Drw H' h c → Q (.ref h) H'
theorem pure_law_mix {K : PySem.W.Frag} (vs : List V) (H : Hp) (Q : VK) (E : XK) (h : sp_law_mix K vs H Q E) : t_law_mix K { nx := fun _ H' => Q .non H', rt := Q } (start n_law_mix vs) H := by
  obtain ⟨a, ns, seed, rfl, hs, hl, s0, s1, q⟩ := h
  show t_law_mix K _ [some (.ref a), some (.int seed), none, none] H
  unfold t_law_mix
  row_readAll go
  refine .inl ⟨⟨_, hs⟩, loop_L (xs := ns.map V.int) (fun i σ' H' => H' = H ∧ ∃ st x, σ' = [some (.ref a), some (.int seed), some (.int st), x] ∧ 0 ≤ st ∧ st < 2147483647) ⟨rfl, seed, none, rfl, s0, s1⟩ (fun i σ' H' _ ⟨e, _⟩ => by rw [e]; exact hs) ?_ ?_⟩
  · rintro i x σ' H' hx ⟨rfl, st, y, rfl, t0, t1⟩
    rw [List.getElem?_map] at hx
    cases hz : ns[i]? with
    | none => rw [hz] at hx; cases hx
    | some z =>
    rw [hz] at hx
    cases hx
    row_readAll go
    refine ⟨.inr ⟨by decide, by decide⟩, by decide, by decide, _, _, rfl, Int.emod_nonneg _ (by decide), Int.emod_lt_of_pos _ (by decide)⟩
  · rintro σ' H' ⟨rfl, st, y, rfl, t0, t1⟩
    row_readAll go
    refine v_listOf (.inl hs) fun l H1 h1 k1 g1 => ?_
    refine v_mkL (by row_readAll ln) fun p H2 h2 k2 g2 => ?_
    exact q p l H2 (k1.free h2) h1 (k1.trans k2) ⟨⟨st, 0, ns, g2, k2.obj _ _ List.not_mem_nil g1, t0, t1, by decide, hl⟩, fun e => by subst e; rw [h2] at g1; cases g1⟩
/-- a draw -/
theorem v_nx {K : PySem.W.Frag} {H : Hp} {Q : VK} {E : XK} {h c : Addr} {cap : Int} (D : Drw H h c) (c0 : 0 < cap) (c1 : cap < 2 ^ 64) (q : ∀ v H', 0 ≤ v → v < cap → Keep [h, c] H H' → Drw H' h c → Q (.int v) H') : sp_law_next K [.ref h, .int cap] H Q E := ⟨h, c, cap, rfl, D, c0, c1, q⟩
theorem Drw.ne1 {H : Hp} {h c p : Addr} (D : Drw H h c) (n : H p = none) : p ≠ h ∧ p ≠ c := by
  obtain ⟨st, ix, cells, h1, h2, _⟩ := D.ex
  exact ⟨fun e => (by subst e; rw [n] at h1; cases h1), fun e => (by subst e; rw [n] at h2; cases h2)⟩
def t_law_name (K : PySem.W.Frag)  : TS := (tSeq (tAsg (tLstX (tCons (tC (.str "set")) (tCons (tC (.str "as")) (tCons (tC (.str "\x69mport")) (tCons (tC (.str "from")) (tCons (tC (.str "pass")) (tCons (tC (.str "else")) (tCons (tC (.str "def")) (tCons (tC (.str "del")) (tCons (tC (.str "if")) (tCons (tC (.str "try")) (tCons (tC (.str "raise")) (tCons (tC (.str "any")) (tCons (tC (.str "star")) (tCons (tC (.str "of")) tNil))))))))))))))) (gName 1))
  (tSeq (tAsg (tC (.str "abcdefghijklmnopqrstuvwxyz")) (gName 2))
  (tSeq (tIfS (tTest (tOp (rEqX K) (tCall (sp_law_next K) [] E0 (tCons (tVar 0) (tCons (tC (.int 3)) tNil))) (tC (.int 0)))) (tRet (tOp (rIx K) (tVar 1) (tCall (sp_law_next K) [] E0 (tCons (tVar 0) (tCons (tC (.int 14)) tNil))))) tNext)
  (tRet (tM1 (rJoin K) (tC (.str "")) (tLc (iRng1 (tCons (tOp (rAdd K) (tC (.int 1)) (tCall (sp_law_next K) [] E0 (tCons (tVar 0) (tCons (tOp (rIx K) (tLstX (tCons (tC (.int 2)) (tCons (tC (.int 8)) tNil))) (tCall (sp_law_next K) [] E0 (tCons (tVar 0) (tCons (tC (.int 2)) tNil)))) tNil)))) tNil)) (gName 3) tYes (tOp (rIx K) (tVar 2) (tCall (sp_law_next K) [] E0 (tCons (tVar 0) (tCons (tC (.int 26)) tNil)))) [3]))))))
def n_law_name : List Str := ["_law_h", "_law_words", "_law_letters", "_law_k"]
def wordsL : List Str := ["set", "as", "\x69mport", "from", "pass", "else", "def", "del", "if", "try", "raise", "any", "star", "of"]
theorem wordsL_ok : ∀ x ∈ wordsL, okN x := fun x m => okN_of (List.all_eq_true.mp (show wordsL.all okNB = true by decide +kernel) x m)
def sp_law_name (K : PySem.W.Frag) : Sp := fun vs H Q _ => ∃ h c, vs = [.ref h] ∧ Drw H h c ∧ ∀ x H', okN x → Keep [h, c] H H' → Drw H' h c → Q (.str x) H'
theorem pure_law_name {K : PySem.W.Frag} (vs : List V) (H : Hp) (Q : VK) (E : XK) (h : sp_law_name K vs H Q E) : t_law_name K { nx := fun _ H' => Q .non H', rt := Q } (start n_law_name vs) H := by
  obtain ⟨h, c, rfl, D, q⟩ := h
  show t_law_name K _ [some (.ref h), none, none, none] H
  unfold t_law_name
  have sl := sl_eq
  row_readAll go
  refine v_mkL (by row_readAll ln) fun p1 H1 f1 k1 g1 => ?_
  row_readAll go
  refine v_nx (D.k0 k1) (by decide) (by decide) fun v H2 v0 v1 k2 D2 => ?_
  row_readAll go
  have np := D.ne1 f1
  have g2 := k2.obj _ _ (by simp [np.1, np.2]) g1
  have k12 : KC [h, c] H H2 := ⟨k1.nil.trans k2⟩
  refine ite_c (fun _ => ?_) (fun _ => ?_)
  · row_readAll go
    refine v_nx D2 (by decide) (by decide) fun w H3 w0 w1 k3 D3 => ?_
    have g3 := k3.obj _ _ (by simp [np.1, np.2]) g2
    obtain ⟨y, hy, ha⟩ := atI_lt (xs := wordsL.map V.str) w0 (by show w < 14; exact w1)
    rw [List.getElem?_map] at hy
    cases hz : wordsL[w.toNat]? with
    | none => rw [hz] at hy; cases hy
    | some z =>
    rw [hz] at hy
    cases hy
    refine v_ixL (xs := wordsL.map V.str) (SqL.of g3) ha ?_
    exact q z H3 (wordsL_ok z (List.mem_of_getElem? hz)) (k12.k.trans k3) D3
  · row_readAll go
    refine v_mkL (by row_readAll ln) fun p3 H3 f3 k3 g3 => ?_
    have D3 := D2.k0 k3
    refine v_nx D3 (by decide) (by decide) fun w H4 w0 w1 k4 D4 => ?_
    have np3 := D2.ne1 f3
    have g4 := k4.obj _ _ (by simp [np3.1, np3.2]) g3
    have hw : w = 0 ∨ w = 1 := by omega
    have h8 : ∃ m : Int, atI [V.int 2, V.int 8] w = some (.int m) ∧ 0 < m ∧ m ≤ 8 := by
      rcases hw with rfl | rfl
      · exact ⟨2, rfl, by decide, by decide⟩
      · exact ⟨8, rfl, by decide, by decide⟩
    obtain ⟨m, hm, m0, m8⟩ := h8
    refine v_ixL (SqL.of g4) hm ?_
    refine v_nx D4 m0 (by omega) fun u H5 u0 u1 k5 D5 => ?_
    row_readAll go
    refine ⟨by omega, by omega, ?_⟩
    refine comp_gen (1 + u).toNat (fun Dd i H' => ∃ l : List Nat, H' Dd = some (.lst (l.map fun k => V.str ⟨#[k]⟩)) ∧ l.length = i ∧ (∀ k ∈ l, 97 ≤ k ∧ k ≤ 122) ∧ Keep [h, c] H5 H' ∧ Drw H' h c) ?_ ?_ ?_ ?_ ?_
    · exact fun Dd H6 _ k6 g6 => ⟨[], g6, rfl, by simp, k6.nil, D5.k0 k6⟩
    · exact fun Dd H6 _ => Nat.le_refl _
    · exact fun Dd i H6 hi _ => hi
    · rintro Dd i H6 x H7 fD hi ⟨l, gl, ll, lo, k6, D6⟩ ⟨rfl, rfl⟩
      row_readAll go
      refine v_nx D6 (by decide) (by decide) fun w H8 w0 w1 k8 D8 => ?_
      have npD := D5.ne1 fD
      have e26 : (Str.ofString "abcdefghijklmnopqrstuvwxyz").cps.toList = [97,98,99,100,101,102,103,104,105,106,107,108,109,110,111,112,113,114,115,116,117,118,119,120,121,122] := by decide +kernel
      obtain ⟨y, hy, ha⟩ := atI_lt (xs := (Str.ofString "abcdefghijklmnopqrstuvwxyz").cps.toList) w0 (by rw [e26]; show w < 26; exact w1)
      refine v_ixS (by rw [sl]; decide +kernel) ha ?_
      have gl8 := k8.obj _ _ (by simp [npD.1, npD.2]) gl
      have hyr : 97 ≤ y ∧ y ≤ 122 := by
        have hm := List.mem_of_getElem? hy
        rw [e26] at hm
        simp only [List.mem_cons, List.not_mem_nil, or_false] at hm
        omega
      refine ⟨_, gl8, by simp; omega, l ++ [y], by rw [upd_same]; simp, by simp [ll], ?_, (k6.trans k8).step1 (Keep.put gl8 True.intro) fD, D8.keep (Keep.put gl8 True.intro) (by simp [Ne.symm npD.1]) (by simp [Ne.symm npD.2])⟩
      intro k hk
      simp only [List.mem_append, List.mem_singleton] at hk
      rcases hk with hk | rfl
      · exact lo k hk
      · exact hyr
    · rintro Dd H6 fD ⟨l, gl, ll, lo, k6, D6⟩
      have e9 : (l.map fun k => V.str ⟨#[k]⟩) = (l.map fun k => (⟨#[k]⟩ : Str)).map V.str := by simp
      rw [e9] at gl
      have e0 : (Str.ofString "").length = 0 := by decide +kernel
      have e1 : ((l.map fun k => (⟨#[k]⟩ : Str)).map (·.length)).sum = l.length := by
        clear gl ll lo e9
        induction l with
        | nil => rfl
        | cons x r ih => simp only [List.map_cons, List.sum_cons, ih, List.length_cons]; show 1 + _ = _; omega
      refine v_join (SqL.of gl) (by rw [e1, e0]; omega) ?_
      rw [join_signs]
      exact q _ H6 ⟨by show 1 ≤ l.toArray.size; simp; omega, by show l.toArray.size ≤ 8; simp; omega, by simpa using lo⟩ ((((k12.k.trans k3.nil).trans k4).trans k5).trans k6) D6
end M


namespace M
open PySem L2
def t_law_names (K : PySem.W.Frag)  : TS := (tSeq (tAsg (tLstX tNil) (gName 2))
  (tSeq (tFor (iRng1 (tCons (tOp (rAdd K) (tC (.int 1)) (tCall (sp_law_next K) [] E0 (tCons (tVar 0) (tCons (tVar 1) tNil)))) tNil)) (gName 3) (tSeq (tAsg (tCall (sp_law_name K) [] E0 (tCons (tVar 0) tNil)) (gName 4))
  (tIfS (tTest (tOp (rNotInX K) (tVar 4) (tVar 2))) (tDrop (tBM K "list" rAppend (tVar 2) (tCons (tVar 4) tNil))) tNext)))
  (tRet (tVar 2))))
def n_law_names : List Str := ["_law_h", "_law_many", "_law_found", "_law_k", "_law_name_here"]
theorem v_nm {K : PySem.W.Frag} {H : Hp} {Q : VK} {E : XK} {h c : Addr} (D : Drw H h c) (q : ∀ x H', okN x → Keep [h, c] H H' → Drw H' h c → Q (.str x) H') : sp_law_name K [.ref h] H Q E := ⟨h, c, rfl, D, q⟩
def sp_law_names (K : PySem.W.Frag) : Sp := fun vs H Q _ => ∃ h c many, vs = [.ref h, .int many] ∧ Drw H h c ∧ 0 < many ∧ many ≤ 1000 ∧ ∀ p (names : List Str) H', H p = none → names ≠ [] → (names.length : Int) ≤ many → (∀ x ∈ names, okN x) → names.Nodup → H' p = some (.lst (names.map V.str)) → Keep [h, c] H H' → Drw H' h c → Q (.ref p) H'
theorem pure_law_names {K : PySem.W.Frag} (vs : List V) (H : Hp) (Q : VK) (E : XK) (h : sp_law_names K vs H Q E) : t_law_names K { nx := fun _ H' => Q .non H', rt := Q } (start n_law_names vs) H := by
  obtain ⟨h, c, many, rfl, D, m0, m1, q⟩ := h
  show t_law_names K _ [some (.ref h), some (.int many), none, none, none] H
  unfold t_law_names
  have sl := sl_eq
  row_readAll go
  refine v_mkL (by row_readAll ln) fun p H1 f1 k1 g1 => ?_
  have np := D.ne1 f1
  have D1 := D.k0 k1
  row_readAll go
  refine v_nx D1 m0 (by omega) fun u H2 u0 u1 k2 D2 => ?_
  have g2 := k2.obj _ _ (by simp [np.1, np.2]) g1
  row_readAll go
  refine ⟨by omega, by omega, ?_⟩
  refine loop_R (fun i σ' H' => ∃ (names : List Str) (x y : Option V), σ' = [some (.ref h), some (.int many), some (.ref p), x, y] ∧ H' p = some (.lst (names.map V.str)) ∧ (∀ x ∈ names, okN x) ∧ names.length ≤ i ∧ (0 < i → names ≠ []) ∧ names.Nodup ∧ Keep [h, c] H H' ∧ Drw H' h c) ⟨[], none, none, rfl, g2, by simp, Nat.le_refl _, fun h => absurd h (Nat.lt_irrefl _), by simp, k1.nil.trans k2, D2⟩ ?_ ?_
  · rintro i σ' H' hi ⟨names, x, y, rfl, gp, ok, ln, ne, nd, k, D'⟩
    row_readAll go
    refine v_nm D' fun z H3 oz k3 D3 => ?_
    have g3 := k3.obj _ _ (by simp [np.1, np.2]) gp
    row_readAll go
    refine v_ninL (SqL.of g3) ?_
    row_readAll go
    by_cases hz : z ∈ names
    · refine ite_nd hz ?_
      exact ⟨names, _, _, rfl, g3, ok, by omega, fun _ e => (by rw [e] at hz; cases hz), nd, k.trans k3, D3⟩
    · refine ite_nn hz ?_
      row_readAll go
      refine ⟨.inl ⟨rfl, _, SqL.of g3⟩, v_append g3 (by simp; omega) fun H4 k4 g4 => ?_⟩
      rw [← map_str_append_one] at g4
      refine ⟨names ++ [z], _, _, rfl, g4, ?_, by simp; omega, by simp, List.nodup_append.mpr ⟨nd, by simp, by intro a ha b hb e; simp at hb; subst e; subst hb; exact hz ha⟩, k.step ((k3.step1' k4)) (by intro a m; simp at m; rcases m with rfl | rfl | rfl <;> simp [f1]), D3.keep k4 (by simp [Ne.symm np.1]) (by simp [Ne.symm np.2])⟩
      intro a m
      simp only [List.mem_append, List.mem_singleton] at m
      rcases m with m | rfl
      · exact ok a m
      · exact oz
  · rintro σ' H' ⟨names, x, y, rfl, gp, ok, ln, ne, nd, k, D'⟩
    row_readAll go
    exact q p names H' f1 (ne (by omega)) (by omega) ok nd gp k D'
def t_law_integer (K : PySem.W.Frag)  : TS := (tSeq (tAsg (tCall (sp_law_next K) [] E0 (tCons (tVar 0) (tCons (tC (.int 7)) tNil))) (gName 1))
  (tSeq (tIfS (tTest (tOp rLtI (tVar 1) (tC (.int 3)))) (tRet (tVar 1)) tNext)
  (tSeq (tIfS (tTest (tOp (rEqX K) (tVar 1) (tC (.int 3)))) (tRet (tOp rSubI (tOp rSubI (tOp rPowI (tC (.int 10)) (tC (.int 60))) (tC (.int 1))) (tCall (sp_law_next K) [] E0 (tCons (tVar 0) (tCons (tC (.int 3)) tNil))))) tNext)
  (tRet (tOp rMulI (tOp (rIx K) (tLstX (tCons (tC (.int 1)) (tCons (tUn rNegI (tC (.int 1))) tNil))) (tCall (sp_law_next K) [] E0 (tCons (tVar 0) (tCons (tC (.int 2)) tNil)))) (tCall (sp_law_next K) [] E0 (tCons (tVar 0) (tCons (tOp (rIx K) (tLstX (tCons (tC (.int 10)) (tCons (tC (.int 1000)) (tCons (tOp rPowI (tC (.int 10)) (tC (.int 17))) tNil)))) (tOp rSubI (tVar 1) (tC (.int 4)))) tNil))))))))
def n_law_integer : List Str := ["_law_h", "_law_kind"]
def sp_law_integer (K : PySem.W.Frag) : Sp := fun vs H Q _ => ∃ h c, vs = [.ref h] ∧ Drw H h c ∧ ∀ i H', okI i → Keep [h, c] H H' → Drw H' h c → Q (.int i) H'
theorem pure_law_integer {K : PySem.W.Frag} (vs : List V) (H : Hp) (Q : VK) (E : XK) (h : sp_law_integer K vs H Q E) : t_law_integer K { nx := fun _ H' => Q .non H', rt := Q } (start n_law_integer vs) H := by
  obtain ⟨h, c, rfl, D, q⟩ := h
  show t_law_integer K _ [some (.ref h), none] H
  unfold t_law_integer
  row_readAll go
  refine v_nx D (by decide) (by decide) fun u H1 u0 u1 k1 D1 => ?_
  row_readAll go
  refine ite_c (fun h3 => ?_) (fun h3 => ?_)
  · row_readAll go
    exact q u H1 (by unfold okI; omega) k1 D1
  row_readAll go
  refine ite_c (fun h4 => ?_) (fun h4 => ?_)
  · row_readAll go
    refine ⟨⟨by decide, by decide, by decide⟩, v_nx D1 (by decide) (by decide) fun w H2 w0 w1 k2 D2 => ?_⟩
    row_readAll go
    refine q _ H2 ?_ (k1.trans k2) D2
    have e : (10 : Int) ^ (60 : Int).toNat = 10 ^ 60 := rfl
    rw [e]; unfold okI; omega
  row_readAll go
  refine v_mkL (by row_readAll ln) fun p2 H2 f2 k2 g2 => ?_
  refine v_nx (D1.k0 k2) (by decide) (by decide) fun w H3 w0 w1 k3 D3 => ?_
  have np := D1.ne1 f2
  have g3 := k3.obj _ _ (by simp [np.1, np.2]) g2
  have hw : w = 0 ∨ w = 1 := by omega
  have h8 : ∃ m : Int, atI [V.int 1, V.int (-1)] w = some (.int m) ∧ (m = 1 ∨ m = -1) := by
    rcases hw with rfl | rfl
    · exact ⟨1, rfl, .inl rfl⟩
    · exact ⟨-1, rfl, .inr rfl⟩
  obtain ⟨m, hm, m1⟩ := h8
  refine v_ixL (SqL.of g3) hm ?_
  refine ⟨⟨by decide, by decide, by decide⟩, v_mkL (by row_readAll ln) fun p4 H4 f4 k4 g4 => ?_⟩
  row_readAll go
  have e17 : (10 : Int) ^ (17 : Int).toNat = 10 ^ 17 := rfl
  rw [e17] at g4
  have h9 : ∃ m : Int, atI [V.int 10, V.int 1000, V.int (10 ^ 17)] (u - 4) = some (.int m) ∧ 0 < m ∧ m ≤ 10 ^ 17 := by
    have : u = 4 ∨ u = 5 ∨ u = 6 := by omega
    rcases this with rfl | rfl | rfl
    · exact ⟨10, rfl, by decide, by decide⟩
    · exact ⟨1000, rfl, by decide, by decide⟩
    · exact ⟨10 ^ 17, rfl, by decide, by decide⟩
  obtain ⟨b, hb, b0, b1⟩ := h9
  refine v_ixL (SqL.of g4) hb ?_
  refine v_nx (D3.k0 k4) b0 (by omega) fun z H5 z0 z1 k5 D5 => ?_
  row_readAll go
  refine ⟨.inl (by rcases m1 with rfl | rfl <;> exact ⟨by decide, by decide⟩), ?_⟩
  refine q _ H5 ?_ ((((k1.trans k2.nil).trans k3).trans k4.nil).trans k5) D5
  unfold okI
  rcases m1 with rfl | rfl <;> omega
end M


namespace M
open PySem L2
/-- a list of names beside a source of draws -/
structure NL (H : Hp) (h c nl : Addr) (names : List Str) : Prop where
  at_ : H nl = some (.lst (names.map V.str))
  ne : names ≠ []
  few : names.length ≤ 1000
  ok : ∀ x ∈ names, okN x
  n1 : nl ≠ h
  n2 : nl ≠ c
theorem NL.keep {H H' : Hp} {h c nl : Addr} {names : List Str} (n : NL H h c nl names) (k : Keep [h, c] H H') : NL H' h c nl names := ⟨k.obj _ _ (by simp [n.n1, n.n2]) n.at_, n.ne, n.few, n.ok, n.n1, n.n2⟩
theorem NL.k0 {H H' : Hp} {h c nl : Addr} {names : List Str} (n : NL H h c nl names) (k : Keep [] H H') : NL H' h c nl names := n.keep k.nil
theorem NL.pos {H : Hp} {h c nl : Addr} {names : List Str} (n : NL H h c nl names) : 0 < ((names.map V.str).length : Int) := by
  have := List.length_pos_iff.mpr n.ne
  simp; omega
/-- names[next(h, len(names))] -/
theorem NL.draw {K : PySem.W.Frag} {H : Hp} {Q : VK} {E : XK} {h c nl : Addr} {names : List Str} (N : NL H h c nl names) (D : Drw H h c) (q : ∀ x H', x ∈ names → okN x → Keep [h, c] H H' → Drw H' h c → NL H' h c nl names → Q (.str x) H') :
    rLen K [.ref nl] H fun x H1 => sp_law_next K [.ref h, x] H1 (fun y H2 => rIx K (.ref nl) y H2 Q) E := by
  refine v_lenL (SqL.of N.at_) ?_
  have f := N.few
  refine v_nx D N.pos (by simp; omega) fun v H1 v0 v1 k1 D1 => ?_
  have N1 := N.keep k1
  obtain ⟨y, hy, ha⟩ := atI_lt (xs := names.map V.str) v0 v1
  rw [List.getElem?_map] at hy
  cases hz : names[v.toNat]? with
  | none => rw [hz] at hy; cases hy
  | some z =>
  rw [hz] at hy
  cases hy
  exact v_ixL (SqL.of N1.at_) ha (q z H1 (List.mem_of_getElem? hz) (N.ok z (List.mem_of_getElem? hz)) k1 D1 N1)
theorem v_li {K : PySem.W.Frag} {H : Hp} {Q : VK} {E : XK} {h c : Addr} (D : Drw H h c) (q : ∀ i H', okI i → Keep [h, c] H H' → Drw H' h c → Q (.int i) H') : sp_law_integer K [.ref h] H Q E := ⟨h, c, rfl, D, q⟩
def Ex.over (ns : List Str) : Ex → Prop
  | .int _ => True
  | .nm n => n ∈ ns
  | .of n a => n ∈ ns ∧ a ∈ ns
  | .bin _ l r => l.over ns ∧ r.over ns
def t_law_expr (K : PySem.W.Frag) (sp : Sp) : TS := (tSeq (tPar 3 4 (tCons (tCall (sp_law_next K) [] E0 (tCons (tVar 0) (tCons (tC (.int 9)) tNil))) (tCons (tOp (rIx K) (tVar 1) (tCall (sp_law_next K) [] E0 (tCons (tVar 0) (tCons (tCB (rLen K) (tCons (tVar 1) tNil)) tNil)))) tNil)))
  (tSeq (tIfS (tAnd (tTest (tOp rGtI (tVar 3) (tC (.int 6)))) (tTest (tOp rGtI (tVar 2) (tC (.int 0))))) (tRet (tTupX K (tCons (tOp (rIx K) (tLstX (tCons (tC (.str "sum")) (tCons (tC (.str "less")) tNil))) (tOp rSubI (tVar 3) (tC (.int 7)))) (tCons (tCall sp [] E0 (tCons (tVar 0) (tCons (tVar 1) (tCons (tOp rSubI (tVar 2) (tC (.int 1))) tNil)))) (tCons (tCall sp [] E0 (tCons (tVar 0) (tCons (tVar 1) (tCons (tOp rSubI (tVar 2) (tC (.int 1))) tNil)))) tNil))))) tNext)
  (tSeq (tIfS (tTest (tOp (rEqX K) (tVar 3) (tC (.int 3)))) (tRet (tTupX K (tCons (tC (.str "of")) (tCons (tVar 4) (tCons (tOp (rIx K) (tVar 1) (tCall (sp_law_next K) [] E0 (tCons (tVar 0) (tCons (tCB (rLen K) (tCons (tVar 1) tNil)) tNil)))) tNil))))) tNext)
  (tRet (tIf (tTest (tOp rGtI (tVar 3) (tC (.int 3)))) (tTupX K (tCons (tC (.str "name")) (tCons (tVar 4) tNil))) (tCall (sp_law_integer K) [] E0 (tCons (tVar 0) tNil)))))))
def n_law_expr : List Str := ["_law_h", "_law_names_here", "_law_depth", "_law_kind", "_law_name_here"]
def sp_law_expr (K : PySem.W.Frag) (n : Nat) : Sp := fun vs H Q _ => ∃ h c nl names d, vs = [.ref h, .ref nl, .int d] ∧ Drw H h c ∧ NL H h c nl names ∧ 0 ≤ d ∧ d < n ∧ ∀ v e H', Im K H' v (Ex.d e) → e.wf d.toNat → e.over names → Keep [h, c] H H' → Drw H' h c → NL H' h c nl names → Q v H'
theorem v_lx {K : PySem.W.Frag} {n : Nat} {H : Hp} {Q : VK} {E : XK} {h c nl : Addr} {names : List Str} {d : Int} (D : Drw H h c) (N : NL H h c nl names) (d0 : 0 ≤ d) (dn : d < n) (q : ∀ v e H', Im K H' v (Ex.d e) → e.wf d.toNat → e.over names → Keep [h, c] H H' → Drw H' h c → NL H' h c nl names → Q v H') : sp_law_expr K n [.ref h, .ref nl, .int d] H Q E := ⟨h, c, nl, names, d, rfl, D, N, d0, dn, q⟩
theorem pure_law_expr {K : PySem.W.Frag} {n : Nat} (vs : List V) (H : Hp) (Q : VK) (E : XK) (h : sp_law_expr K (n + 1) vs H Q E) : t_law_expr K (sp_law_expr K n) { nx := fun _ H' => Q .non H', rt := Q } (start n_law_expr vs) H := by
  obtain ⟨h, c, nl, names, d, rfl, D, N, d0, dn, q⟩ := h
  show t_law_expr K _ _ [some (.ref h), some (.ref nl), some (.int d), none, none] H
  unfold t_law_expr
  row_readAll go
  refine v_nx D (by decide) (by decide) fun u H1 u0 u1 k1 D1 => ?_
  row_readAll go
  refine (N.keep k1).draw D1 fun z H2 m_oz oz k2 D2 N2 => ?_
  have k12 : KC [h, c] H H2 := ⟨k1.trans k2⟩
  row_readAll go
  refine ite_and (fun h6 hd => ?_) ?_
  · row_readAll go
    refine v_mkL (by row_readAll ln) fun p3 H3 f3 k3 g3 => ?_
    have hu : u = 7 ∨ u = 8 := by omega
    have h8 : ∃ s : Bool, atI [V.str "sum", V.str "less"] (u - 7) = some (.str (opW s)) := by
      rcases hu with rfl | rfl
      · exact ⟨true, rfl⟩
      · exact ⟨false, rfl⟩
    obtain ⟨s, hs⟩ := h8
    row_readAll go
    refine v_ixL (SqL.of g3) hs ?_
    row_readAll go
    refine v_lx (D2.k0 k3) (N2.k0 k3) (by omega) (by omega) fun v1 e1 H4 i1 w1 x1 k4 D4 N4 => ?_
    row_readAll go
    refine v_lx D4 N4 (by omega) (by omega) fun v2 e2 H5 i2 w2 x2 k5 D5 N5 => ?_
    refine v_mkT (by row_readAll ln) fun p6 H6 f6 k6 g6 => ?_
    refine q (.ref p6) (.bin s e1 e2) H6 ?_ ?_ ⟨x1, x2⟩ ((((k12.k.trans k3.nil).trans k4).trans k5).trans k6.nil) (D5.k0 k6) (N5.k0 k6)
    · exact .tup g6 (.cons (.str _) (.cons ((i1.mono k5).mono k6) (.cons (i2.mono k6) .nil)))
    · have e : d.toNat = (d - 1).toNat + 1 := by omega
      rw [e]
      exact ⟨w1, w2⟩
  row_readAll go
  refine ite_c (fun h3 => ?_) (fun h3 => ?_)
  · row_readAll go
    refine N2.draw D2 fun z2 H3 m_oz2 oz2 k3 D3 N3 => ?_
    refine v_mkT (by row_readAll ln) fun p6 H6 f6 k6 g6 => ?_
    refine q (.ref p6) (.of z z2) H6 ?_ (by cases d.toNat <;> exact ⟨oz, oz2⟩) ⟨m_oz, m_oz2⟩ ((k12.k.trans k3).trans k6.nil) (D3.k0 k6) (N3.k0 k6)
    exact .tup g6 (.cons (.str _) (.cons (.str _) (.cons (.str _) .nil)))
  row_readAll go
  refine ite_c (fun h4 => ?_) (fun h4 => ?_)
  · row_readAll go
    refine v_mkT (by row_readAll ln) fun p6 H6 f6 k6 g6 => ?_
    refine q (.ref p6) (.nm z) H6 ?_ (by cases d.toNat <;> exact oz) m_oz (k12.k.trans k6.nil) (D2.k0 k6) (N2.k0 k6)
    exact .tup g6 (.cons (.str _) (.cons (.str _) .nil))
  · row_readAll go
    refine v_li D2 fun i H3 oi k3 D3 => ?_
    exact q (.int i) (.int i) H3 (.int i) (by cases d.toNat <;> exact oi) True.intro (k12.k.trans k3) D3 (N2.keep k3)
theorem d_star {K : PySem.W.Frag} {H : Hp} {E : XK} {h c nl : Addr} {names : List Str} {p9 : Prop} [Decidable p9] {p3 : Prop} [Decidable p3] {A R : Hp → Prop} (D : Drw H h c) (N : NL H h c nl names)
    (ha : ∀ H4, Keep [h, c] H H4 → Drw H4 h c → NL H4 h c nl names → A H4) (hr : ∀ H4, Keep [h, c] H H4 → Drw H4 h c → NL H4 h c nl names → ¬ p9 → R H4) :
    if decide p3 = true then sp_law_next K [.ref h, .int 2] H (fun x H1 => rEqX K x (.int 0) H1 fun x H' => ∃ k, x = .bl k ∧ if k = true then A H' else if decide p9 = true then A H' else R H') E else (if decide p9 = true then A H else R H) := by
  have fin : ∀ H4, Keep [h, c] H H4 → Drw H4 h c → NL H4 h c nl names → if decide p9 = true then A H4 else R H4 := fun H4 k D N => ite_c (fun _ => ha H4 k D N) fun h => hr H4 k D N h
  refine ite_c (fun _ => ?_) (fun _ => fin H (Keep.refl _ _) D N)
  refine v_nx D (by decide) (by decide) fun v H1 v0 v1 k1 D1 => v_eqI ⟨_, rfl, ?_⟩
  exact ite_c (fun _ => ha H1 k1 D1 (N.keep k1)) fun _ => fin H1 k1 D1 (N.keep k1)
def t_law_deep_row (K : PySem.W.Frag) (sp : Sp) : TS := (tSeq (tPar3 4 5 6 (tCons (tCall (sp_law_next K) [] E0 (tCons (tVar 0) (tCons (tC (.int 12)) tNil))) (tCons (tOp (rIx K) (tVar 1) (tCall (sp_law_next K) [] E0 (tCons (tVar 0) (tCons (tCB (rLen K) (tCons (tVar 1) tNil)) tNil)))) (tCons (tOp (rIx K) (tVar 1) (tCall (sp_law_next K) [] E0 (tCons (tVar 0) (tCons (tCB (rLen K) (tCons (tVar 1) tNil)) tNil)))) tNil))))
  (tSeq (tIfS (tTest (tOp rLtI (tVar 4) (tC (.int 3)))) (tRet (tTupX K (tCons (tC (.str "set")) (tCons (tVar 5) (tCons (tCall (sp_law_expr K 5) [] E0 (tCons (tVar 0) (tCons (tVar 1) (tCons (tC (.int 3)) tNil)))) tNil))))) tNext)
  (tSeq (tIfS (tTest (tOp rLtI (tVar 4) (tC (.int 7)))) (tRet (tOp (rIx K) (tLstX (tCons (tTupX K (tCons (tC (.str "del")) (tCons (tVar 5) tNil))) (tCons (tTupX K (tCons (tC (.str "show")) (tCons (tCall (sp_law_expr K 5) [] E0 (tCons (tVar 0) (tCons (tVar 1) (tCons (tC (.int 3)) tNil)))) tNil))) (tCons (tTupX K (tCons (tC (.str "call")) (tCons (tCall (sp_law_expr K 5) [] E0 (tCons (tVar 0) (tCons (tVar 1) (tCons (tC (.int 2)) tNil)))) tNil))) (tCons (tTupX K (tCons (tC (.str "raise")) tNil)) tNil))))) (tOp rSubI (tVar 4) (tC (.int 3))))) tNext)
  (tSeq (tIfS (tTest (tOp rLtI (tVar 4) (tC (.int 9)))) (tRet (tOp (rIx K) (tLstX (tCons (tTupX K (tCons (tC (.str "\x69mport")) (tCons (tVar 6) (tCons (tVar 5) tNil)))) (tCons (tTupX K (tCons (tC (.str "from")) (tCons (tVar 6) (tCons (tVar 5) (tCons (tOp (rIx K) (tVar 1) (tCall (sp_law_next K) [] E0 (tCons (tVar 0) (tCons (tCB (rLen K) (tCons (tVar 1) tNil)) tNil)))) tNil))))) tNil))) (tOp rSubI (tVar 4) (tC (.int 7))))) tNext)
  (tSeq (tIfS (tOr (tAnd (tTest (tOp (rEqX K) (tVar 2) (tC (.int 3)))) (tTest (tOp (rEqX K) (tCall (sp_law_next K) [] E0 (tCons (tVar 0) (tCons (tC (.int 2)) tNil))) (tC (.int 0))))) (tTest (tOp (rEqX K) (tVar 4) (tC (.int 9))))) (tRet (tTupX K (tCons (tC (.str "star")) (tCons (tVar 5) tNil)))) tNext)
  (tSeq (tPar 7 8 (tCons (tCall sp [] E0 (tCons (tVar 0) (tCons (tVar 1) (tCons (tOp (rAdd K) (tVar 2) (tC (.int 1))) tNil)))) (tCons (tCall sp [] E0 (tCons (tVar 0) (tCons (tVar 1) (tCons (tOp (rAdd K) (tVar 2) (tC (.int 1))) tNil)))) tNil)))
  (tSeq (tIfS (tTest (tOp (rEqX K) (tVar 4) (tC (.int 10)))) (tRet (tTupX K (tCons (tC (.str "def")) (tCons (tVar 5) (tCons (tVar 7) tNil))))) tNext)
  (tSeq (tAsg (tLstX (tCons (tC (.str "absent")) (tCons (tC (.str "any")) (tCons (tC (.str "kind")) (tCons (tC (.str "missing")) (tCons (tC (.str "raised")) (tCons (tC (.str "unbound")) tNil))))))) (gName 3))
  (tSeq (tIfS (tTest (tOp (rEqX K) (tCall (sp_law_next K) [] E0 (tCons (tVar 0) (tCons (tC (.int 2)) tNil))) (tC (.int 0)))) (tRet (tTupX K (tCons (tC (.str "if")) (tCons (tCall (sp_law_expr K 5) [] E0 (tCons (tVar 0) (tCons (tVar 1) (tCons (tC (.int 3)) tNil)))) (tCons (tVar 7) (tCons (tVar 8) tNil)))))) tNext)
  (tRet (tTupX K (tCons (tC (.str "try")) (tCons (tOp (rIx K) (tVar 3) (tCall (sp_law_next K) [] E0 (tCons (tVar 0) (tCons (tC (.int 6)) tNil)))) (tCons (tVar 7) (tCons (tVar 8) tNil)))))))))))))))
def n_law_deep_row : List Str := ["_law_h", "_law_names_here", "_law_depth", "_law_kinds", "_law_kind", "_law_name_here", "_law_other", "_law_block", "_law_second"]
def t_law_deep_rows (K : PySem.W.Frag) (sp : Sp) : TS := (tSeq (tAsg (tOp (rIx K) (tLstX (tCons (tC (.int 4)) (tCons (tC (.int 2)) (tCons (tC (.int 2)) (tCons (tC (.int 2)) (tCons (tC (.int 1)) tNil)))))) (tVar 2)) (gName 3))
  (tRet (tThen (tLc (iRng1 (tCons (tCall (sp_law_next K) [] E0 (tCons (tVar 0) (tCons (tVar 3) tNil))) tNil)) (gName 4) tYes (tCall sp [] E0 (tCons (tVar 0) (tCons (tVar 1) (tCons (tVar 2) tNil)))) [4]) (kTup K))))
def n_law_deep_rows : List Str := ["_law_h", "_law_names_here", "_law_depth", "_law_most", "_law_k"]
/-- a drawn block of a depth -/
def rowN : Nat → Nat
  | 0 => 46 | 1 => 22 | 2 => 10 | 3 => 4 | _ => 0
def rowsN : Nat → Nat
  | 0 => 138 | 1 => 22 | 2 => 10 | 3 => 4 | _ => 0
def mostN : Nat → Nat
  | 0 => 3 | 1 => 1 | 2 => 1 | 3 => 1 | _ => 0
structure DRow (d : Nat) (s : Stm) : Prop where
  wf : s.wf
  dep : s.dep + d ≤ 4
  cnt : ∀ ind, (s.lines ind).length ≤ rowN d
structure DRows (d : Nat) (b : List Stm) : Prop where
  wf : wfL b
  dep : depL b + d ≤ 4
  cnt : ∀ ind, (linesL ind b).length ≤ rowsN d
theorem DRows.inner {d : Nat} {b : List Stm} (h : DRows d b) (ind : Str) : (inner ind b).length ≤ max 1 (rowsN d) := by
  cases b with
  | nil => simp [M.inner]; omega
  | cons s r => rw [inner_cons _ _ (by simp)]; have := h.cnt ind; omega
def sp_law_deep_row (K : PySem.W.Frag) (n : Nat) : Sp := fun vs H Q _ => ∃ h c nl names, ∃ d : Nat, vs = [.ref h, .ref nl, .int d] ∧ Drw H h c ∧ NL H h c nl names ∧ d ≤ 3 ∧ 4 < n + d ∧ ∀ v s H', Im K H' v (Stm.d s) → DRow d s → Keep [h, c] H H' → Drw H' h c → NL H' h c nl names → Q v H'
def sp_law_deep_rows (K : PySem.W.Frag) (n : Nat) : Sp := fun vs H Q _ => ∃ h c nl names, ∃ d : Nat, vs = [.ref h, .ref nl, .int d] ∧ Drw H h c ∧ NL H h c nl names ∧ d ≤ 4 ∧ 4 < n + d ∧ ∀ v b H', Im K H' v (.tuple (blkD b)) → DRows d b → Keep [h, c] H H' → Drw H' h c → NL H' h c nl names → Q v H'
theorem pure_law_deep_row {K : PySem.W.Frag} {n : Nat} (vs : List V) (H : Hp) (Q : VK) (E : XK) (h : sp_law_deep_row K (n + 1) vs H Q E) : t_law_deep_row K (sp_law_deep_rows K n) { nx := fun _ H' => Q .non H', rt := Q } (start n_law_deep_row vs) H := by
  obtain ⟨h, c, nl, names, d, rfl, D, N, d3, dn, q⟩ := h
  show t_law_deep_row K _ _ [some (.ref h), some (.ref nl), some (.int d), none, none, none, none, none, none] H
  unfold t_law_deep_row
  row_readAll go
  refine v_nx D (by decide) (by decide) fun u H1 u0 u1 k1 D1 => ?_
  row_readAll go
  refine (N.keep k1).draw D1 fun z H2 m_oz oz k2 D2 N2 => ?_
  row_readAll go
  refine N2.draw D2 fun y H3 m_oy oy k3 D3 N3 => ?_
  have k123 : KC [h, c] H H3 := ⟨(k1.trans k2).trans k3⟩
  row_readAll go
  have simple : ∀ s : Stm, s.wf → s.dep = 0 → (∀ ind, (s.lines ind).length = 1) → DRow d s := fun s w e l => ⟨w, by omega, fun ind => by
    rw [l ind]
    have : d = 0 ∨ d = 1 ∨ d = 2 ∨ d = 3 := by omega
    rcases this with rfl | rfl | rfl | rfl <;> decide⟩
  refine ite_c (fun h3 => ?_) (fun h3 => ?_)
  · refine v_lx D3 N3 (by decide) (by decide) fun v e H4 i4 w4 _ k4 D4 N4 => ?_
    refine v_mkT (by row_readAll ln) fun p5 H5 f5 k5 g5 => ?_
    refine q (.ref p5) (.set z e) H5 ?_ (simple _ (by simp only [Stm.wf]; exact ⟨oz, w4⟩) rfl fun ind => by simp [Stm.lines]) ((k123.k.trans k4).trans k5.nil) (D4.k0 k5) (N4.k0 k5)
    simp only [Stm.d]
    exact .tup g5 (.cons (.str _) (.cons (.str _) (.cons (i4.mono k5) .nil)))
  row_readAll go
  refine ite_c (fun h7 => ?_) (fun h7 => ?_)
  · refine v_mkT (by row_readAll ln) fun p4 H4 f4 k4 g4 => ?_
    row_readAll go
    refine v_lx (D3.k0 k4) (N3.k0 k4) (by decide) (by decide) fun v5 e5 H5 i5 w5 _ k5 D5 N5 => ?_
    refine v_mkT (by row_readAll ln) fun p6 H6 f6 k6 g6 => ?_
    row_readAll go
    refine v_lx (D5.k0 k6) (N5.k0 k6) (by decide) (by decide) fun v7 e7 H7 i7 w7 _ k7 D7 N7 => ?_
    refine v_mkT (by row_readAll ln) fun p8 H8 f8 k8 g8 => ?_
    row_readAll go
    refine v_mkT (by row_readAll ln) fun p9 H9 f9 k9 g9 => ?_
    refine v_mkL (by row_readAll ln) fun pa Ha fa ka ga => ?_
    row_readAll go
    have D' : Drw Ha h c := ((D7.k0 k8).k0 k9).k0 ka
    have N' : NL Ha h c nl names := ((N7.k0 k8).k0 k9).k0 ka
    have kk : Keep [h, c] H Ha := (((((((k123.k.trans k4.nil).trans k5).trans k6.nil).trans k7).trans k8.nil).trans k9.nil).trans ka.nil)
    have hu : u = 3 ∨ u = 4 ∨ u = 5 ∨ u = 6 := by omega
    rcases hu with rfl | rfl | rfl | rfl
    · refine v_ixL (SqL.of ga) rfl ?_
      refine q (.ref p4) (.del z) Ha ?_ (simple _ (by simp only [Stm.wf]; exact oz) rfl fun ind => by simp [Stm.lines]) kk D' N'
      simp only [Stm.d]
      exact .tup (ka.sqT (k9.sqT (k8.sqT (k7.sqT (k6.sqT (k5.sqT g4)))))) (.cons (.str _) (.cons (.str _) .nil))
    · refine v_ixL (SqL.of ga) rfl ?_
      refine q (.ref p6) (.shw e5) Ha ?_ (simple _ (by simp only [Stm.wf]; exact w5) rfl fun ind => by simp [Stm.lines]) kk D' N'
      simp only [Stm.d]
      exact .tup (ka.sqT (k9.sqT (k8.sqT (k7.sqT g6)))) (.cons (.str _) (.cons (((((i5.mono k6).mono k7).mono k8).mono k9).mono ka) .nil))
    · refine v_ixL (SqL.of ga) rfl ?_
      refine q (.ref p8) (.call e7) Ha ?_ (simple _ (by simp only [Stm.wf]; exact w7.mono (by decide)) rfl fun ind => by simp [Stm.lines]) kk D' N'
      simp only [Stm.d]
      exact .tup (ka.sqT (k9.sqT g8)) (.cons (.str _) (.cons (((i7.mono k8).mono k9).mono ka) .nil))
    · refine v_ixL (SqL.of ga) rfl ?_
      refine q (.ref p9) .raise Ha ?_ (simple _ (by simp only [Stm.wf]) rfl fun ind => by simp [Stm.lines]) kk D' N'
      simp only [Stm.d]
      exact .tup (ka.sqT g9) (.cons (.str _) .nil)
  row_readAll go
  refine ite_c (fun h9 => ?_) (fun h9 => ?_)
  · refine v_mkT (by row_readAll ln) fun p4 H4 f4 k4 g4 => ?_
    row_readAll go
    refine (N3.k0 k4).draw (D3.k0 k4) fun x H5 m_ox ox k5 D5 N5 => ?_
    refine v_mkT (by row_readAll ln) fun p6 H6 f6 k6 g6 => ?_
    refine v_mkL (by row_readAll ln) fun pa Ha fa ka ga => ?_
    row_readAll go
    have D' : Drw Ha h c := (D5.k0 k6).k0 ka
    have N' : NL Ha h c nl names := (N5.k0 k6).k0 ka
    have kk : Keep [h, c] H Ha := (((k123.k.trans k4.nil).trans k5).trans k6.nil).trans ka.nil
    have hu : u = 7 ∨ u = 8 := by omega
    rcases hu with rfl | rfl
    · refine v_ixL (SqL.of ga) rfl ?_
      refine q (.ref p4) (.imp y z) Ha ?_ (simple _ (by simp only [Stm.wf]; exact ⟨oy, oz⟩) rfl fun ind => by simp [Stm.lines]) kk D' N'
      simp only [Stm.d]
      exact .tup (ka.sqT (k6.sqT (k5.sqT g4))) (.cons (.str _) (.cons (.str _) (.cons (.str _) .nil)))
    · refine v_ixL (SqL.of ga) rfl ?_
      refine q (.ref p6) (.frm y z x) Ha ?_ (simple _ (by simp only [Stm.wf]; exact ⟨oy, oz, ox⟩) rfl fun ind => by simp [Stm.lines]) kk D' N'
      simp only [Stm.d]
      exact .tup (ka.sqT g6) (.cons (.str _) (.cons (.str _) (.cons (.str _) (.cons (.str _) .nil))))
  row_readAll go
  have star : ∀ H4, Keep [h, c] H H4 → Drw H4 h c → NL H4 h c nl names → mkT K [V.str (Str.ofString "star"), V.str z] H4 Q := fun H4 k4 D4 N4 => by
    refine v_mkT (by row_readAll ln) fun p5 H5 f5 k5 g5 => ?_
    refine q (.ref p5) (.star z) H5 ?_ (simple _ (by simp only [Stm.wf]; exact oz) rfl fun ind => by simp [Stm.lines]) (k4.trans k5.nil) (D4.k0 k5) (N4.k0 k5)
    simp only [Stm.d]
    exact .tup g5 (.cons (.str _) (.cons (.str _) .nil))
  refine d_star D3 N3 (fun H4 k4 D4 N4 => star H4 (k123.k.trans k4) D4 N4) fun H4 k4 D4 N4 h10 => ?_
  have k5 : KC [h, c] H H4 := ⟨k123.k.trans k4⟩
  row_readAll go
  have e1 : ((d : Int) + 1) = ((d + 1 : Nat) : Int) := by omega
  rw [e1]
  refine ⟨h, c, nl, names, d + 1, rfl, D4, N4, by omega, by omega, fun v6 b6 H6 i6 r6 k6 D6 N6 => ?_⟩
  row_readAll go
  refine ⟨h, c, nl, names, d + 1, rfl, D6, N6, by omega, by omega, fun v7 b7 H7 i7 r7 k7 D7 N7 => ?_⟩
  row_readAll go
  have k8 : KC [h, c] H H7 := ⟨(k5.k.trans k6).trans k7⟩
  have i67 := i6.mono k7
  have rr : rowsN (d + 1) ≤ 22 ∧ (max 1 (rowsN (d + 1))) + (max 1 (rowsN (d + 1))) + 2 ≤ rowN d := by
    have : d = 0 ∨ d = 1 ∨ d = 2 ∨ d = 3 := by omega
    rcases this with rfl | rfl | rfl | rfl <;> decide
  have r6d := r6.dep
  have r7d := r7.dep
  refine ite_c (fun h10 => ?_) (fun h10 => ?_)
  · row_readAll go
    refine v_mkT (by row_readAll ln) fun p9 H9 f9 k9 g9 => ?_
    refine q (.ref p9) (.fn z b6) H9 ?_ ⟨by simp only [Stm.wf]; exact ⟨oz, r6.wf⟩, by simp only [Stm.dep]; omega, fun ind => ?_⟩ (k8.k.trans k9.nil) (D7.k0 k9) (N7.k0 k9)
    · simp only [Stm.d]
      exact .tup g9 (.cons (.str _) (.cons (.str _) (.cons (i67.mono k9) .nil)))
    · have := r6.inner (ind ++ "  ")
      simp only [Stm.lines, List.length_append, List.length_singleton]; omega
  row_readAll go
  refine v_mkL (by row_readAll ln) fun p9 H9 f9 k9 g9 => ?_
  have np := D7.ne1 f9
  row_readAll go
  refine v_nx (D7.k0 k9) (by decide) (by decide) fun w Ha w0 w1 ka Da => ?_
  have Na := (N7.k0 k9).keep ka
  have kA : KC [h, c] H Ha := ⟨(k8.k.trans k9.nil).trans ka⟩
  have ga := ka.obj _ _ (by simp [np.1, np.2]) g9
  row_readAll go
  refine ite_c (fun h0 => ?_) (fun h0 => ?_)
  · refine v_lx Da Na (by decide) (by decide) fun ve e Hb ib wb _ kb Db Nb => ?_
    refine v_mkT (by row_readAll ln) fun pc Hc fc kc gc => ?_
    refine q (.ref pc) (.ite e b6 b7) Hc ?_ ⟨by simp only [Stm.wf]; exact ⟨wb, r6.wf, r7.wf⟩, by simp only [Stm.dep]; omega, fun ind => ?_⟩ ((kA.k.trans kb).trans kc.nil) (Db.k0 kc) (Nb.k0 kc)
    · simp only [Stm.d]
      exact .tup gc (.cons (.str _) (.cons (ib.mono kc) (.cons ((((i67.mono k9).mono ka).mono kb).mono kc) (.cons ((((i7.mono k9).mono ka).mono kb).mono kc) .nil))))
    · have := r6.inner (ind ++ "  ")
      have := r7.inner (ind ++ "  ")
      simp only [Stm.lines, List.length_append, List.length_singleton]; omega
  · row_readAll go
    refine v_nx Da (by decide) (by decide) fun x Hb x0 x1 kb Db => ?_
    have gb := kb.obj _ _ (by simp [np.1, np.2]) ga
    obtain ⟨y2, hy, ha⟩ := atI_lt (xs := kinds.map V.str) x0 (by show x < 6; exact x1)
    rw [List.getElem?_map] at hy
    cases hz : kinds[x.toNat]? with
    | none => rw [hz] at hy; cases hy
    | some kd =>
    rw [hz] at hy
    cases hy
    refine v_ixL (xs := kinds.map V.str) (SqL.of gb) ha ?_
    refine v_mkT (by row_readAll ln) fun pc Hc fc kc gc => ?_
    refine q (.ref pc) (.tri kd b6 b7) Hc ?_ ⟨by simp only [Stm.wf]; exact ⟨List.mem_of_getElem? hz, r6.wf, r7.wf⟩, by simp only [Stm.dep]; omega, fun ind => ?_⟩ ((kA.k.trans kb).trans kc.nil) (Db.k0 kc) (((Na.keep kb)).k0 kc)
    · simp only [Stm.d]
      exact .tup gc (.cons (.str _) (.cons (.str _) (.cons ((((i67.mono k9).mono ka).mono kb).mono kc) (.cons ((((i7.mono k9).mono ka).mono kb).mono kc) .nil))))
    · have := r6.inner (ind ++ "  ")
      have := r7.inner (ind ++ "  ")
      simp only [Stm.lines, List.length_append, List.length_singleton]; omega
theorem ImAll.snoc {K : PySem.W.Frag} {H : Hp} {vs : List V} {ds : List PyData} {v : V} {d : PyData} (a : ImAll K H vs ds) (b : Im K H v d) : ImAll K H (vs ++ [v]) (ds ++ [d]) := a.append (.cons b .nil)
theorem depL_append (a : List Stm) (s : Stm) : depL (a ++ [s]) = max (depL a) s.dep := by
  induction a with
  | nil => simp [depL]
  | cons x r ih => simp only [List.cons_append, depL, ih]; omega
theorem pure_law_deep_rows {K : PySem.W.Frag} {n : Nat} (vs : List V) (H : Hp) (Q : VK) (E : XK) (h : sp_law_deep_rows K n vs H Q E) : t_law_deep_rows K (sp_law_deep_row K n) { nx := fun _ H' => Q .non H', rt := Q } (start n_law_deep_rows vs) H := by
  obtain ⟨h, c, nl, names, d, rfl, D, N, d4, dn, q⟩ := h
  show t_law_deep_rows K _ _ [some (.ref h), some (.ref nl), some (.int d), none, none] H
  unfold t_law_deep_rows
  have sl := sl_eq
  row_readAll go
  refine v_mkL (by row_readAll ln) fun p1 H1 f1 k1 g1 => ?_
  have hm : atI [V.int 4, V.int 2, V.int 2, V.int 2, V.int 1] (d : Int) = some (.int (mostN d + 1)) := by
    have : d = 0 ∨ d = 1 ∨ d = 2 ∨ d = 3 ∨ d = 4 := by omega
    rcases this with rfl | rfl | rfl | rfl | rfl <;> rfl
  refine v_ixL (SqL.of g1) hm ?_
  row_readAll go
  have hmx : mostN d ≤ 3 := by
    have : d = 0 ∨ d = 1 ∨ d = 2 ∨ d = 3 ∨ d = 4 := by omega
    rcases this with rfl | rfl | rfl | rfl | rfl <;> decide
  refine v_nx (D.k0 k1) (by omega) (by omega) fun u H2 u0 u1 k2 D2 => ?_
  have N2 := (N.k0 k1).keep k2
  row_readAll go
  refine ⟨by omega, by omega, ?_⟩
  refine comp_gen u.toNat (fun Dd i H' => ∃ (vs : List V) (b : List Stm), H' Dd = some (.lst vs) ∧ ImAll K H' vs (blkD b) ∧ b.length = i ∧ (∀ s ∈ b, DRow d s) ∧ Keep [h, c] H2 H' ∧ Drw H' h c ∧ NL H' h c nl names) ?_ ?_ ?_ ?_ ?_
  · exact fun Dd H6 _ k6 g6 => ⟨[], [], g6, by simp [blkD]; exact .nil, rfl, by simp, k6.nil, D2.k0 k6, N2.k0 k6⟩
  · exact fun Dd H6 _ => Nat.le_refl _
  · exact fun Dd i H6 hi _ => hi
  · rintro Dd i H6 x H7 fD hi ⟨vs, b, gv, iv, lb, ok, k6, D6, N6⟩ ⟨rfl, rfl⟩
    row_readAll go
    have hd3 : d ≤ 3 := by
      rcases Nat.lt_or_ge d 4 with z | z
      · omega
      · have : d = 4 := by omega
        subst this
        have : mostN 4 = 0 := rfl
        omega
    refine ⟨h, c, nl, names, d, rfl, D6, N6, hd3, dn, fun v s H8 i8 r8 k8 D8 N8 => ?_⟩
    have npD := D2.ne1 fD
    have gl8 := k8.obj _ _ (by simp [npD.1, npD.2]) gv
    have kp : Keep [Dd] H8 (upd H8 Dd (.lst (vs ++ [v]))) := Keep.put gl8 True.intro
    have nlD : nl ≠ Dd := fun e => by
      subst e
      have := N2.at_
      rw [fD] at this; cases this
    refine ⟨vs, gl8, by have := iv.length; rw [blkD_length] at this; omega, vs ++ [v], b ++ [s], upd_same, ?_, by simp [lb], ?_, (k6.trans k8).step1 kp fD, D8.keep kp (by simp [Ne.symm npD.1]) (by simp [Ne.symm npD.2]), ⟨kp.obj _ _ (by simp [nlD]) N8.at_, N8.ne, N8.few, N8.ok, N8.n1, N8.n2⟩⟩
    · have e : blkD (b ++ [s]) = blkD b ++ [s.d] := by simp [blkD_map]
      rw [e]
      exact ((iv.mono k8).snoc i8).mono kp
    · intro a m
      simp only [List.mem_append, List.mem_singleton] at m
      rcases m with m | rfl
      · exact ok a m
      · exact r8
  · rintro Dd H6 fD ⟨vs, b, gv, iv, lb, ok, k6, D6, N6⟩
    refine v_tupOf (SqL.of gv) fun l H7 fl k7 gl => ?_
    refine q (.ref l) b H7 (.tup gl (iv.mono k7)) ⟨(wfL_iff b).mpr fun s m => (ok s m).wf, ?_, fun ind => ?_⟩ (((k1.nil.trans k2).trans k6).trans k7.nil) (D6.k0 k7) (N6.k0 k7)
    · have : ∀ l : List Stm, (∀ s ∈ l, DRow d s) → depL l + d ≤ 4 := by
        intro l
        induction l with
        | nil => intro _; simp only [depL]; omega
        | cons x r ih =>
          intro hx
          have h1 := (hx x (by simp)).dep
          have h2 := ih fun s m => hx s (by simp [m])
          simp only [depL]; omega
      exact this b ok
    · have key : ∀ l : List Stm, (∀ s ∈ l, DRow d s) → (linesL ind l).length ≤ l.length * rowN d := by
        intro l
        induction l with
        | nil => intro _; simp [linesL]
        | cons x r ih =>
          intro hx
          have h1 := (hx x (by simp)).cnt ind
          have h2 := ih fun s m => hx s (by simp [m])
          simp only [linesL, List.length_append, List.length_cons, Nat.succ_mul]; omega
      have h1 := key b ok
      have h2 : b.length * rowN d ≤ mostN d * rowN d := Nat.mul_le_mul_right _ (by omega)
      have h3 : mostN d * rowN d ≤ rowsN d := by
        have : d = 0 ∨ d = 1 ∨ d = 2 ∨ d = 3 ∨ d = 4 := by omega
        rcases this with rfl | rfl | rfl | rfl | rfl <;> decide
      omega
end M


namespace M
open PySem L2
section
variable {K : PySem.W.Frag} {H : Hp} {Q : VK} {E : XK}
theorem v_ninSg {c : Nat} {z : Str} (q : Q (.bl (!decide (c ∈ z.cps.toList))) H) : rNotInX K (.str ⟨#[c]⟩) (.str z) H Q := .inr ⟨c, z, rfl, rfl, q⟩
theorem letters_mem (c : Nat) : (c ∈ (Str.ofString "abcdefghijklmnopqrstuvwxyz").cps.toList) ↔ (97 ≤ c ∧ c ≤ 122) := by
  have e : (Str.ofString "abcdefghijklmnopqrstuvwxyz").cps.toList = List.range' 97 26 := by decide +kernel
  rw [e, List.mem_range'_1]
  omega
theorem signs_dp (x : Str) (l : List Nat) : DpAll K H (l.map fun c => V.str ⟨#[c]⟩) (l.map fun c => PyData.str ⟨#[c]⟩) := by
  induction l with
  | nil => exact .nil
  | cons c r ih => exact .cons (.str _) ih
theorem dp_filter {f : V → Bool} : ∀ {xs : List V} {ds : List PyData}, DpAll K H xs ds → ∃ es, DpAll K H (xs.filter f) es ∧ ∀ e ∈ es, e ∈ ds
  | _, _, .nil => ⟨[], .nil, by simp⟩
  | x :: _, d :: _, .cons h t => by
    obtain ⟨es, h1, h2⟩ := dp_filter (f := f) t
    rw [List.filter_cons]
    split
    · exact ⟨d :: es, .cons h h1, by intro e m; simp only [List.mem_cons] at m ⊢; rcases m with m | m; exact .inl m; exact .inr (h2 e m)⟩
    · exact ⟨es, h1, fun e m => List.mem_cons_of_mem _ (h2 e m)⟩
theorem filter_empty {α : Type} (f : α → Bool) (l : List α) : (l.filter f).isEmpty = l.all fun x => !f x := by
  induction l with
  | nil => rfl
  | cons x r ih => rw [List.filter_cons]; cases h : f x <;> simp [h, ih]
end
def badSign : V → Bool
  | .str z => z.cps.toList.any fun c => !decide (97 ≤ c ∧ c ≤ 122)
  | _ => false
theorem badSign_one (c : Nat) : badSign (.str ⟨#[c]⟩) = !decide (97 ≤ c ∧ c ≤ 122) := by simp [badSign]
def sp_is_name (K : PySem.W.Frag) : Sp := fun vs H Q _ => ∃ x, vs = [.str x] ∧ x.length ≤ 4000 ∧ PyData.strOk x = true ∧ ∀ H', Keep [] H H' → Q (.bl (okNB x)) H'
theorem v_isname {K : PySem.W.Frag} {H : Hp} {Q : VK} {E : XK} {x : Str} (l : x.length ≤ 4000) (o : PyData.strOk x = true) (q : ∀ H', Keep [] H H' → Q (.bl (okNB x)) H') : sp_is_name K [.str x] H Q E := ⟨x, rfl, l, o, q⟩
def t_is_name (K : PySem.W.Frag)  : TS := (tRet (tAndV (tChain rLeI rLeI (tC (.int 1)) (tCB (rLen K) (tCons (tVar 0) tNil)) (tC (.int 8))) (tOp (rEqX K) (tLc (iStr (tVar 0)) (gName 1) (tTest (tOp (rNotInX K) (tVar 1) (tC (.str "abcdefghijklmnopqrstuvwxyz")))) (tVar 1) [1]) (tLstX tNil))))
def n_is_name : List Str := ["text", "sign"]
theorem pure_is_name {K : PySem.W.Frag} (vs : List V) (H : Hp) (Q : VK) (E : XK) (h : sp_is_name K vs H Q E) : t_is_name K { nx := fun _ H' => Q .non H', rt := Q } (start n_is_name vs) H := by
  obtain ⟨x, rfl, hl, ho, q⟩ := h
  show t_is_name K _ [some (.str x), none] H
  unfold t_is_name
  have sl := sl_eq
  row_readAll go
  refine v_lenS (by omega) ?_
  row_readAll go
  refine ite_c (fun h1 => ?_) (fun h1 => ?_)
  · row_readAll go
    refine ite_c (fun h2 => ?_) (fun h2 => ?_)
    · row_readAll go
      refine comp_filt (σ := [some (.str x), none]) badSign Wk.str (by simp [signs]; unfold Str.length at hl; omega) (by simp) ?_ fun D H2 hD k2 h2 => ?_
      · intro i v H2 R hi k r
        simp only [signs, List.getElem?_map, Option.map_eq_some_iff] at hi
        obtain ⟨c, hc, rfl⟩ := hi
        row_readAll go
        refine v_ninSg ?_
        row_readAll go
        have e := r H2 (Keep.refl _ _)
        rw [badSign_one] at e
        simp only [decide_eq_decide.mpr (letters_mem c)]
        exact e
      · row_readAll go
        refine v_mkL (by row_readAll ln) fun p H3 hp k3 h3 => ?_
        obtain ⟨es, he, hm⟩ := dp_filter (K := K) (H := H3) (f := badSign) (signs_dp x x.cps.toList)
        refine v_eqNil (k3.obj _ _ List.not_mem_nil h2) he h3 ((shaped_list _).mpr fun d m => ?_) ?_
        · have m2 := hm d m
          simp only [List.mem_map] at m2
          obtain ⟨c, hc, rfl⟩ := m2
          refine ⟨?_, by simp [PyData.depth]⟩
          simp only [PyData.canLay0]
          unfold PySem.PyData.strOk at ho ⊢
          rw [Array.all_eq_true_iff_forall_mem] at ho ⊢
          intro c' hc'
          simp at hc'
          subst hc'
          exact ho _ (by simpa using hc)
        · rw [filter_empty]
          have e := q H3 (k2.trans k3)
          have e2 : okNB x = (signs x).all (fun v => !badSign v) := by
            unfold okNB signs
            have g1 : (1 : Int) ≤ x.length := h1
            have g2 : (x.length : Int) ≤ 8 := by assumption
            rw [decide_eq_true (show 1 ≤ x.length by omega), decide_eq_true (show x.length ≤ 8 by omega), List.all_map]
            simp only [Bool.true_and]
            congr 1
            funext c
            simp only [Function.comp, badSign_one, Bool.not_not, Bool.decide_and]
          rw [e2] at e
          exact e
    · have e := q H (Keep.refl _ _)
      have e2 : okNB x = false := by
        unfold okNB
        have g2 : ¬ (x.length : Int) ≤ 8 := h2
        rw [decide_eq_false (show ¬ x.length ≤ 8 by omega)]
        simp
      rw [e2] at e
      row_readAll go
      exact e
  · have e := q H (Keep.refl _ _)
    have e2 : okNB x = false := by
      unfold okNB
      have g2 : ¬ (1 : Int) ≤ x.length := h1
      rw [decide_eq_false (show ¬ 1 ≤ x.length by omega)]
      simp
    rw [e2] at e
    row_readAll go
    exact e
end M


namespace M
open PySem L2
def Stm.blocks : Stm → List (List Stm)
  | .fn _ b => [b]
  | .ite _ b o => [b, o]
  | .tri _ b h => [b, h]
  | _ => []
def Stm.names : Stm → List Str
  | .imp m n => [m, n]
  | .frm m w n => [m, w, n]
  | .set n _ => [n]
  | .fn n _ => [n]
  | .del n => [n]
  | .star m => [m]
  | _ => []
def Stm.exprs : Stm → List Ex
  | .set _ e => [e]
  | .ite e _ _ => [e]
  | .shw e => [e]
  | .call e => [e]
  | _ => []
/-- a statement's tuple -/
def Stm.vs (K : PySem.W.Frag) (H : Hp) (s : Stm) (xs : List V) : Prop := match s with
  | .set n e => ∃ v, xs = [.str "set", .str n, v] ∧ Im K H v e.d
  | .del n => xs = [.str "del", .str n]
  | .shw e => ∃ v, xs = [.str "show", v] ∧ Im K H v e.d
  | .call e => ∃ v, xs = [.str "call", v] ∧ Im K H v e.d
  | .raise => xs = [.str "raise"]
  | .imp m n => xs = [.str "\x69mport", .str m, .str n]
  | .frm m w n => xs = [.str "from", .str m, .str w, .str n]
  | .star m => xs = [.str "star", .str m]
  | .fn n b => ∃ v, xs = [.str "def", .str n, v] ∧ Im K H v (.tuple (blkD b))
  | .ite e b o => ∃ v1 v2 v3, xs = [.str "if", v1, v2, v3] ∧ Im K H v1 e.d ∧ Im K H v2 (.tuple (blkD b)) ∧ Im K H v3 (.tuple (blkD o))
  | .tri k b h => ∃ v2 v3, xs = [.str "try", .str k, v2, v3] ∧ Im K H v2 (.tuple (blkD b)) ∧ Im K H v3 (.tuple (blkD h))
theorem Im.stm {K : PySem.W.Frag} {H : Hp} {v : V} {s : Stm} (h : Im K H v s.d) : ∃ a xs, v = .ref a ∧ SqT K H a xs ∧ s.vs K H xs := by
  cases s <;> simp only [Stm.d] at h <;> obtain ⟨a, xs, rfl, hs, ha⟩ := h.of_tup <;> refine ⟨a, xs, rfl, hs, ?_⟩ <;> obtain ⟨v0, r, rfl, h0, hb⟩ := ha.of_cons <;> cases h0.of_str <;> clear ha <;> have ha := hb
  case set => obtain ⟨v1, r, rfl, h1, ha⟩ := ha.of_cons; obtain ⟨v2, r, rfl, h2, ha⟩ := ha.of_cons; cases ha.of_nil; cases h1.of_str; exact ⟨_, rfl, h2⟩
  case del => obtain ⟨v1, r, rfl, h1, ha⟩ := ha.of_cons; cases ha.of_nil; cases h1.of_str; exact rfl
  case shw => obtain ⟨v1, r, rfl, h1, ha⟩ := ha.of_cons; cases ha.of_nil; exact ⟨_, rfl, h1⟩
  case call => obtain ⟨v1, r, rfl, h1, ha⟩ := ha.of_cons; cases ha.of_nil; exact ⟨_, rfl, h1⟩
  case raise => cases ha.of_nil; exact rfl
  case imp => obtain ⟨v1, r, rfl, h1, ha⟩ := ha.of_cons; obtain ⟨v2, r, rfl, h2, ha⟩ := ha.of_cons; cases ha.of_nil; cases h1.of_str; cases h2.of_str; exact rfl
  case frm => obtain ⟨v1, r, rfl, h1, ha⟩ := ha.of_cons; obtain ⟨v2, r, rfl, h2, ha⟩ := ha.of_cons; obtain ⟨v3, r, rfl, h3, ha⟩ := ha.of_cons; cases ha.of_nil; cases h1.of_str; cases h2.of_str; cases h3.of_str; exact rfl
  case star => obtain ⟨v1, r, rfl, h1, ha⟩ := ha.of_cons; cases ha.of_nil; cases h1.of_str; exact rfl
  case fn => obtain ⟨v1, r, rfl, h1, ha⟩ := ha.of_cons; obtain ⟨v2, r, rfl, h2, ha⟩ := ha.of_cons; cases ha.of_nil; cases h1.of_str; exact ⟨_, rfl, h2⟩
  case ite => obtain ⟨v1, r, rfl, h1, ha⟩ := ha.of_cons; obtain ⟨v2, r, rfl, h2, ha⟩ := ha.of_cons; obtain ⟨v3, r, rfl, h3, ha⟩ := ha.of_cons; cases ha.of_nil; exact ⟨_, _, _, rfl, h1, h2, h3⟩
  case tri => obtain ⟨v1, r, rfl, h1, ha⟩ := ha.of_cons; obtain ⟨v2, r, rfl, h2, ha⟩ := ha.of_cons; obtain ⟨v3, r, rfl, h3, ha⟩ := ha.of_cons; cases ha.of_nil; cases h1.of_str; exact ⟨_, _, rfl, h2, h3⟩
local macro_rules | `(tactic| row_readAll ia) => `(tactic| first | exact ImAll.nil | exact ImAll.cons (by row_readAll im) (by row_readAll ia) | exact ImAll.cons (.str _) (by row_readAll ia))
def sp_blocks_of (K : PySem.W.Frag) : Sp := fun vs H Q _ => ∃ v s, vs = [v] ∧ Im K H v (Stm.d s) ∧ ∀ p H', Keep [] H H' → Im K H' (.ref p) (.tuple (s.blocks.map fun b => .tuple (blkD b))) → Q (.ref p) H'
def t_blocks_of (K : PySem.W.Frag)  : TS := (tSeq (tIfS (tTest (tOp (rEqX K) (tOp (rIx K) (tVar 0) (tC (.int 0))) (tC (.str "def")))) (tRet (tTupX K (tCons (tOp (rIx K) (tVar 0) (tC (.int 2))) tNil))) tNext)
  (tSeq (tIfS (tTest (tOp (rInX K) (tOp (rIx K) (tVar 0) (tC (.int 0))) (tTupX K (tCons (tC (.str "if")) (tCons (tC (.str "try")) tNil))))) (tRet (tTupX K (tCons (tOp (rIx K) (tVar 0) (tC (.int 2))) (tCons (tOp (rIx K) (tVar 0) (tC (.int 3))) tNil)))) tNext)
  (tRet (tTupX K tNil))))
def n_blocks_of : List Str := ["statement"]
theorem pure_blocks_of {K : PySem.W.Frag} (vs : List V) (H : Hp) (Q : VK) (E : XK) (h : sp_blocks_of K vs H Q E) : t_blocks_of K { nx := fun _ H' => Q .non H', rt := Q } (start n_blocks_of vs) H := by
  obtain ⟨v, s, rfl, hi, q⟩ := h
  show t_blocks_of K _ [some v] H
  unfold t_blocks_of
  obtain ⟨a, xs, rfl, hs, hv⟩ := hi.stm
  cases s <;> simp only [Stm.vs] at hv
  case' set => obtain ⟨v2, rfl, h2⟩ := hv
  case' shw => obtain ⟨v2, rfl, h2⟩ := hv
  case' call => obtain ⟨v2, rfl, h2⟩ := hv
  case' fn => obtain ⟨v2, rfl, h2⟩ := hv
  case' ite => obtain ⟨v1, v2, v3, rfl, h1, h2, h3⟩ := hv
  case' tri => obtain ⟨v2, v3, rfl, h2, h3⟩ := hv
  case' del => subst hv
  case' raise => subst hv
  case' imp => subst hv
  case' frm => subst hv
  case' star => subst hv
  all_goals (row_readAll ga; exact q _ _ (by row_readAll kp) (.tup (by row_readAll sq) (by row_readAll ia)))
def sp_names_of (K : PySem.W.Frag) : Sp := fun vs H Q _ => ∃ v s, vs = [v] ∧ Im K H v (Stm.d s) ∧ ∀ p H', Keep [] H H' → SqT K H' p (s.names.map V.str) → Q (.ref p) H'
def t_names_of (K : PySem.W.Frag)  : TS := (tSeq (tMatch K (tVar 0) [(some [.lit "\x69mport", .cap 1, .cap 2], (tRet (tTupX K (tCons (tVar 1) (tCons (tVar 2) tNil))))),
   (some [.lit "from", .cap 1, .cap 3, .cap 2], (tRet (tTupX K (tCons (tVar 1) (tCons (tVar 3) (tCons (tVar 2) tNil)))))),
   (some [.lit "set", .cap 2, .cap 4], (tRet (tTupX K (tCons (tVar 2) tNil)))),
   (some [.lit "def", .cap 2, .cap 5], (tRet (tTupX K (tCons (tVar 2) tNil)))),
   (some [.lit "del", .cap 2], (tRet (tTupX K (tCons (tVar 2) tNil)))),
   (some [.lit "star", .cap 1], (tRet (tTupX K (tCons (tVar 1) tNil))))])
  (tRet (tTupX K tNil)))
def n_names_of : List Str := ["statement", "module", "name", "wanted", "expr", "block"]
theorem pure_names_of {K : PySem.W.Frag} (vs : List V) (H : Hp) (Q : VK) (E : XK) (h : sp_names_of K vs H Q E) : t_names_of K { nx := fun _ H' => Q .non H', rt := Q } (start n_names_of vs) H := by
  obtain ⟨v, s, rfl, hi, q⟩ := h
  show t_names_of K _ [some v, none, none, none, none, none] H
  unfold t_names_of
  obtain ⟨a, xs, rfl, hs, hv⟩ := hi.stm
  cases s <;> simp only [Stm.vs] at hv
  case' set => obtain ⟨v2, rfl, h2⟩ := hv
  case' shw => obtain ⟨v2, rfl, h2⟩ := hv
  case' call => obtain ⟨v2, rfl, h2⟩ := hv
  case' fn => obtain ⟨v2, rfl, h2⟩ := hv
  case' ite => obtain ⟨v1, v2, v3, rfl, h1, h2, h3⟩ := hv
  case' tri => obtain ⟨v2, v3, rfl, h2, h3⟩ := hv
  case' del => subst hv
  case' raise => subst hv
  case' imp => subst hv
  case' frm => subst hv
  case' star => subst hv
  all_goals (row_readAll ga; exact q _ _ (by row_readAll kp) (by row_readAll sq))
def sp_expressions_of (K : PySem.W.Frag) : Sp := fun vs H Q _ => ∃ v s, vs = [v] ∧ Im K H v (Stm.d s) ∧ ∀ p H', Keep [] H H' → Im K H' (.ref p) (.tuple (s.exprs.map Ex.d)) → Q (.ref p) H'
def t_expressions_of (K : PySem.W.Frag)  : TS := (tSeq (tMatch K (tVar 0) [(some [.lit "set", .cap 1, .cap 2], (tRet (tTupX K (tCons (tVar 2) tNil)))),
   (some [.lit "if", .cap 2, .cap 3, .cap 4], (tRet (tTupX K (tCons (tVar 2) tNil)))),
   (some [.lit "show", .cap 2], (tRet (tTupX K (tCons (tVar 2) tNil)))),
   (some [.lit "call", .cap 2], (tRet (tTupX K (tCons (tVar 2) tNil))))])
  (tRet (tTupX K tNil)))
def n_expressions_of : List Str := ["statement", "name", "expr", "block", "other"]
theorem pure_expressions_of {K : PySem.W.Frag} (vs : List V) (H : Hp) (Q : VK) (E : XK) (h : sp_expressions_of K vs H Q E) : t_expressions_of K { nx := fun _ H' => Q .non H', rt := Q } (start n_expressions_of vs) H := by
  obtain ⟨v, s, rfl, hi, q⟩ := h
  show t_expressions_of K _ [some v, none, none, none, none] H
  unfold t_expressions_of
  obtain ⟨a, xs, rfl, hs, hv⟩ := hi.stm
  cases s <;> simp only [Stm.vs] at hv
  case' set => obtain ⟨v2, rfl, h2⟩ := hv
  case' shw => obtain ⟨v2, rfl, h2⟩ := hv
  case' call => obtain ⟨v2, rfl, h2⟩ := hv
  case' fn => obtain ⟨v2, rfl, h2⟩ := hv
  case' ite => obtain ⟨v1, v2, v3, rfl, h1, h2, h3⟩ := hv
  case' tri => obtain ⟨v2, v3, rfl, h2, h3⟩ := hv
  case' del => subst hv
  case' raise => subst hv
  case' imp => subst hv
  case' frm => subst hv
  case' star => subst hv
  all_goals (row_readAll ga; exact q _ _ (by row_readAll kp) (.tup (by row_readAll sq) (by row_readAll ia)))
def sp_depth_of (K : PySem.W.Frag) : Sp := fun vs H Q _ => ∃ a xs, vs = [.ref a] ∧ SqT K H a xs ∧ Q (.int ((xs.length / 2 : Nat) : Int)) H
def t_depth_of (K : PySem.W.Frag)  : TS := (tRet (tOp rDivI (tCB (rLen K) (tCons (tVar 0) tNil)) (tC (.int 2))))
def n_depth_of : List Str := ["path"]
theorem pure_depth_of {K : PySem.W.Frag} (vs : List V) (H : Hp) (Q : VK) (E : XK) (h : sp_depth_of K vs H Q E) : t_depth_of K { nx := fun _ H' => Q .non H', rt := Q } (start n_depth_of vs) H := by
  obtain ⟨a, xs, rfl, hs, q⟩ := h
  show t_depth_of K _ [some (.ref a)] H
  unfold t_depth_of
  row_readAll go
  refine v_lenT hs ?_
  row_readAll go
  exact ⟨⟨by decide, by decide⟩, q⟩
/-- valid within so many operators -/
def Ex.ok (ops : Nat) : Ex → Bool
  | .int i => decide (i.natAbs < 10 ^ 60)
  | .nm n => okNB n
  | .of n a => okNB n && okNB a
  | .bin _ l r => if ops = 3 then false else l.ok (ops + 1) && r.ok (ops + 1)
def SD (d : PyData) : Prop := SeqAt.shaped d = true
def Ex.strs : Ex → List Str
  | .int _ => []
  | .nm n => [n]
  | .of n a => [n, a]
  | .bin _ l r => l.strs ++ r.strs
/-- texts of any kind, not too long -/
def Ex.tx (e : Ex) : Prop := ∀ x ∈ e.strs, x.length ≤ 4000 ∧ PyData.strOk x = true
def sp_is_valid_expression (K : PySem.W.Frag) (n : Nat) : Sp := fun vs H Q _ => ∃ v e, ∃ ops : Nat, vs = [v, .int ops] ∧ Im K H v (Ex.d e) ∧ e.tx ∧ ops + n = 5 ∧ ops ≤ 3 ∧ ∀ H', Keep [] H H' → Q (.bl (e.ok ops)) H'
theorem v_ive {K : PySem.W.Frag} {n : Nat} {H : Hp} {Q : VK} {E : XK} {v : V} {e : Ex} {ops : Nat} (h : Im K H v e.d) (t : e.tx) (o : ops + n = 5) (o3 : ops ≤ 3) (q : ∀ H', Keep [] H H' → Q (.bl (e.ok ops)) H') : sp_is_valid_expression K n [v, .int ops] H Q E := ⟨v, e, ops, rfl, h, t, o, o3, q⟩
def t_is_valid_expression (K : PySem.W.Frag) (sp : Sp) : TS := (tSeq (tIfS (tB (tCall (sp_is_integer K) [] E0 (tCons (tVar 0) tNil))) (tRet (tChain rLtI rLtI (tUn rNegI (tC (.int 1000000000000000000000000000000000000000000000000000000000000))) (tVar 0) (tC (.int 1000000000000000000000000000000000000000000000000000000000000)))) tNext)
  (tSeq (tIfS (tTest (tOp (rEqX K) (tOp (rIx K) (tVar 0) (tC (.int 0))) (tC (.str "name")))) (tRet (tCall (sp_is_name K) [] E0 (tCons (tOp (rIx K) (tVar 0) (tC (.int 1))) tNil))) tNext)
  (tSeq (tIfS (tTest (tOp (rEqX K) (tOp (rIx K) (tVar 0) (tC (.int 0))) (tC (.str "of")))) (tRet (tAndV (tCall (sp_is_name K) [] E0 (tCons (tOp (rIx K) (tVar 0) (tC (.int 1))) tNil)) (tCall (sp_is_name K) [] E0 (tCons (tOp (rIx K) (tVar 0) (tC (.int 2))) tNil)))) tNext)
  (tSeq (tIfS (tTest (tOp (rEqX K) (tVar 1) (tC (.int 3)))) (tRet (tC (.bl false))) tNext)
  (tRet (tAndV (tCall sp [] E0 (tCons (tOp (rIx K) (tVar 0) (tC (.int 1))) (tCons (tOp (rAdd K) (tVar 1) (tC (.int 1))) tNil))) (tCall sp [] E0 (tCons (tOp (rIx K) (tVar 0) (tC (.int 2))) (tCons (tOp (rAdd K) (tVar 1) (tC (.int 1))) tNil)))))))))
def n_is_valid_expression : List Str := ["expr", "operators"]
theorem pure_is_valid_expression {K : PySem.W.Frag} {n : Nat} (vs : List V) (H : Hp) (Q : VK) (E : XK) (h : sp_is_valid_expression K (n + 1) vs H Q E) : t_is_valid_expression K (sp_is_valid_expression K n) { nx := fun _ H' => Q .non H', rt := Q } (start n_is_valid_expression vs) H := by
  obtain ⟨v, e, ops, rfl, hi, ht, ho, h3, q⟩ := h
  show t_is_valid_expression K _ _ [some v, some (.int ops)] H
  unfold t_is_valid_expression
  cases e with
  | int i =>
    cases hi
    have q1 := q H (Keep.refl _ _)
    simp only [Ex.ok] at q1
    row_readAll go
    refine ite_c (fun h1 => ?_) (fun h1 => ?_)
    · row_readAll go
      have e : decide (i < 1000000000000000000000000000000000000000000000000000000000000) = decide (i.natAbs < 10 ^ 60) := decide_eq_decide.mpr ⟨fun h => by omega, fun h => by omega⟩
      rw [e]; exact q1
    · row_readAll go
      rw [decide_eq_false (by omega)] at q1
      exact q1
  | nm m =>
    obtain ⟨a, xs, rfl, hs, ha⟩ := hi.of_tup
    obtain ⟨v0, r, rfl, h0, ha⟩ := ha.of_cons
    obtain ⟨v1, r, rfl, h1, ha⟩ := ha.of_cons
    cases ha.of_nil; cases h0.of_str; cases h1.of_str
    have t := ht m (by simp [Ex.strs])
    row_readAll go
    exact v_isname t.1 t.2 q
  | of m b =>
    obtain ⟨a, xs, rfl, hs, ha⟩ := hi.of_tup
    obtain ⟨v0, r, rfl, h0, ha⟩ := ha.of_cons
    obtain ⟨v1, r, rfl, h1, ha⟩ := ha.of_cons
    obtain ⟨v2, r, rfl, h2, ha⟩ := ha.of_cons
    cases ha.of_nil; cases h0.of_str; cases h1.of_str; cases h2.of_str
    have t := ht m (by simp [Ex.strs])
    have t2 := ht b (by simp [Ex.strs])
    simp only [Ex.ok] at q
    row_readAll go
    refine v_isname t.1 t.2 fun H1 k1 => ?_
    cases z : okNB m <;> rw [z] at q
    · row_readAll go
      exact q H1 k1
    · row_readAll go
      exact v_isname t2.1 t2.2 fun H2 k2 => q H2 (k1.trans k2)
  | bin s l r =>
    obtain ⟨a, xs, rfl, hs, ha⟩ := hi.of_tup
    obtain ⟨v0, rr, rfl, h0, ha⟩ := ha.of_cons
    obtain ⟨v1, rr, rfl, h1, ha⟩ := ha.of_cons
    obtain ⟨v2, rr, rfl, h2, ha⟩ := ha.of_cons
    cases ha.of_nil; cases h0.of_str
    have tl : l.tx := fun x m => ht x (by simp [Ex.strs, m])
    have tr : r.tx := fun x m => ht x (by simp [Ex.strs, m])
    have key : (fun D H' => t_is_valid_expression K (sp_is_valid_expression K n) D [some (V.ref a), some (.int ops)] H') = (fun D H' => t_is_valid_expression K (sp_is_valid_expression K n) D [some (V.ref a), some (.int ops)] H') := rfl
    simp only [Ex.ok] at q
    cases s
    all_goals
      row_readAll go
      refine ite_c (fun h4 => ?_) (fun h4 => ?_)
      · have e3 : ops = 3 := by omega
        rw [if_pos e3] at q
        row_readAll go
        exact q H (Keep.refl _ _)
      · have e3 : ¬ ops = 3 := by omega
        rw [if_neg e3] at q
        row_readAll go
        refine v_ive (ops := ops + 1) h1 tl (by omega) (by omega) fun H1 k1 => ?_
        cases z : l.ok (ops + 1) <;> rw [z] at q
        · row_readAll go
          exact q H1 k1
        · row_readAll go
          refine v_ive (ops := ops + 1) (h2.mono k1) tr (by omega) (by omega) fun H2 k2 => ?_
          exact q H2 (k1.trans k2)
end M


namespace M
open PySem L2
/-! ### all statements with their paths -/
abbrev Pth := List Nat
def pathD (p : Pth) : PyData := .tuple (p.map fun n => .int (n : Nat))
def rowD (r : Pth × Stm) : PyData := .tuple [pathD r.1, r.2.d]
mutual
def Stm.sub (path : Pth) : Stm → List (Pth × Stm)
  | .fn _ b => walkL (path ++ [0]) 0 b
  | .ite _ b o => walkL (path ++ [0]) 0 b ++ walkL (path ++ [1]) 0 o
  | .tri _ b h => walkL (path ++ [0]) 0 b ++ walkL (path ++ [1]) 0 h
  | _ => []
def walkL (base : Pth) (i : Nat) : List Stm → List (Pth × Stm)
  | [] => []
  | s :: r => (base ++ [i], s) :: (s.sub (base ++ [i]) ++ walkL base (i + 1) r)
end
def subsL (path : Pth) (k : Nat) : List (List Stm) → List (Pth × Stm)
  | [] => []
  | b :: r => walkL (path ++ [k]) 0 b ++ subsL path (k + 1) r
theorem sub_eq (path : Pth) (s : Stm) : s.sub path = subsL path 0 s.blocks := by
  cases s <;> simp [Stm.sub, Stm.blocks, subsL]
theorem walkL_append (base : Pth) : ∀ (a c : List Stm) (j : Nat), walkL base j (a ++ c) = walkL base j a ++ walkL base (j + a.length) c
  | [], c, j => by simp [walkL]
  | s :: r, c, j => by
    simp only [List.cons_append, walkL, walkL_append base r c (j + 1), List.length_cons, List.append_assoc]
    rw [show j + 1 + r.length = j + (r.length + 1) by omega]
theorem subsL_append (path : Pth) : ∀ (a c : List (List Stm)) (j : Nat), subsL path j (a ++ c) = subsL path j a ++ subsL path (j + a.length) c
  | [], c, j => by simp [subsL]
  | s :: r, c, j => by
    simp only [List.cons_append, subsL, subsL_append path r c (j + 1), List.length_cons, List.append_assoc]
    rw [show j + 1 + r.length = j + (r.length + 1) by omega]
theorem split_at {α : Type} {xs : List α} {i : Nat} {x : α} (e : xs[i]? = some x) : xs = xs.take i ++ (x :: xs.drop (i + 1)) := by
  obtain ⟨hi, e2⟩ := List.getElem?_eq_some_iff.mp e
  rw [← e2, ← List.drop_eq_getElem_cons hi, List.take_append_drop]
theorem take_len {α : Type} {xs : List α} {i : Nat} {x : α} (e : xs[i]? = some x) : (xs.take i).length = i := by
  have := get_lt e; simp; omega
theorem walk_split (base : Pth) {b : List Stm} {i : Nat} {s : Stm} (e : b[i]? = some s) : walkL base 0 b = walkL base 0 (b.take i) ++ ((base ++ [i], s) :: (s.sub (base ++ [i]) ++ walkL base (i + 1) (b.drop (i + 1)))) := by
  conv => lhs; rw [split_at e]
  rw [walkL_append, take_len e]
  simp [walkL]
theorem walk_take (base : Pth) {b : List Stm} {i : Nat} {s : Stm} (e : b[i]? = some s) : walkL base 0 (b.take (i + 1)) = walkL base 0 (b.take i) ++ ((base ++ [i], s) :: s.sub (base ++ [i])) := by
  rw [take_snoc e, walkL_append, take_len e]
  simp [walkL]
theorem subs_split (path : Pth) {bs : List (List Stm)} {k : Nat} {b : List Stm} (e : bs[k]? = some b) : subsL path 0 bs = subsL path 0 (bs.take k) ++ (walkL (path ++ [k]) 0 b ++ subsL path (k + 1) (bs.drop (k + 1))) := by
  conv => lhs; rw [split_at e]
  rw [subsL_append, take_len e]
  simp [subsL]
theorem subs_take (path : Pth) {bs : List (List Stm)} {k : Nat} {b : List Stm} (e : bs[k]? = some b) : subsL path 0 (bs.take (k + 1)) = subsL path 0 (bs.take k) ++ walkL (path ++ [k]) 0 b := by
  rw [take_snoc e, subsL_append, take_len e]
  simp [subsL]
theorem blocks_dep {s : Stm} {k : Nat} {b : List Stm} (e : s.blocks[k]? = some b) : depL b < s.dep := by
  have m := List.mem_of_getElem? e
  cases s <;> simp only [Stm.blocks, List.mem_cons, List.not_mem_nil, or_false] at m
  · subst m; simp only [Stm.dep]; omega
  · rcases m with rfl | rfl <;> (simp only [Stm.dep]; omega)
  · rcases m with rfl | rfl <;> (simp only [Stm.dep]; omega)
section
variable {K : PySem.W.Frag} {σ : L2.St} {H : Hp} {Q : VK} {R : L2.St → Hp → Prop}
theorem v_tup2 {a : Addr} {x y : V} {i j : Nat} (h : SqT K H a [x, y]) (q : R ((σ.set i (some x)).set j (some y)) H) : gTup K 2 (gCons (gName i) (gCons (gName j) gNil)) (.ref a) σ H R :=
  s_tup3 h rfl (s_gc (s_gc (s_gn q)))
theorem Im.path {a : Addr} {p : Pth} (h : Im K H (.ref a) (pathD p)) : SqT K H a (p.map fun n => V.int (n : Nat)) := by
  obtain ⟨b, xs, e, hs, ha⟩ := h.of_tup
  cases e
  have key : ∀ (p : Pth) (xs : List V), ImAll K H xs (p.map fun n => PyData.int (n : Nat)) → xs = p.map fun n => V.int (n : Nat) := by
    intro p
    induction p with
    | nil => intro xs h; exact h.of_nil
    | cons n r ih =>
      intro xs h
      obtain ⟨v, r', rfl, h1, h2⟩ := h.of_cons
      rw [h1.of_int, ih r' h2]
      rfl
  rw [key p xs ha] at hs
  exact hs
theorem im_path {a : Addr} {p : Pth} (h : SqT K H a (p.map fun n => V.int (n : Nat))) : Im K H (.ref a) (pathD p) := by
  refine .tup h ?_
  induction p generalizing a with
  | nil => exact .nil
  | cons n r ih =>
    have key : ∀ r : Pth, ImAll K H (r.map fun n => V.int (n : Nat)) (r.map fun n => PyData.int (n : Nat)) := by
      intro r
      induction r with
      | nil => exact .nil
      | cons m r ih => exact .cons (.int _) ih
    exact key (n :: r)
end
def sp_statements_in (K : PySem.W.Frag) (n : Nat) : Sp := fun vs H Q _ => ∃ v bv b base, vs = [v, .ref bv] ∧ Im K H v (.tuple (blkD b)) ∧ Im K H (.ref bv) (pathD base) ∧ depL b < n ∧ (walkL base 0 b).length ≤ 100000 ∧ base.length + 2 * n ≤ 1000 ∧
  ∀ p ws H', H p = none → Keep [] H H' → H' p = some (.lst ws) → ImAll K H' ws ((walkL base 0 b).map rowD) → Q (.ref p) H'
def t_statements_in (K : PySem.W.Frag) (sp : Sp) : TS := (tSeq (tAsg (tLstX tNil) (gName 2))
  (tSeq (tFor (iEnumX K (tCons (tVar 0) tNil)) (gTup K 2 (gCons (gName 3) (gCons (gName 4) gNil))) (tSeq (tAsg (tOp (rAdd K) (tVar 1) (tTupX K (tCons (tVar 3) tNil))) (gName 5))
  (tSeq (tDrop (tBM K "list" rAppend (tVar 2) (tCons (tTupX K (tCons (tVar 5) (tCons (tVar 4) tNil))) tNil)))
  (tFor (iEnumX K (tCons (tCall (sp_blocks_of K) [] E0 (tCons (tVar 4) tNil)) tNil)) (gTup K 2 (gCons (gName 6) (gCons (gName 7) gNil))) (tDrop (tBM K "list" rExtend (tVar 2) (tCons (tCall sp [] E0 (tCons (tVar 7) (tCons (tOp (rAdd K) (tVar 5) (tTupX K (tCons (tVar 6) tNil))) tNil))) tNil)))))))
  (tRet (tVar 2))))
def n_statements_in : List Str := ["block", "base", "found", "index", "statement", "path", "number", "inner"]
theorem pure_statements_in {K : PySem.W.Frag} {n : Nat} (vs : List V) (H : Hp) (Q : VK) (E : XK) (h : sp_statements_in K (n + 1) vs H Q E) : t_statements_in K (sp_statements_in K n) { nx := fun _ H' => Q .non H', rt := Q } (start n_statements_in vs) H := by
  obtain ⟨v, bv, b, base, rfl, hi, hb, hd, hn, hz, q⟩ := h
  show t_statements_in K _ _ [some v, some (.ref bv), none, none, none, none, none, none] H
  unfold t_statements_in
  have sl := sl_eq
  obtain ⟨a, xs, rfl, hs, ha⟩ := hi.of_tup
  have hxl : xs.length = b.length := by rw [ha.length, blkD_length]
  row_readAll go
  refine v_mkL (by row_readAll ln) fun l H1 hl k1 h1 => ?_
  row_readAll go
  refine .inr ⟨⟨_, k1.sqT hs⟩, ?_⟩
  refine loop_ET (xs := xs) (fun i σ' H' => ∃ ws o3 o4 o5 o6 o7, σ' = [some (.ref a), some (.ref bv), some (.ref l), o3, o4, o5, o6, o7] ∧ H' l = some (.lst ws) ∧ ImAll K H' ws ((walkL base 0 (b.take i)).map rowD) ∧ Keep [] H H')
    ⟨[], none, none, none, none, none, rfl, h1, by simpa [walkL] using .nil, k1⟩ (fun i σ' H' _ p => by obtain ⟨_, _, _, _, _, _, _, _, _, k⟩ := p; exact k.sqT hs) ?_ ?_
  · rintro i x T σ' H2 H3 hx ⟨ws, o3, o4, o5, o6, o7, rfl, g2, w2, k2⟩ k3 hT
    obtain ⟨d, hd2, hx2⟩ := ha.get hx
    obtain ⟨s, hs2, rfl⟩ := blkD_get hd2
    have hdep := depL_get hs2
    have wsp := walk_split base hs2
    have hwl : ws.length = (walkL base 0 (b.take i)).length := by rw [w2.length, List.length_map]
    have hn2 : (walkL base 0 (b.take i)).length + 1 + (s.sub (base ++ [i])).length ≤ 100000 := by
      rw [wsp] at hn
      simp only [List.length_append, List.length_cons] at hn
      omega
    have hT3 : SqT K H3 T [.int (i : Nat), x] := hT
    refine v_tup2 hT3 ?_
    row_readAll go
    refine v_mkT (by row_readAll ln) fun p4 H4 f4 k4 g4 => ?_
    have kk4 : Keep [] H H4 := (k2.trans k3).trans k4
    refine v_addT (kk4.sqT hb.path) g4 (by simp; omega) fun p5 H5 k5 g5 => ?_
    row_readAll go
    have kk5 : Keep [] H H5 := kk4.trans k5
    have kc5 : Keep [] H2 H5 := (k3.trans k4).trans k5
    have gl5 := kc5.obj _ _ List.not_mem_nil g2
    refine ⟨.inl ⟨rfl, _, SqL.of gl5⟩, ?_⟩
    refine v_mkT (by row_readAll ln) fun p6 H6 f6 k6 g6 => ?_
    have gl6 := k6.obj _ _ List.not_mem_nil gl5
    refine v_append gl6 (by omega) fun H7 k7 g7 => ?_
    have kk6 : Keep [] H H6 := kk5.trans k6
    have kk7 : Keep [] H H7 := kk6.step1 k7 hl
    have ip5 : Im K H5 (.ref p5) (pathD (base ++ [i])) := im_path (by simpa using g5)
    have w7 : ImAll K H7 (ws ++ [.ref p6]) ((walkL base 0 (b.take i) ++ [(base ++ [i], s)]).map rowD) := by
      rw [List.map_append]
      refine ((w2.mono (kc5.trans k6)).mono k7).append (.cons ?_ .nil)
      exact .tup (k7.sqT g6) (.cons ((ip5.mono k6).mono k7) (.cons (hx2.mono kk7) .nil))
    row_readAll go
    refine ⟨x, s, rfl, hx2.mono kk7, fun p8 H8 k8 i8 => ?_⟩
    obtain ⟨a8, ys, e8, hs8, ha8⟩ := i8.of_tup
    cases e8
    row_readAll go
    refine .inr ⟨⟨_, hs8⟩, ?_⟩
    have kk8 : Keep [] H H8 := kk7.trans k8
    have ipath8 : Im K H8 (.ref p5) (pathD (base ++ [i])) := ((ip5.mono k6).mono k7).mono k8
    have ykl : ys.length = s.blocks.length := by rw [ha8.length, List.length_map]
    refine loop_ET (xs := ys) (fun j σ' H' => ∃ ws o6 o7, σ' = [some (.ref a), some (.ref bv), some (.ref l), some (.int (i : Nat)), some x, some (.ref p5), o6, o7] ∧ H' l = some (.lst ws) ∧ ImAll K H' ws ((walkL base 0 (b.take i) ++ ((base ++ [i], s) :: subsL (base ++ [i]) 0 (s.blocks.take j))).map rowD) ∧ Keep [] H H' ∧ KC [l] H8 H')
      ⟨_, _, _, rfl, k8.obj _ _ List.not_mem_nil g7, by simpa [subsL] using w7.mono k8, kk8, ⟨Keep.refl _ _⟩⟩ (fun j σ' H' _ p => by obtain ⟨_, _, _, _, _, _, _, k⟩ := p; exact k.k.sqT hs8) ?_ ?_
    · rintro j y T2 σ' H9 H10 hy ⟨ws9, o6, o7, rfl, g9, w9, k9, kc9⟩ k10 hT2
      obtain ⟨dd, hdd, hyy⟩ := ha8.get hy
      rw [List.getElem?_map, Option.map_eq_some_iff] at hdd
      obtain ⟨b2, hb2, rfl⟩ := hdd
      have hdep2 := blocks_dep hb2
      have ssp := subs_split (base ++ [i]) hb2
      have hsub : (s.sub (base ++ [i])).length = (subsL (base ++ [i]) 0 (s.blocks.take j)).length + ((walkL (base ++ [i] ++ [j]) 0 b2).length + (subsL (base ++ [i]) (j + 1) (s.blocks.drop (j + 1))).length) := by
        rw [sub_eq, ssp, List.length_append, List.length_append]
      have kk10 : Keep [] H H10 := k9.trans k10
      have kc10 : Keep [l] H8 H10 := kc9.k.step0 k10
      refine v_tup2 hT2 ?_
      row_readAll go
      refine ⟨.inl ⟨rfl, _, SqL.of (k10.obj _ _ List.not_mem_nil g9)⟩, ?_⟩
      refine v_mkT (by row_readAll ln) fun p11 H11 f11 k11 g11 => ?_
      have kc11 : Keep [l] H8 H11 := kc10.step0 k11
      refine v_addT (kc11.sqT ipath8.path) g11 (by simp; omega) fun p12 H12 k12 g12 => ?_
      have kc12 : Keep [l] H8 H12 := kc11.step0 k12
      refine ⟨y, p12, b2, base ++ [i] ++ [j], rfl, hyy.mono kc12, im_path (by simpa using g12), by omega, by omega, by simp; omega, fun p13 ws13 H13 f13 k13 g13 w13 => ?_⟩
      have gl12 := k12.obj _ _ List.not_mem_nil (k11.obj _ _ List.not_mem_nil (k10.obj _ _ List.not_mem_nil g9))
      have gl13 := k13.obj _ _ List.not_mem_nil gl12
      have l9 := w9.length
      have l13 := w13.length
      simp only [List.length_map, List.length_append, List.length_cons] at l9 l13
      refine v_extend gl13 g13 (by omega) fun H14 k14 g14 => ?_
      have kc13 : Keep [] H9 H13 := ((k10.trans k11).trans k12).trans k13
      refine ⟨_, _, _, rfl, g14, ?_, (k9.trans kc13).step1 k14 hl, ⟨(kc9.k.step0 kc13).trans k14⟩⟩
      rw [subs_take _ hb2, ← List.cons_append, ← List.append_assoc, List.map_append]
      exact ((w9.mono kc13).mono k14).append (w13.mono k14)
    · rintro σ' H9 ⟨ws9, o6, o7, rfl, g9, w9, k9, kc9⟩
      refine ⟨ws9, _, _, _, _, _, rfl, g9, ?_, k9⟩
      rw [walk_take base hs2, sub_eq]
      rw [ykl, List.take_length] at w9
      exact w9
  · rintro σ' H2 ⟨ws, o3, o4, o5, o6, o7, rfl, g2, w2, k2⟩
    row_readAll go
    refine q l ws H2 hl k2 g2 ?_
    rw [hxl, List.take_length] at w2
    exact w2
end M


namespace M
open PySem L2
/-! ### faults -/
def Stm.okAt (p : Pth) (s : Stm) : Bool := decide (p.length / 2 ≤ 3) && s.names.all okNB && s.exprs.all (Ex.ok 0)
def Ex.lay (e : Ex) : Prop := e.tx ∧ e.d.canLay0 = true ∧ e.d.depth ≤ 60
def Stm.tx (s : Stm) : Prop := (∀ x ∈ s.names, x.length ≤ 4000 ∧ PyData.strOk x = true) ∧ ∀ e ∈ s.exprs, e.lay
def blkTx (b : List Stm) : Prop := ∀ r ∈ walkL [] 0 b, r.2.tx
def faultIn (rows : List (Pth × Stm)) : Option Pth := (rows.find? fun r => !r.2.okAt r.1).map (·.1)
def firstFault (index : Nat) (name : Str) (b : List Stm) : Option Pth := if 8 ≤ index ∨ okNB name = false ∨ 60 < (walkL [] 0 b).length then some [] else faultIn (walkL [] 0 b)
def optPath (K : PySem.W.Frag) (H : Hp) (o : Option Pth) (v : V) : Prop := match o with
  | none => v = .non
  | some p => ∃ a, v = .ref a ∧ Im K H v (pathD p)
def badName : V → Bool
  | .str x => !okNB x
  | _ => false
theorem strs_dp {K : PySem.W.Frag} {H : Hp} : ∀ l : List Str, DpAll K H (l.map V.str) (l.map PyData.str)
  | [] => .nil
  | x :: r => .cons (.str x) (strs_dp r)
theorem badName_all (l : List Str) : ((l.map V.str).filter badName).isEmpty = l.all okNB := by
  rw [filter_empty, List.all_map]
  congr 1
  funext x
  simp [badName]
theorem ImAll.filter {K : PySem.W.Frag} {H : Hp} {f : V → Bool} : ∀ {xs : List V} {ds : List PyData}, ImAll K H xs ds → ∃ es, ImAll K H (xs.filter f) es ∧ ∀ e ∈ es, e ∈ ds
  | _, _, .nil => ⟨[], .nil, by simp⟩
  | x :: _, d :: _, .cons h t => by
    obtain ⟨es, h1, h2⟩ := ImAll.filter (f := f) t
    rw [List.filter_cons]
    split
    · exact ⟨d :: es, .cons h h1, by intro e m; simp only [List.mem_cons] at m ⊢; rcases m with m | m; exact .inl m; exact .inr (h2 e m)⟩
    · exact ⟨es, h1, fun e m => List.mem_cons_of_mem _ (h2 e m)⟩
def sp_is_valid_statement (K : PySem.W.Frag) : Sp := fun vs H Q _ => ∃ a v p s, vs = [.ref a, v] ∧ Im K H (.ref a) (pathD p) ∧ Im K H v (Stm.d s) ∧ s.tx ∧ ∀ H', Keep [] H H' → Q (.bl (s.okAt p)) H'
def t_is_valid_statement (K : PySem.W.Frag)  : TS := (tSeq (tIfS (tOr (tTest (tOp rGtI (tCall (sp_depth_of K) [] E0 (tCons (tVar 0) tNil)) (tC (.int 3)))) (tTest (tOp (rNeX K) (tLc (iSeq K (tCall (sp_names_of K) [] E0 (tCons (tVar 1) tNil))) (gName 3) (tNot (tB (tCall (sp_is_name K) [] E0 (tCons (tVar 3) tNil)))) (tVar 3) [3]) (tLstX tNil)))) (tRet (tC (.bl false))) tNext)
  (tRet (tOp (rEqX K) (tLc (iSeq K (tCall (sp_expressions_of K) [] E0 (tCons (tVar 1) tNil))) (gName 2) (tNot (tB (tCall (sp_is_valid_expression K 5) [] E0 (tCons (tVar 2) (tCons (tC (.int 0)) tNil))))) (tVar 2) [2]) (tLstX tNil))))
def n_is_valid_statement : List Str := ["path", "statement", "expr", "name"]
theorem exprs_one (s : Stm) : s.exprs = [] ∨ ∃ e, s.exprs = [e] := by
  cases s <;> simp [Stm.exprs]
theorem pure_is_valid_statement {K : PySem.W.Frag} (vs : List V) (H : Hp) (Q : VK) (E : XK) (h : sp_is_valid_statement K vs H Q E) : t_is_valid_statement K { nx := fun _ H' => Q .non H', rt := Q } (start n_is_valid_statement vs) H := by
  obtain ⟨a, v, p, s, rfl, hp, hi, ht, q⟩ := h
  show t_is_valid_statement K _ [some (.ref a), some v, none, none] H
  unfold t_is_valid_statement
  have sl := sl_eq
  row_readAll go
  refine ⟨a, _, rfl, hp.path, ?_⟩
  row_readAll go
  rw [List.length_map]
  refine ite_c (fun h1 => ?_) (fun h1 => ?_)
  · row_readAll go
    have e : s.okAt p = false := by
      unfold Stm.okAt
      rw [decide_eq_false (by omega)]
      simp
    rw [e] at q
    exact q H (Keep.refl _ _)
  row_readAll go
  refine ⟨v, s, rfl, hi, fun p1 H1 k1 s1 => ?_⟩
  row_readAll go
  have ln : s.names.length ≤ 3 := by cases s <;> simp [Stm.names]
  refine .inr ⟨⟨_, s1⟩, ?_⟩
  refine comp_filt badName (Wk.tup s1) (by simp; omega) (by simp) ?_ fun D H2 hD k2 h2 => ?_
  · intro i x H2 R hx k2 r
    simp only [List.getElem?_map, Option.map_eq_some_iff] at hx
    obtain ⟨z, hz, rfl⟩ := hx
    have t := ht.1 z (List.mem_of_getElem? hz)
    row_readAll go
    refine v_isname t.1 t.2 fun H3 k3 => ?_
    row_readAll go
    exact r H3 k3
  row_readAll go
  refine v_mkL (by row_readAll ln) fun l3 H3 f3 k3 h3 => ?_
  obtain ⟨es, he, hm⟩ := dp_filter (K := K) (H := H3) (f := badName) (strs_dp s.names)
  refine v_neNil (k3.obj _ _ List.not_mem_nil h2) he h3 ((shaped_list _).mpr fun d m => ?_) ?_
  · have m2 := hm d m
    simp only [List.mem_map] at m2
    obtain ⟨z, hz, rfl⟩ := m2
    exact ⟨by simp only [PyData.canLay0]; exact (ht.1 z hz).2, by simp [PyData.depth]⟩
  rw [badName_all]
  have kk3 : Keep [] H H3 := (k1.trans k2).trans k3
  cases hn : s.names.all okNB
  · have e : s.okAt p = false := by
      unfold Stm.okAt
      rw [hn]
      simp
    rw [e] at q
    row_readAll go
    exact q H3 kk3
  row_readAll go
  have eo : s.okAt p = s.exprs.all (Ex.ok 0) := by
    unfold Stm.okAt
    rw [hn, decide_eq_true (by omega)]
    simp
  rw [eo] at q
  refine ⟨v, s, rfl, hi.mono kk3, fun p4 H4 k4 i4 => ?_⟩
  obtain ⟨a4, xs, e4, s4, ha4⟩ := i4.of_tup
  cases e4
  row_readAll go
  have lx : xs.length ≤ 1 := by
    rw [ha4.length, List.length_map]
    rcases exprs_one s with e | ⟨e0, e⟩ <;> rw [e] <;> simp
  refine .inr ⟨⟨_, s4⟩, ?_⟩
  have kk4 : Keep [] H H4 := kk3.trans k4
  refine comp_filt (fun _ => !(s.exprs.all (Ex.ok 0))) (Wk.tup s4) (by omega) (by simp) ?_ fun D5 H5 hD5 k5 h5 => ?_
  · intro i x H5 R hx k5 r
    obtain ⟨d, hd, hxd⟩ := ha4.get hx
    rw [List.getElem?_map, Option.map_eq_some_iff] at hd
    obtain ⟨e, he2, rfl⟩ := hd
    have hall : s.exprs.all (Ex.ok 0) = e.ok 0 := by
      rcases exprs_one s with e1 | ⟨e0, e1⟩
      · rw [e1] at he2; simp at he2
      · rw [e1] at he2 ⊢
        have hi0 := get_lt he2
        have : i = 0 := by simp at hi0; omega
        subst this
        simp at he2
        subst he2
        simp
    row_readAll go
    refine v_ive (ops := 0) (hxd.mono k5) (ht.2 e (List.mem_of_getElem? he2)).1 rfl (by decide) fun H6 k6 => ?_
    row_readAll go
    rw [hall] at r
    exact r H6 k6
  row_readAll go
  refine v_mkL (by row_readAll ln) fun l6 H6 f6 k6 h6 => ?_
  obtain ⟨es2, he2, hm2⟩ := (ha4.mono (k5.trans k6)).filter (f := fun _ => !(s.exprs.all (Ex.ok 0)))
  refine v_eqNil (k6.obj _ _ List.not_mem_nil h5) he2.dp h6 ((shaped_list _).mpr fun d m => ?_) ?_
  · have m2 := hm2 d m
    simp only [List.mem_map] at m2
    obtain ⟨z, hz, rfl⟩ := m2
    have t := (ht.2 z hz).2
    exact ⟨t.1, by omega⟩
  have e9 : (xs.filter fun _ => !(s.exprs.all (Ex.ok 0))).isEmpty = s.exprs.all (Ex.ok 0) := by
    have lx2 : xs.length = s.exprs.length := by rw [ha4.length, List.length_map]
    rw [filter_empty]
    rcases exprs_one s with e1 | ⟨e0, e1⟩
    · rw [e1] at lx2 ⊢
      cases xs with
      | nil => simp
      | cons => simp at lx2
    · rw [e1] at lx2 ⊢
      cases xs with
      | nil => simp at lx2
      | cons x r => cases r with
        | nil => simp
        | cons => simp at lx2
  rw [e9]
  exact q H6 ((kk4.trans k5).trans k6)
def sp_first_fault (K : PySem.W.Frag) : Sp := fun vs H Q _ => ∃ v b name, ∃ index : Nat, vs = [.int index, .str name, v] ∧ Im K H v (.tuple (blkD b)) ∧ depL b < 10 ∧ (walkL [] 0 b).length ≤ 100000 ∧ blkTx b ∧ name.length ≤ 4000 ∧ PyData.strOk name = true ∧
  ∀ r H', Keep [] H H' → optPath K H' (firstFault index name b) r → Q r H'
def t_first_fault (K : PySem.W.Frag)  : TS := (tSeq (tAsg (tCall (sp_statements_in K 10) [] E0 (tCons (tVar 2) (tCons (tTupX K tNil) tNil))) (gName 3))
  (tSeq (tIfS (tOr (tTest (tOp rGeI (tVar 0) (tC (.int 8)))) (tOr (tNot (tB (tCall (sp_is_name K) [] E0 (tCons (tVar 1) tNil)))) (tTest (tOp rGtI (tCB (rLen K) (tCons (tVar 3) tNil)) (tC (.int 60)))))) (tRet (tTupX K tNil)) tNext)
  (tSeq (tFor (iSeq K (tVar 3)) (gTup K 2 (gCons (gName 4) (gCons (gName 5) gNil))) (tIfS (tNot (tB (tCall (sp_is_valid_statement K) [] E0 (tCons (tVar 4) (tCons (tVar 5) tNil))))) (tRet (tVar 4)) tNext))
  (tRet (tC .non)))))
def n_first_fault : List Str := ["index", "name", "block", "statements", "path", "statement"]
theorem find_take {α : Type} {f : α → Bool} {xs : List α} {i : Nat} {x : α} (h : ∀ y ∈ xs.take i, f y = false) (e : xs[i]? = some x) (t : f x = true) : xs.find? f = some x := by
  rw [split_at e, List.find?_append, List.find?_eq_none.mpr (fun y m => by simp [h y m])]
  simp [t]
theorem pure_first_fault {K : PySem.W.Frag} (vs : List V) (H : Hp) (Q : VK) (E : XK) (h : sp_first_fault K vs H Q E) : t_first_fault K { nx := fun _ H' => Q .non H', rt := Q } (start n_first_fault vs) H := by
  obtain ⟨v, b, name, index, rfl, hi, hd, hw, hb, hl, ho, q⟩ := h
  show t_first_fault K _ [some (.int index), some (.str name), some v, none, none, none] H
  unfold t_first_fault
  have sl := sl_eq
  row_readAll go
  refine v_mkT (by row_readAll ln) fun p1 H1 f1 k1 s1 => ?_
  refine ⟨v, p1, b, [], rfl, hi.mono k1, im_path s1, hd, hw, by simp, fun l ws H2 f2 k2 h2 w2 => ?_⟩
  have kk2 : Keep [] H H2 := k1.trans k2
  have lw := w2.length
  rw [List.length_map] at lw
  have out : ∀ H', Keep [] H2 H' → firstFault index name b = some [] → mkT K [] H' (fun r H' => Q r H') := fun H' k e => v_mkT (by row_readAll ln) fun p H3 f k3 s3 => q _ H3 (kk2.trans (k.trans k3)) (by rw [e]; exact ⟨p, rfl, im_path s3⟩)
  row_readAll go
  refine ite_c (fun h8 => ?_) (fun h8 => ?_)
  · row_readAll go
    exact out H2 (Keep.refl _ _) (by unfold firstFault; rw [if_pos (.inl (by omega))])
  row_readAll go
  refine v_isname hl ho fun H3 k3 => ?_
  cases hz : okNB name
  · row_readAll go
    exact out H3 k3 (by unfold firstFault; rw [if_pos (.inr (.inl hz))])
  row_readAll go
  refine v_lenL (SqL.of (k3.obj _ _ List.not_mem_nil h2)) ?_
  row_readAll go
  refine ite_c (fun h60 => ?_) (fun h60 => ?_)
  · row_readAll go
    exact out H3 k3 (by unfold firstFault; rw [if_pos (.inr (.inr (by omega)))])
  have e0 : firstFault index name b = faultIn (walkL [] 0 b) := by
    unfold firstFault
    rw [if_neg]
    rintro (h | h | h)
    · omega
    · rw [hz] at h; cases h
    · omega
  rw [e0] at q
  have kk3 : Keep [] H H3 := kk2.trans k3
  row_readAll go
  refine .inl ⟨⟨_, SqL.of (k3.obj _ _ List.not_mem_nil h2)⟩, ?_⟩
  refine loop_W (S := []) (Wk.lst (SqL.of (k3.obj _ _ List.not_mem_nil h2)) List.not_mem_nil) (fun i σ' H' => ∃ o4 o5, σ' = [some (.int index), some (.str name), some v, some (.ref l), o4, o5] ∧ Keep [] H3 H' ∧ ∀ r ∈ (walkL [] 0 b).take i, r.2.okAt r.1 = true) (fun i σ' H' p => by obtain ⟨_, _, _, k, _⟩ := p; exact k) ⟨none, none, rfl, Keep.refl _ _, by simp⟩ ?_ ?_
  · rintro i x σ' H4 H5 hx ⟨o4, o5, rfl, k4, g4⟩ k5
    obtain ⟨d, hd2, hx2⟩ := w2.get hx
    rw [List.getElem?_map, Option.map_eq_some_iff] at hd2
    obtain ⟨⟨p, s⟩, hr, rfl⟩ := hd2
    obtain ⟨a, xs, rfl, sx, ax⟩ := hx2.of_tup
    obtain ⟨v0, r, rfl, i0, ax⟩ := ax.of_cons
    obtain ⟨v1, r, rfl, i1, ax⟩ := ax.of_cons
    cases ax.of_nil
    obtain ⟨a0, xs0, rfl, _, _⟩ := i0.of_tup
    have kk5 : Keep [] H2 H5 := k3.trans (k4.trans k5)
    refine v_tup2 (kk5.sqT sx) ?_
    row_readAll go
    refine ⟨a0, v1, p, s, rfl, i0.mono kk5, i1.mono kk5, hb _ (List.mem_of_getElem? hr), fun H6 k6 => ?_⟩
    cases ht : s.okAt p
    · row_readAll go
      refine q _ H6 (kk2.trans (kk5.trans k6)) ?_
      have e1 : faultIn (walkL [] 0 b) = some p := by
        unfold faultIn
        rw [find_take (x := (p, s)) (fun y m => by simp [g4 y m]) hr (by simp [ht])]
        rfl
      rw [e1]
      exact ⟨a0, rfl, (i0.mono kk5).mono k6⟩
    · row_readAll go
      refine ⟨_, _, rfl, (k4.trans k5).trans k6, fun y m => ?_⟩
      rw [take_snoc hr] at m
      simp only [List.mem_append, List.mem_singleton] at m
      rcases m with m | rfl
      · exact g4 y m
      · exact ht
  · rintro σ' H4 ⟨o4, o5, rfl, k4, g4⟩
    row_readAll go
    refine q _ H4 (kk3.trans k4) ?_
    have e1 : faultIn (walkL [] 0 b) = none := by
      unfold faultIn
      rw [lw, List.take_length] at g4
      rw [List.find?_eq_none.mpr (fun y m => by simp [g4 y m])]
      rfl
    rw [e1]
    exact rfl
end M


namespace M
open PySem L2
/-! ### drawn programs -/
mutual
def Stm.cnt : Stm → Nat
  | .fn _ b => cntL b + 1
  | .ite _ b o => cntL b + cntL o + 1
  | .tri _ b h => cntL b + cntL h + 1
  | _ => 1
def cntL : List Stm → Nat
  | [] => 0
  | s :: r => s.cnt + cntL r
end
theorem cntL_append (a b : List Stm) : cntL (a ++ b) = cntL a + cntL b := by
  induction a with
  | nil => simp [cntL]
  | cons x r ih => simp only [List.cons_append, cntL, ih]; omega
mutual
def Stm.over (ms ns : List Str) : Stm → Prop
  | .set n e => n ∈ ns ∧ e.over ns
  | .del n => n ∈ ns
  | .shw e => e.over ns
  | .call e => e.over ns
  | .raise => True
  | .imp m n => m ∈ ms ∧ n ∈ ns
  | .frm m w n => m ∈ ms ∧ w ∈ ns ∧ n ∈ ns
  | .star m => m ∈ ms
  | .fn n b => n ∈ ns ∧ overL ms ns b
  | .ite e b o => e.over ns ∧ overL ms ns b ∧ overL ms ns o
  | .tri _ b h => overL ms ns b ∧ overL ms ns h
def overL (ms ns : List Str) : List Stm → Prop
  | [] => True
  | s :: r => s.over ms ns ∧ overL ms ns r
end
theorem overL_iff (ms ns : List Str) : ∀ b : List Stm, overL ms ns b ↔ ∀ s ∈ b, s.over ms ns
  | [] => by simp [overL]
  | s :: r => by simp [overL, overL_iff ms ns r]
def noMod : Str := "nomodule"
theorem noMod_ok : okN noMod := okN_of (by decide +kernel)
def stN : Nat → Nat
  | 0 => 13 | 1 => 3 | _ => 1
structure DSt (ms ns : List Str) (d : Nat) (s : Stm) : Prop where
  wf : s.wf
  over : s.over (noMod :: ms) ns
  dep : s.dep + d ≤ 2
  cnt : s.cnt ≤ stN d
theorem DSt.leaf {ms ns : List Str} {d : Nat} {s : Stm} (w : s.wf) (o : s.over (noMod :: ms) ns) (d2 : d ≤ 2) (e : s.dep = 0) (c : s.cnt = 1) : DSt ms ns d s :=
  ⟨w, o, by omega, by rw [c]; have : d = 0 ∨ d = 1 ∨ d = 2 := by omega
                      rcases this with rfl | rfl | rfl <;> decide⟩
def sp_law_load (K : PySem.W.Frag) : Sp := fun vs H Q _ => ∃ h c ml nl ms ns, vs = [.ref h, .ref ml, .ref nl] ∧ Drw H h c ∧ NL H h c ml ms ∧ NL H h c nl ns ∧
  ∀ v s H', Im K H' v (Stm.d s) → (∀ d, d ≤ 2 → DSt ms ns d s) → Keep [h, c] H H' → Drw H' h c → NL H' h c ml ms → NL H' h c nl ns → Q v H'
def t_law_load (K : PySem.W.Frag)  : TS := (tSeq (tAsg (tIf (tTest (tOp rGtI (tCall (sp_law_next K) [] E0 (tCons (tVar 0) (tCons (tC (.int 12)) tNil))) (tC (.int 0)))) (tOp (rIx K) (tVar 1) (tCall (sp_law_next K) [] E0 (tCons (tVar 0) (tCons (tCB (rLen K) (tCons (tVar 1) tNil)) tNil)))) (tC (.str "nomodule"))) (gName 3))
  (tSeq (tPar3 4 5 6 (tCons (tOp (rIx K) (tVar 2) (tCall (sp_law_next K) [] E0 (tCons (tVar 0) (tCons (tCB (rLen K) (tCons (tVar 2) tNil)) tNil)))) (tCons (tOp (rIx K) (tVar 2) (tCall (sp_law_next K) [] E0 (tCons (tVar 0) (tCons (tCB (rLen K) (tCons (tVar 2) tNil)) tNil)))) (tCons (tCall (sp_law_next K) [] E0 (tCons (tVar 0) (tCons (tC (.int 5)) tNil))) tNil))))
  (tSeq (tIfS (tTest (tOp rLtI (tVar 6) (tC (.int 2)))) (tRet (tTupX K (tCons (tC (.str "\x69mport")) (tCons (tVar 3) (tCons (tVar 4) tNil))))) tNext)
  (tRet (tIf (tTest (tOp rLtI (tVar 6) (tC (.int 4)))) (tTupX K (tCons (tC (.str "from")) (tCons (tVar 3) (tCons (tVar 5) (tCons (tVar 4) tNil))))) (tTupX K (tCons (tC (.str "star")) (tCons (tVar 3) tNil))))))))
def n_law_load : List Str := ["_law_h", "_law_modules", "_law_names_here", "_law_target", "_law_name_here", "_law_wanted", "_law_kind"]
theorem q_tPar3 {K : PySem.W.Frag} {σ : L2.St} {H : Hp} {D : Ends} {i j k : Nat} {ta : TA} : tPar3 i j k ta D σ H = ta σ H fun vs H1 => ∃ u v w, vs = [u, v, w] ∧ D.nx (((σ.set i (some u)).set j (some v)).set k (some w)) H1 := rfl
theorem d_target {K : PySem.W.Frag} {H : Hp} {Q : VK} {E : XK} {h c ml : Addr} {ms : List Str} {u : Int} (D : Drw H h c) (M : NL H h c ml ms) (q : ∀ x H', x ∈ noMod :: ms → okN x → Keep [h, c] H H' → Drw H' h c → Q (.str x) H') :
    if decide (0 < u) = true then rLen K [.ref ml] H (fun x H1 => sp_law_next K [.ref h, x] H1 (fun y H2 => rIx K (.ref ml) y H2 Q) E) else Q (.str (Str.ofString "nomodule")) H :=
  ite_c (fun _ => M.draw D fun x H' m o k D' _ => q x H' (List.mem_cons_of_mem _ m) o k D') fun _ => q _ H List.mem_cons_self noMod_ok (Keep.refl _ _) D
theorem pure_law_load {K : PySem.W.Frag} (vs : List V) (H : Hp) (Q : VK) (E : XK) (h : sp_law_load K vs H Q E) : t_law_load K { nx := fun _ H' => Q .non H', rt := Q } (start n_law_load vs) H := by
  obtain ⟨h, c, ml, nl, ms, ns, rfl, D, M, N, q⟩ := h
  show t_law_load K _ [some (.ref h), some (.ref ml), some (.ref nl), none, none, none, none] H
  unfold t_law_load
  row_readAll go
  refine v_nx D (by decide) (by decide) fun u H1 u0 u1 k1 D1 => ?_
  row_readAll go
  refine d_target D1 (M.keep k1) fun t H2 mt ot k2 D2 => ?_
  have k12 : KC [h, c] H H2 := ⟨k1.trans k2⟩
  row_readAll go
  refine (N.keep k12.k).draw D2 fun x H3 mx ox k3 D3 N3 => ?_
  row_readAll go
  refine N3.draw D3 fun y H4 my oy k4 D4 N4 => ?_
  row_readAll go
  refine v_nx D4 (by decide) (by decide) fun w H5 w0 w1 k5 D5 => ?_
  have k15 : KC [h, c] H H5 := ⟨((k12.k.trans k3).trans k4).trans k5⟩
  row_readAll go
  have fin : ∀ (p : Addr) (s : Stm) (H6 : Hp), Keep [] H5 H6 → Im K H6 (.ref p) s.d → s.wf → s.over (noMod :: ms) ns → s.dep = 0 → s.cnt = 1 → Q (.ref p) H6 := fun p s H6 k6 i w o e1 e2 => by
    have kk : Keep [h, c] H H6 := k15.k.step0 k6
    exact q (.ref p) s H6 i (fun d hd => .leaf w o hd e1 e2) kk (D5.k0 k6) (M.keep kk) (N.keep kk)
  refine ite_c (fun h2 => ?_) (fun h2 => ?_)
  · row_readAll go
    refine v_mkT (by row_readAll ln) fun p H6 f6 k6 g6 => ?_
    refine fin p (.imp t x) H6 k6 ?_ (by simp only [Stm.wf]; exact ⟨ot, ox⟩) (by simp only [Stm.over]; exact ⟨mt, mx⟩) rfl rfl
    simp only [Stm.d]
    exact .tup g6 (.cons (.str _) (.cons (.str _) (.cons (.str _) .nil)))
  row_readAll go
  refine ite_c (fun h4 => ?_) (fun h4 => ?_)
  · row_readAll go
    refine v_mkT (by row_readAll ln) fun p H6 f6 k6 g6 => ?_
    refine fin p (.frm t y x) H6 k6 ?_ (by simp only [Stm.wf]; exact ⟨ot, oy, ox⟩) (by simp only [Stm.over]; exact ⟨mt, my, mx⟩) rfl rfl
    simp only [Stm.d]
    exact .tup g6 (.cons (.str _) (.cons (.str _) (.cons (.str _) (.cons (.str _) .nil))))
  · row_readAll go
    refine v_mkT (by row_readAll ln) fun p H6 f6 k6 g6 => ?_
    refine fin p (.star t) H6 k6 ?_ (by simp only [Stm.wf]; exact ot) (by simp only [Stm.over]; exact mt) rfl rfl
    simp only [Stm.d]
    exact .tup g6 (.cons (.str _) (.cons (.str _) .nil))
end M


namespace M
open PySem L2
/-- lists of modules and of names beside a source of draws -/
structure MN (H : Hp) (h c ml nl : Addr) (ms ns : List Str) : Prop where
  d : Drw H h c
  m : NL H h c ml ms
  n : NL H h c nl ns
theorem MN.keep {H H' : Hp} {h c ml nl : Addr} {ms ns : List Str} (x : MN H h c ml nl ms ns) (k : Keep [h, c] H H') (d : Drw H' h c) : MN H' h c ml nl ms ns := ⟨d, x.m.keep k, x.n.keep k⟩
theorem MN.k0 {H H' : Hp} {h c ml nl : Addr} {ms ns : List Str} (x : MN H h c ml nl ms ns) (k : Keep [] H H') : MN H' h c ml nl ms ns := ⟨x.d.k0 k, x.m.k0 k, x.n.k0 k⟩
def sp_law_statement (K : PySem.W.Frag) (n : Nat) : Sp := fun vs H Q _ => ∃ h c ml nl ms ns, ∃ d : Nat, vs = [.ref h, .ref ml, .ref nl, .int d] ∧ MN H h c ml nl ms ns ∧ d ≤ 2 ∧ 2 < n + d ∧
  ∀ v s H', Im K H' v (Stm.d s) → DSt ms ns d s → Keep [h, c] H H' → MN H' h c ml nl ms ns → Q v H'
def sp_law_rows (K : PySem.W.Frag) (n : Nat) : Sp := fun vs H Q _ => ∃ h c ml nl ms ns, ∃ d most : Nat, vs = [.ref h, .ref ml, .ref nl, .int d, .int most] ∧ MN H h c ml nl ms ns ∧ d ≤ 2 ∧ 2 < n + d ∧ most ≤ 1000 ∧
  ∀ v b H', Im K H' v (.tuple (blkD b)) → (∀ s ∈ b, DSt ms ns d s) → b.length ≤ most → Keep [h, c] H H' → MN H' h c ml nl ms ns → Q v H'
def t_law_statement (K : PySem.W.Frag) (sp : Sp) : TS := (tSeq (tPar 7 8 (tCons (tCall (sp_law_next K) [] E0 (tCons (tVar 0) (tCons (tC (.int 17)) tNil))) (tCons (tOp (rIx K) (tVar 2) (tCall (sp_law_next K) [] E0 (tCons (tVar 0) (tCons (tCB (rLen K) (tCons (tVar 2) tNil)) tNil)))) tNil)))
  (tSeq (tIfS (tTest (tOp rLtI (tVar 7) (tC (.int 5)))) (tRet (tCall (sp_law_load K) [] E0 (tCons (tVar 0) (tCons (tVar 1) (tCons (tVar 2) tNil))))) tNext)
  (tSeq (tIfS (tOr (tTest (tOp rLtI (tVar 7) (tC (.int 8)))) (tAnd (tTest (tOp rGtI (tVar 7) (tC (.int 12)))) (tTest (tOp rGtI (tVar 3) (tC (.int 1)))))) (tRet (tTupX K (tCons (tC (.str "set")) (tCons (tVar 8) (tCons (tCall (sp_law_expr K 5) [] E0 (tCons (tVar 0) (tCons (tVar 2) (tCons (tC (.int 2)) tNil)))) tNil))))) tNext)
  (tSeq (tIfS (tTest (tOp rLtI (tVar 7) (tC (.int 11)))) (tRet (tOp (rIx K) (tLstX (tCons (tTupX K (tCons (tC (.str "del")) (tCons (tVar 8) tNil))) (tCons (tTupX K (tCons (tC (.str "show")) (tCons (tCall (sp_law_expr K 5) [] E0 (tCons (tVar 0) (tCons (tVar 2) (tCons (tC (.int 2)) tNil)))) tNil))) (tCons (tTupX K (tCons (tC (.str "show")) (tCons (tTupX K (tCons (tC (.str "name")) (tCons (tVar 8) tNil))) tNil))) tNil)))) (tOp rSubI (tVar 7) (tC (.int 8))))) tNext)
  (tSeq (tIfS (tTest (tOp (rEqX K) (tVar 7) (tC (.int 11)))) (tRet (tTupX K (tCons (tC (.str "call")) (tCons (tIf (tTest (tOp rGtI (tCall (sp_law_next K) [] E0 (tCons (tVar 0) (tCons (tC (.int 4)) tNil))) (tC (.int 0)))) (tTupX K (tCons (tC (.str "name")) (tCons (tVar 8) tNil))) (tCall (sp_law_expr K 5) [] E0 (tCons (tVar 0) (tCons (tVar 2) (tCons (tC (.int 1)) tNil))))) tNil)))) tNext)
  (tSeq (tIfS (tTest (tOp (rEqX K) (tVar 7) (tC (.int 12)))) (tRet (tIf (tTest (tOp (rEqX K) (tCall (sp_law_next K) [] E0 (tCons (tVar 0) (tCons (tC (.int 3)) tNil))) (tC (.int 0)))) (tTupX K (tCons (tC (.str "raise")) tNil)) (tTupX K (tCons (tC (.str "show")) (tCons (tCall (sp_law_integer K) [] E0 (tCons (tVar 0) tNil)) tNil))))) tNext)
  (tSeq (tAsg (tCall sp [] E0 (tCons (tVar 0) (tCons (tVar 1) (tCons (tVar 2) (tCons (tOp (rAdd K) (tVar 3) (tC (.int 1))) (tCons (tOp rSubI (tC (.int 2)) (tVar 3)) tNil)))))) (gName 4))
  (tSeq (tAsg (tCall sp [] E0 (tCons (tVar 0) (tCons (tVar 1) (tCons (tVar 2) (tCons (tOp (rAdd K) (tVar 3) (tC (.int 1))) (tCons (tOp rSubI (tC (.int 2)) (tVar 3)) tNil)))))) (gName 5))
  (tSeq (tIfS (tTest (tOp (rEqX K) (tVar 7) (tC (.int 13)))) (tRet (tTupX K (tCons (tC (.str "def")) (tCons (tVar 8) (tCons (tVar 4) tNil))))) tNext)
  (tSeq (tIfS (tTest (tOp (rEqX K) (tVar 7) (tC (.int 14)))) (tRet (tTupX K (tCons (tC (.str "if")) (tCons (tCall (sp_law_expr K 5) [] E0 (tCons (tVar 0) (tCons (tVar 2) (tCons (tC (.int 1)) tNil)))) (tCons (tVar 4) (tCons (tVar 5) tNil)))))) tNext)
  (tSeq (tAsg (tLstX (tCons (tC (.str "absent")) (tCons (tC (.str "kind")) (tCons (tC (.str "missing")) (tCons (tC (.str "raised")) (tCons (tC (.str "unbound")) (tCons (tC (.str "any")) (tCons (tC (.str "any")) (tCons (tC (.str "any")) tNil))))))))) (gName 6))
  (tRet (tTupX K (tCons (tC (.str "try")) (tCons (tOp (rIx K) (tVar 6) (tCall (sp_law_next K) [] E0 (tCons (tVar 0) (tCons (tC (.int 8)) tNil)))) (tCons (tVar 4) (tCons (tVar 5) tNil)))))))))))))))))
def n_law_statement : List Str := ["_law_h", "_law_modules", "_law_names_here", "_law_depth", "_law_block", "_law_other", "_law_kinds", "_law_kind", "_law_name_here"]
def t_law_rows (K : PySem.W.Frag) (sp : Sp) : TS := (tRet (tThen (tLc (iRng1 (tCons (tCall (sp_law_next K) [] E0 (tCons (tVar 0) (tCons (tOp (rAdd K) (tVar 4) (tC (.int 1))) tNil))) tNil)) (gName 5) tYes (tCall sp [] E0 (tCons (tVar 0) (tCons (tVar 1) (tCons (tVar 2) (tCons (tVar 3) tNil))))) [5]) (kTup K)))
def n_law_rows : List Str := ["_law_h", "_law_modules", "_law_names_here", "_law_depth", "_law_most", "_law_k"]
theorem v_rows {K : PySem.W.Frag} {n : Nat} {H : Hp} {Q : VK} {E : XK} {h c ml nl : Addr} {ms ns : List Str} {d most : Nat} {di mi : Int} (x : MN H h c ml nl ms ns) (ed : di = (d : Nat)) (em : mi = (most : Nat)) (d2 : d ≤ 2) (dn : 2 < n + d) (m : most ≤ 1000)
    (q : ∀ v b H', Im K H' v (.tuple (blkD b)) → (∀ s ∈ b, DSt ms ns d s) → b.length ≤ most → Keep [h, c] H H' → MN H' h c ml nl ms ns → Q v H') : sp_law_rows K n [.ref h, .ref ml, .ref nl, .int di, .int mi] H Q E := by
  subst ed em
  exact ⟨h, c, ml, nl, ms, ns, d, most, rfl, x, d2, dn, m, q⟩
theorem dsts_wf {ms ns : List Str} {d : Nat} {b : List Stm} (h : ∀ s ∈ b, DSt ms ns d s) : wfL b ∧ overL (noMod :: ms) ns b ∧ depL b + d ≤ max 2 d ∧ cntL b ≤ b.length * stN d := by
  induction b with
  | nil => simp [wfL, overL, depL, cntL]; omega
  | cons x r ih =>
    obtain ⟨a1, a2, a3, a4⟩ := ih fun s m => h s (List.mem_cons_of_mem _ m)
    have hx := h x List.mem_cons_self
    have := hx.dep
    have := hx.cnt
    refine ⟨by simp only [wfL]; exact ⟨hx.wf, a1⟩, by simp only [overL]; exact ⟨hx.over, a2⟩, by simp only [depL]; omega, ?_⟩
    simp only [cntL, List.length_cons, Nat.succ_mul]
    omega
def kinds8 : List Str := ["absent", "kind", "missing", "raised", "unbound", "any", "any", "any"]
theorem kinds8_in : ∀ x ∈ kinds8, x ∈ kinds := by
  intro x m
  unfold kinds8 at m
  unfold kinds
  simp only [List.mem_cons, List.not_mem_nil, or_false] at m ⊢
  rcases m with rfl | rfl | rfl | rfl | rfl | rfl | rfl | rfl <;> simp
theorem d_or {p8 p12 p1 : Prop} [Decidable p8] [Decidable p12] [Decidable p1] {A R : Prop} (ha : A) (hr : ¬ p8 → ¬ (p12 ∧ p1) → R) :
    if decide p8 = true then A else if decide p12 = true then (if decide p1 = true then A else R) else R := by
  refine ite_c (fun _ => ha) fun h8 => ?_
  refine ite_c (fun h12 => ite_c (fun _ => ha) fun h1 => hr h8 fun z => h1 z.2) fun h12 => hr h8 fun z => h12 z.1
theorem pure_law_statement {K : PySem.W.Frag} {n : Nat} (vs : List V) (H : Hp) (Q : VK) (E : XK) (h : sp_law_statement K (n + 1) vs H Q E) : t_law_statement K (sp_law_rows K n) { nx := fun _ H' => Q .non H', rt := Q } (start n_law_statement vs) H := by
  obtain ⟨h, c, ml, nl, ms, ns, d, rfl, X, d2, dn, q⟩ := h
  show t_law_statement K _ _ [some (.ref h), some (.ref ml), some (.ref nl), some (.int d), none, none, none, none, none] H
  unfold t_law_statement
  row_readAll go
  refine v_nx X.d (by decide) (by decide) fun u H1 u0 u1 k1 D1 => ?_
  have X1 := X.keep k1 D1
  row_readAll go
  refine X1.n.draw D1 fun z H2 mz oz k2 D2 _ => ?_
  have X2 := X1.keep k2 D2
  have k12 : KC [h, c] H H2 := ⟨k1.trans k2⟩
  row_readAll go
  have leaf : ∀ (p : Addr) (s : Stm) (H6 : Hp), Keep [h, c] H2 H6 → MN H6 h c ml nl ms ns → Im K H6 (.ref p) s.d → s.wf → s.over (noMod :: ms) ns → s.dep = 0 → s.cnt = 1 → Q (.ref p) H6 := fun p s H6 k6 X6 i w o e1 e2 => q (.ref p) s H6 i (.leaf w o d2 e1 e2) (k12.k.trans k6) X6
  refine ite_c (fun h5 => ?_) (fun h5 => ?_)
  · row_readAll go
    exact ⟨h, c, ml, nl, ms, ns, rfl, X2.d, X2.m, X2.n, fun v s H3 i3 s3 k3 D3 M3 N3 => q v s H3 i3 (s3 d d2) (k12.k.trans k3) ⟨D3, M3, N3⟩⟩
  row_readAll go
  refine d_or ?_ fun h8 h12 => ?_
  · row_readAll go
    refine v_lx X2.d X2.n (by decide) (by decide) fun v e H4 i4 w4 o4 k4 D4 N4 => ?_
    refine v_mkT (by row_readAll ln) fun p5 H5 f5 k5 g5 => ?_
    refine leaf p5 (.set z e) H5 (k4.step0 k5) ((X2.keep k4 D4).k0 k5) ?_ (by simp only [Stm.wf]; exact ⟨oz, w4.mono (by decide)⟩) (by simp only [Stm.over]; exact ⟨mz, o4⟩) rfl rfl
    simp only [Stm.d]
    exact .tup g5 (.cons (.str _) (.cons (.str _) (.cons (i4.mono k5) .nil)))
  row_readAll go
  refine ite_c (fun h11 => ?_) (fun h11 => ?_)
  · row_readAll go
    refine v_mkT (by row_readAll ln) fun p4 H4 f4 k4 g4 => ?_
    row_readAll go
    have X4 := X2.k0 k4
    refine v_lx X4.d X4.n (by decide) (by decide) fun v5 e5 H5 i5 w5 o5 k5 D5 N5 => ?_
    refine v_mkT (by row_readAll ln) fun p6 H6 f6 k6 g6 => ?_
    row_readAll go
    refine v_mkT (by row_readAll ln) fun p7 H7 f7 k7 g7 => ?_
    row_readAll go
    refine v_mkT (by row_readAll ln) fun p8 H8 f8 k8 g8 => ?_
    refine v_mkL (by row_readAll ln) fun pa Ha fa ka ga => ?_
    row_readAll go
    have k6a : Keep [] H6 Ha := (k7.trans k8).trans ka
    have Xa : MN Ha h c ml nl ms ns := ((X4.keep k5 D5).k0 k6).k0 k6a
    have kk : Keep [h, c] H2 Ha := ((k4.nil.trans k5).step0 k6).step0 k6a
    have hu : u = 8 ∨ u = 9 ∨ u = 10 := by omega
    rcases hu with rfl | rfl | rfl
    · refine v_ixL (SqL.of ga) rfl ?_
      refine leaf p4 (.del z) Ha kk Xa ?_ (by simp only [Stm.wf]; exact oz) (by simp only [Stm.over]; exact mz) rfl rfl
      simp only [Stm.d]
      exact .tup (k6a.sqT (k6.sqT (k5.sqT g4))) (.cons (.str _) (.cons (.str _) .nil))
    · refine v_ixL (SqL.of ga) rfl ?_
      refine leaf p6 (.shw e5) Ha kk Xa ?_ (by simp only [Stm.wf]; exact w5.mono (by decide)) (by simp only [Stm.over]; exact o5) rfl rfl
      simp only [Stm.d]
      exact .tup (k6a.sqT g6) (.cons (.str _) (.cons ((i5.mono k6).mono k6a) .nil))
    · refine v_ixL (SqL.of ga) rfl ?_
      refine leaf p8 (.shw (.nm z)) Ha kk Xa ?_ (by simp only [Stm.wf]; exact oz) (by simp only [Stm.over]; exact mz) rfl rfl
      simp only [Stm.d, Ex.d]
      exact .tup (ka.sqT g8) (.cons (.str _) (.cons (.tup (ka.sqT (k8.sqT g7)) (.cons (.str _) (.cons (.str _) .nil))) .nil))
  row_readAll go
  refine ite_c (fun h11b => ?_) (fun h11b => ?_)
  · row_readAll go
    refine v_nx X2.d (by decide) (by decide) fun w H3 w0 w1 k3 D3 => ?_
    have X3 := X2.keep k3 D3
    row_readAll go
    refine ite_c (fun h0 => ?_) (fun h0 => ?_)
    · row_readAll go
      refine v_mkT (by row_readAll ln) fun p7 H7 f7 k7 g7 => ?_
      row_readAll go
      refine v_mkT (by row_readAll ln) fun p8 H8 f8 k8 g8 => ?_
      refine leaf p8 (.call (.nm z)) H8 ((k3.step0 k7).step0 k8) ((X3.k0 k7).k0 k8) ?_ (by simp only [Stm.wf]; exact oz) (by simp only [Stm.over]; exact mz) rfl rfl
      simp only [Stm.d, Ex.d]
      exact .tup g8 (.cons (.str _) (.cons (.tup (k8.sqT g7) (.cons (.str _) (.cons (.str _) .nil))) .nil))
    · row_readAll go
      refine v_lx X3.d X3.n (by decide) (by decide) fun v5 e5 H5 i5 w5 o5 k5 D5 N5 => ?_
      refine v_mkT (by row_readAll ln) fun p8 H8 f8 k8 g8 => ?_
      refine leaf p8 (.call e5) H8 ((k3.trans k5).step0 k8) ((X3.keep k5 D5).k0 k8) ?_ (by simp only [Stm.wf]; exact w5.mono (by decide)) (by simp only [Stm.over]; exact o5) rfl rfl
      simp only [Stm.d]
      exact .tup g8 (.cons (.str _) (.cons (i5.mono k8) .nil))
  row_readAll go
  refine ite_c (fun h12b => ?_) (fun h12b => ?_)
  · row_readAll go
    refine v_nx X2.d (by decide) (by decide) fun w H3 w0 w1 k3 D3 => ?_
    have X3 := X2.keep k3 D3
    row_readAll go
    refine ite_c (fun h0 => ?_) (fun h0 => ?_)
    · row_readAll go
      refine v_mkT (by row_readAll ln) fun p8 H8 f8 k8 g8 => ?_
      refine leaf p8 .raise H8 (k3.step0 k8) (X3.k0 k8) ?_ (by simp only [Stm.wf]) (by simp only [Stm.over]) rfl rfl
      simp only [Stm.d]
      exact .tup g8 (.cons (.str _) .nil)
    · row_readAll go
      refine v_li X3.d fun i H5 oi k5 D5 => ?_
      refine v_mkT (by row_readAll ln) fun p8 H8 f8 k8 g8 => ?_
      refine leaf p8 (.shw (.int i)) H8 ((k3.trans k5).step0 k8) ((X3.keep k5 D5).k0 k8) ?_ (by simp only [Stm.wf]; exact oi) (by simp only [Stm.over, Ex.over]) rfl rfl
      simp only [Stm.d, Ex.d]
      exact .tup g8 (.cons (.str _) (.cons (.int _) .nil))
  have d1 : d ≤ 1 := by omega
  row_readAll go
  refine v_rows (d := d + 1) (most := 2 - d) X2 (by omega) (by omega) (by omega) (by omega) (by omega) fun v6 b6 H6 i6 r6 l6 k6 X6 => ?_
  row_readAll go
  refine v_rows (d := d + 1) (most := 2 - d) X6 (by omega) (by omega) (by omega) (by omega) (by omega) fun v7 b7 H7 i7 r7 l7 k7 X7 => ?_
  row_readAll go
  have k17 : KC [h, c] H H7 := ⟨(k12.k.trans k6).trans k7⟩
  have i67 := i6.mono k7
  obtain ⟨w6, ov6, dp6, ct6⟩ := dsts_wf r6
  obtain ⟨w7, ov7, dp7, ct7⟩ := dsts_wf r7
  have cc : cntL b6 + cntL b7 + 1 ≤ stN d ∧ cntL b6 + 1 ≤ stN d := by
    have : d = 0 ∨ d = 1 := by omega
    rcases this with rfl | rfl
    · have e1 : stN (0 + 1) = 3 := rfl
      have e2 : stN 0 = 13 := rfl
      rw [e1] at ct6 ct7
      rw [e2]
      omega
    · have e1 : stN (1 + 1) = 1 := rfl
      have e2 : stN 1 = 3 := rfl
      rw [e1] at ct6 ct7
      rw [e2]
      omega
  refine ite_c (fun h13 => ?_) (fun h13 => ?_)
  · row_readAll go
    refine v_mkT (by row_readAll ln) fun p9 H9 f9 k9 g9 => ?_
    refine q (.ref p9) (.fn z b6) H9 ?_ ⟨by simp only [Stm.wf]; exact ⟨oz, w6⟩, by simp only [Stm.over]; exact ⟨mz, ov6⟩, by simp only [Stm.dep]; omega, by simp only [Stm.cnt]; omega⟩ (k17.k.step0 k9) (X7.k0 k9)
    simp only [Stm.d]
    exact .tup g9 (.cons (.str _) (.cons (.str _) (.cons (i67.mono k9) .nil)))
  row_readAll go
  refine ite_c (fun h14 => ?_) (fun h14 => ?_)
  · row_readAll go
    refine v_lx X7.d X7.n (by decide) (by decide) fun ve e Hb ib wb ob kb Db Nb => ?_
    refine v_mkT (by row_readAll ln) fun p9 H9 f9 k9 g9 => ?_
    refine q (.ref p9) (.ite e b6 b7) H9 ?_ ⟨by simp only [Stm.wf]; exact ⟨wb.mono (by decide), w6, w7⟩, by simp only [Stm.over]; exact ⟨ob, ov6, ov7⟩, by simp only [Stm.dep]; omega, by simp only [Stm.cnt]; omega⟩ ((k17.k.trans kb).step0 k9) ((X7.keep kb Db).k0 k9)
    simp only [Stm.d]
    exact .tup g9 (.cons (.str _) (.cons (ib.mono k9) (.cons ((i67.mono kb).mono k9) (.cons ((i7.mono kb).mono k9) .nil))))
  row_readAll go
  refine v_mkL (by row_readAll ln) fun p9 H9 f9 k9 g9 => ?_
  have np := X7.d.ne1 f9
  row_readAll go
  refine v_nx (X7.d.k0 k9) (by decide) (by decide) fun w Ha w0 w1 ka Da => ?_
  have ga := ka.obj _ _ (by simp [np.1, np.2]) g9
  obtain ⟨y2, hy, ha⟩ := atI_lt (xs := kinds8.map V.str) w0 (by show w < 8; exact w1)
  rw [List.getElem?_map] at hy
  cases hz : kinds8[w.toNat]? with
  | none => rw [hz] at hy; cases hy
  | some kd =>
  rw [hz] at hy
  cases hy
  refine v_ixL (xs := kinds8.map V.str) (SqL.of ga) ha ?_
  refine v_mkT (by row_readAll ln) fun pc Hc fc kc gc => ?_
  refine q (.ref pc) (.tri kd b6 b7) Hc ?_ ⟨by simp only [Stm.wf]; exact ⟨kinds8_in _ (List.mem_of_getElem? hz), w6, w7⟩, by simp only [Stm.over]; exact ⟨ov6, ov7⟩, by simp only [Stm.dep]; omega, by simp only [Stm.cnt]; omega⟩ (((k17.k.step0 k9).trans ka).step0 kc) (((X7.k0 k9).keep ka Da).k0 kc)
  simp only [Stm.d]
  exact .tup gc (.cons (.str _) (.cons (.str _) (.cons (((i67.mono k9).mono ka).mono kc) (.cons (((i7.mono k9).mono ka).mono kc) .nil))))
end M


namespace M
open PySem L2
theorem pure_law_rows {K : PySem.W.Frag} {n : Nat} (vs : List V) (H : Hp) (Q : VK) (E : XK) (h : sp_law_rows K n vs H Q E) : t_law_rows K (sp_law_statement K n) { nx := fun _ H' => Q .non H', rt := Q } (start n_law_rows vs) H := by
  obtain ⟨h, c, ml, nl, ms, ns, d, most, rfl, X, d2, dn, hm, q⟩ := h
  show t_law_rows K _ _ [some (.ref h), some (.ref ml), some (.ref nl), some (.int d), some (.int most), none] H
  unfold t_law_rows
  have sl := sl_eq
  row_readAll go
  refine v_nx X.d (by omega) (by omega) fun u H2 u0 u1 k2 D2 => ?_
  have X2 := X.keep k2 D2
  row_readAll go
  refine ⟨by omega, by omega, ?_⟩
  refine comp_gen u.toNat (fun Dd i H' => ∃ (vs : List V) (b : List Stm), H' Dd = some (.lst vs) ∧ ImAll K H' vs (blkD b) ∧ b.length = i ∧ (∀ s ∈ b, DSt ms ns d s) ∧ Keep [h, c] H2 H' ∧ MN H' h c ml nl ms ns) ?_ ?_ ?_ ?_ ?_
  · exact fun Dd H6 _ k6 g6 => ⟨[], [], g6, by simp [blkD]; exact .nil, rfl, by simp, k6.nil, X2.k0 k6⟩
  · exact fun Dd H6 _ => Nat.le_refl _
  · exact fun Dd i H6 hi _ => hi
  · rintro Dd i H6 x H7 fD hi ⟨vs, b, gv, iv, lb, ok, k6, X6⟩ ⟨rfl, rfl⟩
    row_readAll go
    refine ⟨h, c, ml, nl, ms, ns, d, rfl, X6, d2, dn, fun v s H8 i8 r8 k8 X8 => ?_⟩
    have npD := X2.d.ne1 fD
    have gl8 := k8.obj _ _ (by simp [npD.1, npD.2]) gv
    have kp : Keep [Dd] H8 (upd H8 Dd (.lst (vs ++ [v]))) := Keep.put gl8 True.intro
    have nlD : nl ≠ Dd := fun e => by
      subst e
      have := X2.n.at_
      rw [fD] at this; cases this
    have mlD : ml ≠ Dd := fun e => by
      subst e
      have := X2.m.at_
      rw [fD] at this; cases this
    refine ⟨vs, gl8, by have := iv.length; rw [blkD_length] at this; omega, vs ++ [v], b ++ [s], upd_same, ?_, by simp [lb], ?_, (k6.trans k8).step1 kp fD, X8.d.keep kp (by simp [Ne.symm npD.1]) (by simp [Ne.symm npD.2]), ⟨kp.obj _ _ (by simp [mlD]) X8.m.at_, X8.m.ne, X8.m.few, X8.m.ok, X8.m.n1, X8.m.n2⟩, ⟨kp.obj _ _ (by simp [nlD]) X8.n.at_, X8.n.ne, X8.n.few, X8.n.ok, X8.n.n1, X8.n.n2⟩⟩
    · have e : blkD (b ++ [s]) = blkD b ++ [s.d] := by simp [blkD_map]
      rw [e]
      exact ((iv.mono k8).snoc i8).mono kp
    · intro a m
      simp only [List.mem_append, List.mem_singleton] at m
      rcases m with m | rfl
      · exact ok a m
      · exact r8
  · rintro Dd H6 fD ⟨vs, b, gv, iv, lb, ok, k6, X6⟩
    refine v_tupOf (SqL.of gv) fun l H7 fl k7 gl => ?_
    exact q (.ref l) b H7 (.tup gl (iv.mono k7)) ok (by omega) ((k2.trans k6).trans k7.nil) (X6.k0 k7)
theorem MN.put {H H' : Hp} {h c ml nl p : Addr} {ms ns : List Str} (x : MN H h c ml nl ms ns) (k : Keep [p] H H') (n1 : p ≠ h) (n2 : p ≠ c) (n3 : p ≠ ml) (n4 : p ≠ nl) : MN H' h c ml nl ms ns :=
  ⟨x.d.keep k (by simp [Ne.symm n1]) (by simp [Ne.symm n2]), ⟨k.obj _ _ (by simp [Ne.symm n3]) x.m.at_, x.m.ne, x.m.few, x.m.ok, x.m.n1, x.m.n2⟩, ⟨k.obj _ _ (by simp [Ne.symm n4]) x.n.at_, x.n.ne, x.n.few, x.n.ok, x.n.n1, x.n.n2⟩⟩
theorem MN.fresh {H : Hp} {h c ml nl p : Addr} {ms ns : List Str} (x : MN H h c ml nl ms ns) (f : H p = none) : p ≠ h ∧ p ≠ c ∧ p ≠ ml ∧ p ≠ nl := by
  have h1 := x.d.ne1 f
  refine ⟨h1.1, h1.2, fun e => ?_, fun e => ?_⟩
  · subst e; have := x.m.at_; rw [f] at this; cases this
  · subst e; have := x.n.at_; rw [f] at this; cases this
/-- a drawn beginning of a block -/
structure DFst (ms ns : List Str) (b : List Stm) : Prop where
  wf : wfL b
  over : overL (noMod :: ms) ns b
  dep : depL b ≤ 1
  cnt : cntL b ≤ 2 * b.length
theorem DFst.snoc {ms ns : List Str} {b : List Stm} {s : Stm} (x : DFst ms ns b) (w : s.wf) (o : s.over (noMod :: ms) ns) (d : s.dep ≤ 1) (c : s.cnt ≤ 2) : DFst ms ns (b ++ [s]) := by
  refine ⟨(wfL_iff _).mpr ?_, (overL_iff _ _ _).mpr ?_, ?_, ?_⟩
  · intro t m; simp only [List.mem_append, List.mem_singleton] at m
    rcases m with m | rfl
    · exact (wfL_iff _).mp x.wf t m
    · exact w
  · intro t m; simp only [List.mem_append, List.mem_singleton] at m
    rcases m with m | rfl
    · exact (overL_iff _ _ _).mp x.over t m
    · exact o
  · rw [depL_append]; have := x.dep; omega
  · rw [cntL_append]; have := x.cnt; simp [cntL]; omega
def sp_law_first_rows (K : PySem.W.Frag) : Sp := fun vs H Q _ => ∃ h c ml nl ms ns, vs = [.ref h, .ref ml, .ref nl] ∧ MN H h c ml nl ms ns ∧
  ∀ v b H', Im K H' v (.tuple (blkD b)) → DFst ms ns b → b.length ≤ ns.length → Keep [h, c] H H' → MN H' h c ml nl ms ns → Q v H'
def t_law_first_rows (K : PySem.W.Frag)  : TS := (tSeq (tAsg (tLstX tNil) (gName 3))
  (tSeq (tFor (iSeq K (tVar 2)) (gName 4) (tSeq (tAsg (tCall (sp_law_next K) [] E0 (tCons (tVar 0) (tCons (tC (.int 4)) tNil))) (gName 5))
  (tSeq (tIfS (tTest (tOp (rEqX K) (tVar 5) (tC (.int 1)))) (tDrop (tBM K "list" rAppend (tVar 3) (tCons (tTupX K (tCons (tC (.str "set")) (tCons (tVar 4) (tCons (tCall (sp_law_integer K) [] E0 (tCons (tVar 0) tNil)) tNil)))) tNil))) tNext)
  (tIfS (tTest (tOp (rEqX K) (tVar 5) (tC (.int 2)))) (tDrop (tBM K "list" rAppend (tVar 3) (tCons (tTupX K (tCons (tC (.str "def")) (tCons (tVar 4) (tCons (tCall (sp_law_rows K 3) [] E0 (tCons (tVar 0) (tCons (tVar 1) (tCons (tVar 2) (tCons (tC (.int 2)) (tCons (tC (.int 1)) tNil)))))) tNil)))) tNil))) tNext))))
  (tRet (tThen (tVar 3) (kTup K)))))
def n_law_first_rows : List Str := ["_law_h", "_law_modules", "_law_names_here", "_law_found", "_law_name_here", "_law_kind"]
theorem q_skip {A R : Prop} : (if false = true then A else R) = R := by simp
theorem pure_law_first_rows {K : PySem.W.Frag} (vs : List V) (H : Hp) (Q : VK) (E : XK) (h : sp_law_first_rows K vs H Q E) : t_law_first_rows K { nx := fun _ H' => Q .non H', rt := Q } (start n_law_first_rows vs) H := by
  obtain ⟨h, c, ml, nl, ms, ns, rfl, X, q⟩ := h
  show t_law_first_rows K _ [some (.ref h), some (.ref ml), some (.ref nl), none, none, none] H
  unfold t_law_first_rows
  have sl := sl_eq
  have few := X.n.few
  row_readAll go
  refine v_mkL (by row_readAll ln) fun l H1 f1 k1 g1 => ?_
  have X1 := X.k0 k1
  have nf := X.fresh f1
  row_readAll go
  refine .inl ⟨⟨_, SqL.of X1.n.at_⟩, ?_⟩
  refine loop_W (S := [h, c, l]) (Wk.lst (SqL.of X1.n.at_) (by simp [X.n.n1, X.n.n2, Ne.symm nf.2.2.2])) (fun i σ' H' => ∃ o4 o5 vs b, σ' = [some (.ref h), some (.ref ml), some (.ref nl), some (.ref l), o4, o5] ∧ H' l = some (.lst vs) ∧ ImAll K H' vs (blkD b) ∧ DFst ms ns b ∧ b.length ≤ i ∧ Keep [h, c, l] H1 H' ∧ Keep [h, c] H H' ∧ MN H' h c ml nl ms ns)
    (fun i σ' H' p => by obtain ⟨_, _, _, _, _, _, _, _, _, k, _, _⟩ := p; exact k)
    ⟨none, none, [], [], rfl, g1, by simp [blkD]; exact .nil, ⟨by simp [wfL], by simp [overL], by simp [depL], by simp [cntL]⟩, by simp, Keep.refl _ _, k1.nil, X1⟩ ?_ ?_
  · rintro i x σ' H2 H3 hx ⟨o4, o5, vs, b, rfl, g2, iv, db, lb, kS, kH, X2⟩ k3
    rw [List.getElem?_map, Option.map_eq_some_iff] at hx
    obtain ⟨z, hz, rfl⟩ := hx
    have mz := List.mem_of_getElem? hz
    have oz := X.n.ok z mz
    have X3 := X2.k0 k3
    row_readAll go
    refine v_nx X3.d (by decide) (by decide) fun u H4 u0 u1 k4 D4 => ?_
    have X4 := X3.keep k4 D4
    have g4 := k4.obj _ _ (by simp [nf.1, nf.2.1]) (k3.obj _ _ List.not_mem_nil g2)
    have kS4 : Keep [h, c, l] H1 H4 := kS.trans ((k3.nil.trans k4).mono (by intro a m; simp at m ⊢; rcases m with rfl | rfl <;> simp))
    have kH4 : Keep [h, c] H H4 := kH.trans (k3.nil.trans k4)
    have iv4 := (iv.mono k3).mono k4
    have lv := iv.length
    rw [blkD_length] at lv
    have hi := get_lt hz
    have add : ∀ (p : Addr) (s : Stm) (H5 : Hp) (R : Hp → Prop) (σ : L2.St), σ = [some (.ref h), some (.ref ml), some (.ref nl), some (.ref l), some (.str z), some (.int u)] → Keep [h, c] H4 H5 → MN H5 h c ml nl ms ns → Im K H5 (.ref p) s.d → s.wf → s.over (noMod :: ms) ns → s.dep ≤ 1 → s.cnt ≤ 2 →
        (∀ H6, (∃ o4 o5 vs b, σ = [some (.ref h), some (.ref ml), some (.ref nl), some (.ref l), o4, o5] ∧ H6 l = some (.lst vs) ∧ ImAll K H6 vs (blkD b) ∧ DFst ms ns b ∧ b.length ≤ i + 1 ∧ Keep [h, c, l] H1 H6 ∧ Keep [h, c] H H6 ∧ MN H6 h c ml nl ms ns) → R H6) → rAppend (.ref l) [.ref p] H5 (fun _ H6 => R H6) := by
      intro p s H5 R σ es k5 X5 i5 w o d c2 r
      have g5 := k5.obj _ _ (by simp [nf.1, nf.2.1]) g4
      refine v_append g5 (by omega) fun H6 k6 g6 => r H6 ⟨_, _, vs ++ [.ref p], b ++ [s], es, g6, ?_, db.snoc w o d c2, by simp; omega, ?_, ?_, X5.put k6 nf.1 nf.2.1 nf.2.2.1 nf.2.2.2⟩
      · have e : blkD (b ++ [s]) = blkD b ++ [s.d] := by simp [blkD_map]
        rw [e]
        exact ((iv4.mono k5).snoc i5).mono k6
      · exact (kS4.trans (k5.mono (by intro a m; simp at m ⊢; rcases m with rfl | rfl <;> simp))).trans (k6.mono (by intro a m; simp at m ⊢; simp [m]))
      · exact (kH4.trans k5).step1 k6 f1
    row_readAll go
    refine ite_c (fun h1 => ?_) (fun h1 => ?_)
    · row_readAll go
      refine ⟨.inl ⟨rfl, _, SqL.of g4⟩, ?_⟩
      refine v_li X4.d fun j H5 oj k5 D5 => ?_
      row_readAll go
      refine v_mkT (by row_readAll ln) fun p H6 f6 k6 g6 => ?_
      refine add p (.set z (.int j)) H6 (fun H6 => Nx _ _ _ H6) _ rfl (k5.step0 k6) ((X4.keep k5 D5).k0 k6) ?_ (by simp only [Stm.wf]; exact ⟨oz, oj⟩) (by simp only [Stm.over, Ex.over]; exact ⟨mz, trivial⟩) (by simp [Stm.dep]) (by simp [Stm.cnt]) ?_
      · simp only [Stm.d, Ex.d]
        exact .tup g6 (.cons (.str _) (.cons (.str _) (.cons (.int _) .nil)))
      intro H7 hh
      row_readAll go
      refine ite_n (by omega) ?_
      row_readAll go
      exact hh
    row_readAll go
    refine ite_c (fun h2 => ?_) (fun h2 => ?_)
    · row_readAll go
      refine ⟨.inl ⟨rfl, _, SqL.of g4⟩, ?_⟩
      refine v_rows (d := 2) (most := 1) X4 rfl rfl (by decide) (by decide) (by decide) fun v5 b5 H5 i5 r5 l5 k5 X5 => ?_
      row_readAll go
      refine v_mkT (by row_readAll ln) fun p H6 f6 k6 g6 => ?_
      obtain ⟨w5, ov5, dp5, ct5⟩ := dsts_wf r5
      have e1 : stN 2 = 1 := rfl
      rw [e1] at ct5
      refine add p (.fn z b5) H6 _ _ rfl (k5.step0 k6) (X5.k0 k6) ?_ (by simp only [Stm.wf]; exact ⟨oz, w5⟩) (by simp only [Stm.over]; exact ⟨mz, ov5⟩) (by simp only [Stm.dep]; omega) (by simp only [Stm.cnt]; omega) ?_
      · simp only [Stm.d]
        exact .tup g6 (.cons (.str _) (.cons (.str _) (.cons (i5.mono k6) .nil)))
      exact fun H7 hh => hh
    · row_readAll go
      exact ⟨_, _, vs, b, rfl, g4, iv4, db, by omega, kS4, kH4, X4⟩
  · rintro σ' H2 ⟨o4, o5, vs, b, rfl, g2, iv, db, lb, kS, kH, X2⟩
    row_readAll go
    refine v_tupOf (SqL.of g2) fun p H7 fl k7 gl => ?_
    exact q (.ref p) b H7 (.tup gl (iv.mono k7)) db (by simpa using lb) (kH.step0 k7) (X2.k0 k7)
end M


namespace M
open PySem L2
structure DBlk (ms ns : List Str) (b : List Stm) : Prop where
  wf : wfL b
  over : overL (noMod :: ms) ns b
  dep : depL b ≤ 2
  cnt : cntL b ≤ 58
abbrev Prg := List (Str × List Stm)
abbrev BlkR (K : PySem.W.Frag) (H : Hp) (v : V) (b : List Stm) : Prop := Im K H v (.tuple (blkD b))
/-- at d a dict of modules -/
def DictP (K : PySem.W.Frag) (H : Hp) (d : Addr) (P : Prg) : Prop := ∃ m, H d = some (.dK m) ∧ MapR kS (BlkR K H) m P
theorem DictP.keep {K : PySem.W.Frag} {H H' : Hp} {d : Addr} {P : Prg} {S : List Addr} (x : DictP K H d P) (k : Keep S H H') (n : d ∉ S) : DictP K H' d P := by
  obtain ⟨m, h1, h2⟩ := x
  exact ⟨m, k.obj _ _ n h1, h2.mono fun v b i => i.mono k⟩
theorem DictP.k0 {K : PySem.W.Frag} {H H' : Hp} {d : Addr} {P : Prg} (x : DictP K H d P) (k : Keep [] H H') : DictP K H' d P := x.keep k List.not_mem_nil
structure DrawnP (ms ns : List Str) (P : Prg) : Prop where
  ndm : ms.Nodup
  ndn : ns.Nodup
  lm : ms.length ≤ 4
  ln : ns.length ≤ 3
  nm : ms ≠ []
  nn : ns ≠ []
  okm : ∀ x ∈ ms, okN x
  okn : ∀ x ∈ ns, okN x
  keys : P.map (·.1) = ms
  blk : ∀ x ∈ P, DBlk ms ns x.2
def sp_law_program (K : PySem.W.Frag) : Sp := fun vs H Q _ => ∃ h c, ∃ most : Nat, vs = [.ref h, .int most] ∧ Drw H h c ∧ most ≤ 4 ∧
  ∀ p ml nl d ms ns P H', SqT K H' p [.ref ml, .ref nl, .ref d] → MN H' h c ml nl ms ns → DictP K H' d P → DrawnP ms ns P → H ml = none → H nl = none → H d = none → ml ≠ nl → d ≠ ml → d ≠ nl → Keep [h, c] H H' → Q (.ref p) H'
def t_law_program (K : PySem.W.Frag)  : TS := (tSeq (tPar 4 5 (tCons (tCall (sp_law_names K) [] E0 (tCons (tVar 0) (tCons (tC (.int 4)) tNil))) (tCons (tCall (sp_law_names K) [] E0 (tCons (tVar 0) (tCons (tC (.int 3)) tNil))) tNil)))
  (tSeq (tAsg tDNew (gName 2))
  (tSeq (tFor (iSeq K (tVar 4)) (gName 3) (tAsg (tOp (rAdd K) (tCall (sp_law_first_rows K) [] E0 (tCons (tVar 0) (tCons (tVar 4) (tCons (tVar 5) tNil)))) (tCall (sp_law_rows K 3) [] E0 (tCons (tVar 0) (tCons (tVar 4) (tCons (tVar 5) (tCons (tC (.int 0)) (tCons (tVar 1) tNil))))))) (gSub (tVar 2) (tVar 3) rSetD)))
  (tRet (tTupX K (tCons (tVar 4) (tCons (tVar 5) (tCons (tVar 2) tNil))))))))
def n_law_program : List Str := ["_law_h", "_law_most", "_law_found", "_law_module", "_law_modules", "_law_names_here"]
theorem blkD_append (a b : List Stm) : blkD (a ++ b) = blkD a ++ blkD b := by simp [blkD_map]
theorem DBlk.of {ms ns : List Str} {a b : List Stm} {most : Nat} (x : DFst ms ns a) (la : a.length ≤ 3) (y : ∀ s ∈ b, DSt ms ns 0 s) (lb : b.length ≤ most) (hm : most ≤ 4) : DBlk ms ns (a ++ b) := by
  obtain ⟨w, o, d, c⟩ := dsts_wf y
  refine ⟨(wfL_iff _).mpr fun s m => ?_, (overL_iff _ _ _).mpr fun s m => ?_, ?_, ?_⟩
  · rcases List.mem_append.mp m with m | m
    · exact (wfL_iff _).mp x.wf s m
    · exact (wfL_iff _).mp w s m
  · rcases List.mem_append.mp m with m | m
    · exact (overL_iff _ _ _).mp x.over s m
    · exact (overL_iff _ _ _).mp o s m
  · have : ∀ l : List Stm, depL (l ++ b) = max (depL l) (depL b) := by
      intro l
      induction l with
      | nil => simp [depL]
      | cons z r ih => simp only [List.cons_append, depL, ih]; omega
    rw [this]
    have := x.dep
    omega
  · rw [cntL_append]
    have := x.cnt
    have e : stN 0 = 13 := rfl
    rw [e] at c
    omega
theorem pure_law_program {K : PySem.W.Frag} (vs : List V) (H : Hp) (Q : VK) (E : XK) (h : sp_law_program K vs H Q E) : t_law_program K { nx := fun _ H' => Q .non H', rt := Q } (start n_law_program vs) H := by
  obtain ⟨h, c, most, rfl, D, hm, q⟩ := h
  show t_law_program K _ [some (.ref h), some (.int most), none, none, none, none] H
  unfold t_law_program
  have sl := sl_eq
  row_readAll go
  refine ⟨h, c, 4, rfl, D, by decide, by decide, fun ml ms H1 f1 ne1 l1 ok1 nd1 g1 k1 D1 => ?_⟩
  row_readAll go
  refine ⟨h, c, 3, rfl, D1, by decide, by decide, fun nl ns H2 f2 ne2 l2 ok2 nd2 g2 k2 D2 => ?_⟩
  row_readAll go
  have a1 := D.ne1 f1
  have a2 := D1.ne1 f2
  have n12 : ml ≠ nl := fun e => by subst e; rw [f2] at g1; cases g1
  have X2 : MN H2 h c ml nl ms ns := ⟨D2, ⟨k2.obj _ _ (by simp [a1.1, a1.2]) g1, ne1, by omega, ok1, a1.1, a1.2⟩, ⟨g2, ne2, by omega, ok2, a2.1, a2.2⟩⟩
  rw [q_dnew]
  refine v_dnew fun d H3 f3 k3 g3 => ?_
  have X3 := X2.k0 k3
  have nf := X2.fresh f3
  row_readAll go
  refine .inl ⟨⟨_, SqL.of X3.m.at_⟩, ?_⟩
  have fl2 : H nl = none := k1.free f2
  have fd : H d = none := k1.free (k2.free f3)
  have sub3 : ∀ b ∈ [h, c], b ∈ [h, c, d] := by intro a m; simp at m ⊢; rcases m with rfl | rfl <;> simp
  refine loop_W (S := [h, c, d]) (Wk.lst (SqL.of X3.m.at_) (by simp [a1.1, a1.2, Ne.symm nf.2.2.1])) (fun i σ' H' => ∃ o3 P, σ' = [some (.ref h), some (.int most), some (.ref d), o3, some (.ref ml), some (.ref nl)] ∧ DictP K H' d P ∧ P.map (·.1) = ms.take i ∧ (∀ x ∈ P, DBlk ms ns x.2) ∧ Keep [h, c, d] H3 H' ∧ Keep [h, c] H H' ∧ MN H' h c ml nl ms ns)
    (fun i σ' H' p => by obtain ⟨_, _, _, _, _, _, k, _, _⟩ := p; exact k)
    ⟨none, [], rfl, ⟨[], g3, .nil⟩, by simp, by simp, Keep.refl _ _, (k1.trans k2).step0 k3, X3⟩ ?_ ?_
  · rintro i x σ' H4 H5 hx ⟨o3, P, rfl, dp, kP, bP, kD, kH, X4⟩ k5
    rw [List.getElem?_map, Option.map_eq_some_iff] at hx
    obtain ⟨z, hz, rfl⟩ := hx
    have hi := get_lt hz
    have X5 := X4.k0 k5
    row_readAll go
    refine ⟨h, c, ml, nl, ms, ns, rfl, X5, fun v6 b6 H6 i6 r6 l6 k6 X6 => ?_⟩
    row_readAll go
    refine v_rows (d := 0) (most := most) X6 rfl rfl (by decide) (by decide) (by omega) fun v7 b7 H7 i7 r7 l7 k7 X7 => ?_
    obtain ⟨a6, xs6, rfl, s6, ha6⟩ := i6.of_tup
    obtain ⟨a7, xs7, rfl, s7, ha7⟩ := i7.of_tup
    have e6 := ha6.length
    have e7 := ha7.length
    rw [blkD_length] at e6 e7
    refine v_addT (k7.sqT s6) s7 (by omega) fun p8 H8 k8 g8 => ?_
    row_readAll go
    have i8 : Im K H8 (.ref p8) (.tuple (blkD (b6 ++ b7))) := by
      rw [blkD_append]
      exact .tup g8 (((ha6.mono k7).mono k8).append (ha7.mono k8))
    have k58 : Keep [h, c] H4 H8 := ((k5.nil.trans k6).trans k7).step0 k8
    obtain ⟨m, gm, rm⟩ := dp.keep k58 (by simp [nf.1, nf.2.1])
    have lm := rm.length
    have lP : P.length = i := by
      have := congrArg List.length kP
      rw [List.length_map, List.length_take] at this
      omega
    refine v_setD gm (by omega) fun H9 k9 g9 => ?_
    have ne : z ∉ P.map (·.1) := by
      rw [kP]
      intro hm2
      obtain ⟨j, hj⟩ := List.getElem?_of_mem hm2
      have hj2 := (List.getElem?_eq_some_iff.mp hj).1
      rw [List.length_take] at hj2
      rw [List.getElem?_take_of_lt (by omega)] at hj
      have hlt : i < ms.length := hi
      have e1 : ms[j]'(by omega) = z := (List.getElem?_eq_some_iff.mp hj).2
      have e2 : ms[i] = z := (List.getElem?_eq_some_iff.mp hz).2
      have := (List.getElem_inj (h₀ := by omega) (h₁ := hlt) nd1).mp (e1.trans e2.symm)
      omega
    have eP : putA P z (b6 ++ b7) = P ++ [(z, b6 ++ b7)] := by
      unfold putA
      rw [if_neg]
      intro hh
      rw [List.any_eq_true] at hh
      obtain ⟨p, hp, e⟩ := hh
      exact ne (by rw [← of_decide_eq_true e]; exact List.mem_map_of_mem (f := (·.1)) hp)
    have rm2 : MapR kS (BlkR K H9) (putK m (kS z) (.ref p8)) (P ++ [(z, b6 ++ b7)]) := by
      rw [← eP]
      exact (rm.put kS_inj (k := z) (v := .ref p8) (x := b6 ++ b7) i8).mono fun v b ib => ib.mono k9
    refine ⟨_, P ++ [(z, b6 ++ b7)], rfl, ⟨_, g9, rm2⟩, ?_, ?_, ?_, ?_, ?_⟩
    · rw [List.map_append, kP, take_snoc hz]; rfl
    · intro y my
      simp only [List.mem_append, List.mem_singleton] at my
      rcases my with my | rfl
      · exact bP y my
      · exact .of r6 (by have := l2; omega) r7 l7 hm
    · exact (kD.trans (k58.mono sub3)).trans (k9.mono (by intro a m; simp at m ⊢; simp [m]))
    · exact (kH.trans k58).step1 k9 fd
    · exact (X7.k0 k8).put k9 nf.1 nf.2.1 nf.2.2.1 nf.2.2.2
  · rintro σ' H4 ⟨o3, P, rfl, dp, kP, bP, kD, kH, X4⟩
    row_readAll go
    refine v_mkT (by row_readAll ln) fun p H5 f5 k5 g5 => ?_
    rw [List.length_map, List.take_length] at kP
    exact q p ml nl d ms ns P H5 g5 (X4.k0 k5) (dp.k0 k5) ⟨nd1, nd2, by omega, by omega, ne1, ne2, ok1, ok2, kP, bP⟩ f1 fl2 fd n12 nf.2.2.1 nf.2.2.2 (kH.step0 k5)
end M


namespace M
open PySem L2
/-! ### well made blocks have no fault -/
theorem okNB_of {x : Str} (h : okN x) : okNB x = true := by
  unfold okNB
  simp only [Bool.and_eq_true, decide_eq_true_eq, List.all_eq_true]
  exact ⟨⟨h.1, h.2.1⟩, h.2.2⟩
theorem Ex.wf.ok : ∀ {e : Ex} {d : Nat}, e.wf d → d ≤ 3 → e.ok (3 - d) = true
  | .int i, d, h, _ => by
    have h2 : okI i := by cases d <;> exact h
    simp only [Ex.ok]; exact decide_eq_true h2
  | .nm n, d, h, _ => by
    have h2 : okN n := by cases d <;> exact h
    simp only [Ex.ok]; exact okNB_of h2
  | .of n a, d, h, _ => by
    have h2 : okN n ∧ okN a := by cases d <;> exact h
    simp only [Ex.ok, okNB_of h2.1, okNB_of h2.2]; rfl
  | .bin s l r, 0, h, _ => by exact h.elim
  | .bin s l r, d + 1, h, hd => by
    simp only [Ex.wf] at h
    have h1 := h.1.ok (by omega)
    have h2 := h.2.ok (by omega)
    have e : 3 - d = 3 - (d + 1) + 1 := by omega
    rw [e] at h1 h2
    simp only [Ex.ok, h1, h2]
    rw [if_neg (by omega)]; rfl
theorem Ex.wf.strs : ∀ {e : Ex} {d : Nat}, e.wf d → ∀ x ∈ e.strs, okN x
  | .int i, d, h, x, m => by simp [Ex.strs] at m
  | .nm n, d, h, x, m => by
    have h2 : okN n := by cases d <;> exact h
    simp [Ex.strs] at m; subst m; exact h2
  | .of n a, d, h, x, m => by
    have h2 : okN n ∧ okN a := by cases d <;> exact h
    simp [Ex.strs] at m; rcases m with rfl | rfl
    · exact h2.1
    · exact h2.2
  | .bin s l r, 0, h, _, _ => by exact h.elim
  | .bin s l r, d + 1, h, x, m => by
    simp only [Ex.wf] at h
    simp only [Ex.strs, List.mem_append] at m
    rcases m with m | m
    · exact h.1.strs x m
    · exact h.2.strs x m
theorem okN.tx {x : Str} (h : okN x) : x.length ≤ 4000 ∧ PyData.strOk x = true := ⟨by have := h.2.1; omega, h.ok⟩
theorem Stm.wf.okNames {s : Stm} (h : s.wf) : ∀ x ∈ s.names, okN x := by
  intro x m
  cases s <;> simp only [Stm.wf] at h <;> simp only [Stm.names, List.mem_cons, List.not_mem_nil, or_false] at m
  · subst m; exact h.1
  · subst m; exact h
  · rcases m with rfl | rfl; exact h.1; exact h.2
  · rcases m with rfl | rfl | rfl; exact h.1; exact h.2.1; exact h.2.2
  · subst m; exact h
  · subst m; exact h.1
theorem Stm.wf.okExprs {s : Stm} (h : s.wf) : ∀ e ∈ s.exprs, e.wf 3 := by
  intro x m
  cases s <;> simp only [Stm.wf] at h <;> simp only [Stm.exprs, List.mem_cons, List.not_mem_nil, or_false] at m
  · subst m; exact h.2
  · subst m; exact h
  · subst m; exact h
  · subst m; exact h.1
theorem Stm.wf.okAt {s : Stm} (h : s.wf) {p : Pth} (hp : p.length / 2 ≤ 3) : s.okAt p = true := by
  unfold Stm.okAt
  rw [decide_eq_true hp]
  simp only [Bool.true_and, Bool.and_eq_true, List.all_eq_true]
  exact ⟨fun x m => okNB_of (h.okNames x m), fun e m => (h.okExprs e m).ok (Nat.le_refl _)⟩
theorem Stm.wf.tx {s : Stm} (h : s.wf) : s.tx := ⟨fun x m => (h.okNames x m).tx, fun e m => ⟨fun x mx => ((h.okExprs e m).strs x mx).tx, (h.okExprs e m).lay.1, by have := (h.okExprs e m).lay.2; omega⟩⟩
mutual
theorem sub_all (Q : Pth → Stm → Prop) (hq : ∀ p s, s.wf → p.length / 2 ≤ 3 → Q p s) : ∀ (s : Stm) (p : Pth) (k : Nat), s.wf → p.length = 2 * k + 1 → k + s.dep ≤ 3 → ∀ r ∈ s.sub p, Q r.1 r.2
  | .fn _ b, p, k, h, hp, hd, r, m => by
    simp only [Stm.wf] at h; simp only [Stm.dep] at hd; simp only [Stm.sub] at m
    exact walk_all Q hq b (p ++ [0]) 0 (k + 1) h.2 (by simp; omega) (by omega) r m
  | .ite _ b o, p, k, h, hp, hd, r, m => by
    simp only [Stm.wf] at h; simp only [Stm.dep] at hd; simp only [Stm.sub, List.mem_append] at m
    rcases m with m | m
    · exact walk_all Q hq b (p ++ [0]) 0 (k + 1) h.2.1 (by simp; omega) (by omega) r m
    · exact walk_all Q hq o (p ++ [1]) 0 (k + 1) h.2.2 (by simp; omega) (by omega) r m
  | .tri _ b o, p, k, h, hp, hd, r, m => by
    simp only [Stm.wf] at h; simp only [Stm.dep] at hd; simp only [Stm.sub, List.mem_append] at m
    rcases m with m | m
    · exact walk_all Q hq b (p ++ [0]) 0 (k + 1) h.2.1 (by simp; omega) (by omega) r m
    · exact walk_all Q hq o (p ++ [1]) 0 (k + 1) h.2.2 (by simp; omega) (by omega) r m
  | .set .., _, _, _, _, _, r, m => by simp [Stm.sub] at m
  | .del .., _, _, _, _, _, r, m => by simp [Stm.sub] at m
  | .shw .., _, _, _, _, _, r, m => by simp [Stm.sub] at m
  | .call .., _, _, _, _, _, r, m => by simp [Stm.sub] at m
  | .raise, _, _, _, _, _, r, m => by simp [Stm.sub] at m
  | .imp .., _, _, _, _, _, r, m => by simp [Stm.sub] at m
  | .frm .., _, _, _, _, _, r, m => by simp [Stm.sub] at m
  | .star .., _, _, _, _, _, r, m => by simp [Stm.sub] at m
theorem walk_all (Q : Pth → Stm → Prop) (hq : ∀ p s, s.wf → p.length / 2 ≤ 3 → Q p s) : ∀ (b : List Stm) (p : Pth) (i k : Nat), wfL b → p.length = 2 * k → k + depL b ≤ 3 → ∀ r ∈ walkL p i b, Q r.1 r.2
  | [], _, _, _, _, _, _, r, m => by simp [walkL] at m
  | s :: b, p, i, k, h, hp, hd, r, m => by
    simp only [wfL] at h; simp only [depL] at hd; simp only [walkL, List.mem_cons, List.mem_append] at m
    rcases m with rfl | m | m
    · exact hq _ _ h.1 (by simp; omega)
    · exact sub_all Q hq s (p ++ [i]) k h.1 (by simp; omega) (by omega) r m
    · exact walk_all Q hq b p (i + 1) k h.2 hp (by omega) r m
end
mutual
theorem sub_len : ∀ (s : Stm) (p : Pth), (s.sub p).length + 1 = s.cnt
  | .fn _ b, p => by simp only [Stm.sub, Stm.cnt, walk_len]
  | .ite _ b o, p => by simp only [Stm.sub, Stm.cnt, List.length_append, walk_len]
  | .tri _ b o, p => by simp only [Stm.sub, Stm.cnt, List.length_append, walk_len]
  | .set .., _ => by simp [Stm.sub, Stm.cnt]
  | .del .., _ => by simp [Stm.sub, Stm.cnt]
  | .shw .., _ => by simp [Stm.sub, Stm.cnt]
  | .call .., _ => by simp [Stm.sub, Stm.cnt]
  | .raise, _ => by simp [Stm.sub, Stm.cnt]
  | .imp .., _ => by simp [Stm.sub, Stm.cnt]
  | .frm .., _ => by simp [Stm.sub, Stm.cnt]
  | .star .., _ => by simp [Stm.sub, Stm.cnt]
theorem walk_len : ∀ (b : List Stm) (p : Pth) (i : Nat), (walkL p i b).length = cntL b
  | [], _, _ => by simp [walkL, cntL]
  | s :: b, p, i => by
    have h1 := sub_len s (p ++ [i])
    have h2 := walk_len b p (i + 1)
    simp only [walkL, cntL, List.length_cons, List.length_append, h2]; omega
end
/-- a block that a module may have -/
structure OkBlk (b : List Stm) : Prop where
  wf : wfL b
  dep : depL b ≤ 3
  cnt : cntL b ≤ 60
theorem DBlk.ok {ms ns : List Str} {b : List Stm} (h : DBlk ms ns b) : OkBlk b := ⟨h.wf, by have := h.dep; omega, by have := h.cnt; omega⟩
theorem OkBlk.fault {b : List Stm} (h : OkBlk b) {i : Nat} {n : Str} (hi : i < 8) (hn : okN n) : firstFault i n b = none := by
  unfold firstFault
  rw [if_neg]
  · unfold faultIn
    rw [List.find?_eq_none.mpr]
    · rfl
    · intro r m
      have := walk_all (fun p s => s.okAt p = true) (fun p s w hp => w.okAt hp) b [] 0 0 h.wf rfl (by have := h.dep; omega) r m
      simp [this]
  · rintro (z | z | z)
    · omega
    · rw [okNB_of hn] at z; cases z
    · rw [walk_len] at z; have := h.cnt; omega
theorem OkBlk.tx {b : List Stm} (h : OkBlk b) : blkTx b := fun r m => walk_all (fun _ s => s.tx) (fun _ s w _ => w.tx) b [] 0 0 h.wf rfl (by have := h.dep; omega) r m
theorem OkBlk.few {b : List Stm} (h : OkBlk b) : (walkL [] 0 b).length ≤ 100000 := by rw [walk_len]; have := h.cnt; omega
/-- a program that can be made -/
structure OkPrg (P : Prg) : Prop where
  nd : (P.map (·.1)).Nodup
  few : P.length ≤ 8
  nm : ∀ x ∈ P, okN x.1
  blk : ∀ x ∈ P, OkBlk x.2
theorem DrawnP.ok {ms ns : List Str} {P : Prg} (h : DrawnP ms ns P) : OkPrg P := by
  have e := congrArg List.length h.keys
  rw [List.length_map] at e
  have := h.lm
  exact ⟨by rw [h.keys]; exact h.ndm, by omega, fun x m => h.okm _ (by rw [← h.keys]; exact List.mem_map_of_mem (f := (·.1)) m), fun x m => (h.blk x m).ok⟩
end M


namespace M
open PySem PySem.Spec PyProof.Rows L2 SlX
theorem bt_sorted : bootBuiltins "sorted" = some (.builtin "sorted") := by decide +kernel
theorem bt_enumerate : bootBuiltins "enumerate" = some (.type "enumerate") := by decide +kernel
def rIsN : R2 := fun x y H Q => y = .non ∧ Q (.bl (decide (x = .non))) H
def rNotN : R2 := fun x y H Q => y = .non ∧ Q (.bl (!decide (x = .non))) H
theorem op_isN1 {X : Cx} : OpR X (compareOp .Is) rIsN := op_isN
theorem op_notN1 {X : Cx} : OpR X (compareOp .IsNot) rNotN := op_notN
theorem q_isN {x : V} {H : Hp} {Q : VK} : rIsN x .non H Q = Q (.bl (decide (x = .non))) H := propext ⟨fun h => h.2, fun h => ⟨rfl, h⟩⟩
theorem q_nisN {x : V} {H : Hp} {Q : VK} : rNotN x .non H Q = Q (.bl (!decide (x = .non))) H := propext ⟨fun h => h.2, fun h => ⟨rfl, h⟩⟩
theorem q_nonT : decide (V.non = .non) = true := rfl
theorem q_nonR {a : Addr} : decide (V.ref a = .non) = false := rfl
theorem q_nonS {a : Str} : decide (V.str a = .non) = false := rfl
theorem q_nonI {a : Int} : decide (V.int a = .non) = false := rfl
theorem q_nonB {a : Bool} : decide (V.bl a = .non) = false := rfl
/-! ### sorted(d) -/
def rSortD : List V → Hp → VK → Prop := fun xs H Q => ∃ (a : Addr) (kvs : List (Key × V)) (ks : List Str), xs = [.ref a] ∧ Rd H a (.dK kvs) ∧ kvs.map (·.1) = ks.map Sum.inr ∧ ks.length < 64 ∧ ∀ p H', H p = none → Keep [] H H' → H' p = some (.lst ((sortN ks).map V.str)) → Q (.ref p) H'
theorem cb_sortD {X : Cx} (hc : X.calm = true) : CallR X (.builtin "sorted") rSortD := by
  intro pins s σ H xs us Q I r h
  obtain ⟨a, kvs, ks, ex, hd, hk, h64, q⟩ := h
  exact call_sortedD hc pins s σ H xs us Q I r ⟨a, kvs, ks, ex, hd, hk, h64, fun ys p pm so hp => by
    rw [sortN_eq pm so]
    exact q p _ hp (Keep.new hp) upd_same⟩
section
variable {K : PySem.W.Frag} {σ : L2.St} {H : Hp} {Q : VK} {D : Ends} {S : List Addr} {C a dx : Addr}
theorem v_sortD {d : Addr} {m : List (Key × V)} {α : Type} {R : V → α → Prop} {P : List (Str × α)} (h : H d = some (.dK m)) (r : MapR kS R m P) (l : P.length < 64) (q : ∀ p H', H p = none → Keep [] H H' → H' p = some (.lst ((sortN (P.map (·.1))).map V.str)) → Q (.ref p) H') : rSortD [.ref d] H Q := by
  refine ⟨d, m, P.map (·.1), rfl, .inl h, ?_, by simpa using l, q⟩
  rw [r.keys, List.map_map]
  rfl
/-! ### dict comprehensions -/
def DCompX (J : It) (g : TG) (tt : TT) (tk tv : TE) (vs : List Nat) (σ : L2.St) (H1 : Hp) (Q : VK) : Prop := ∀ D, H1 D = none → ∃ W : Nat → Nat → Hp → Prop, (∃ m, W 0 m (upd H1 D (.dK []))) ∧ ∀ i m H, W i m H →
  (J.stop i H ∧ Q (.ref D) H) ∨ (J.go i H ∧ ∃ Nx : Hp → Prop, (∀ H', Nx H' → ∃ m', m' < m ∧ W (i + 1) m' H') ∧ ∀ x H', J.yld i H x H' → g x (wipe σ vs) H' fun σ2 H2 => wipe σ2 vs = wipe σ vs ∧ tt σ2 H2 fun b H3 =>
    if b = true then tk σ2 H3 fun y H4 => tv σ2 H4 fun z H5 => ∃ kvs k, y = kV k ∧ H5 D = some (.dK kvs) ∧ kvs.length < sizeLine ∧ Nx (upd H5 D (.dK (putK kvs k z))) else Nx H3)
theorem q_dc {wi : TI} {g : TG} {tt : TT} {tk tv : TE} {vs : List Nat} : tDc wi g tt tk tv vs σ H Q = wi σ H fun J H1 => DCompX J g tt tk tv vs σ H1 Q := rfl
def LayD (D : Addr) (R : Hp → Prop) (y z : V) (H : Hp) : Prop := ∃ kvs k, y = kV k ∧ H D = some (.dK kvs) ∧ kvs.length < sizeLine ∧ R (upd H D (.dK (putK kvs k z)))
theorem layD {D : Addr} {m : List (Key × V)} {n : Str} {z : V} {R : Hp → Prop} (h : H D = some (.dK m)) (l : m.length < sizeLine) (q : ∀ H', Keep [D] H H' → H' D = some (.dK (putK m (kS n) z)) → R H') : LayD D R (.str n) z H :=
  ⟨m, kS n, rfl, h, l, q _ (Keep.put h True.intro) upd_same⟩
theorem dcomp_W {J : It} {xs : List V} {g : TG} {tt : TT} {tk tv : TE} {vs : List Nat} (w : Wk S J xs H) (Pv : Addr → Nat → Hp → Prop) (hK : ∀ D i H2, Pv D i H2 → Keep S H H2)
    (h0 : ∀ D H2, H D = none → Keep [] H H2 → H2 D = some (.dK []) → Pv D 0 H2)
    (hs : ∀ D i H2 x H3, H D = none → xs[i]? = some x → Pv D i H2 → Keep [] H2 H3 → g x (wipe σ vs) H3 fun σ2 H4 => wipe σ2 vs = wipe σ vs ∧ tt σ2 H4 fun b H5 =>
      if b = true then tk σ2 H5 fun y H6 => tv σ2 H6 fun z H7 => LayD D (Pv D (i + 1)) y z H7 else Pv D (i + 1) H5)
    (hd : ∀ D H2, H D = none → Pv D xs.length H2 → Q (.ref D) H2) : DCompX J g tt tk tv vs σ H Q := by
  intro D hD
  refine ⟨fun i m H2 => m = xs.length - i ∧ i ≤ xs.length ∧ Pv D i H2, ⟨xs.length, by simp, Nat.zero_le _, h0 D _ hD (Keep.new hD) upd_same⟩, ?_⟩
  rintro i m H2 ⟨rfl, hi, p⟩
  obtain ⟨w1, w2, w3⟩ := w H2 (hK _ _ _ p)
  by_cases hlt : i < xs.length
  · refine .inr ⟨w2 i hlt, Pv D (i + 1), fun H' p' => ⟨xs.length - (i + 1), by omega, rfl, hlt, p'⟩, fun x H3 y => ?_⟩
    obtain ⟨e, k⟩ := w3 i x H3 hlt y
    exact hs D i H2 x H3 hD e p k
  · have e : i = xs.length := by omega
    subst e
    exact .inl ⟨w1, hd D H2 hD p⟩
/-! ### slots -/
theorem keep_slH {vs : List (Option V)} (h : Slt H a C dx vs) (o : H dx = some (.own a) ∨ H dx = some (.xd [])) (vs' : List (Option V)) : Keep [a, dx] H (slH H a C dx vs') := by
  have ha : (H a = some (.ins C dx [])) ∨ ∃ φ, H a = some (.ext φ) := by
    rcases h with ⟨h1, _⟩ | ⟨h1, _⟩
    · exact .inl h1
    · exact .inr ⟨_, h1⟩
  have z : ∀ b v, b ≠ a → b ≠ dx → H b = some v → slH H a C dx vs' b = some v := fun b v n1 n2 e => by rw [slH_ne n1 n2]; exact e
  refine ⟨fun b v n e => ?_, fun b xs e => ?_, fun b ob v e => ?_, fun b v e => ?_⟩
  · simp only [List.mem_cons, List.not_mem_nil, or_false, not_or] at n
    exact z b v n.1 n.2 e
  · refine z b _ (fun q => ?_) (fun q => ?_) e
    · rw [q] at e; rcases ha with ha | ⟨φ, ha⟩ <;> (rw [ha] at e; cases e)
    · rw [q] at e; rcases o with o | o <;> (rw [o] at e; cases e)
  · refine z b _ (fun q => ?_) (fun q => ?_) e
    · rw [q] at e; rcases ha with ha | ⟨φ, ha⟩ <;> (rw [ha] at e; cases e)
    · rw [q] at e; rcases o with o | o <;> (rw [o] at e; cases e)
  · by_cases q1 : b = a
    · rw [q1]; exact ⟨_, upd_same⟩
    · by_cases q2 : b = dx
      · refine ⟨.xd [], ?_⟩
        unfold slH
        rw [upd_ne q1, q2, upd_same]
      · exact ⟨v, z b v q1 q2 e⟩
theorem v_slPut {K : PySem.W.Frag} {p : Addr} {vs : List (Option V)} {f : Str} {i : Nat} {y : V} {R : Hp → Prop} (h : Slt H a C dx vs) (o : H dx = some (.own a) ∨ H dx = some (.xd [])) (ne : dx ≠ a) (c : SCls K C) (t : Slot1 K C f p i)
    (q : ∀ H', Keep [a, dx] H H' → Slt H' a C dx (putS i y vs) → H' dx = some (.xd []) → R H') : ∃ a' C' dx' p' vs' i', V.ref a = .ref a' ∧ Slt H a' C' dx' vs' ∧ SCls K C' ∧ Slot1 K C' f p' i' ∧ R (slH H a' C' dx' (putS i' y vs')) :=
  ⟨a, C, dx, p, vs, i, rfl, h, c, t, q _ (keep_slH h o _) (slH_slt ne) (by unfold slH; rw [upd_ne ne, upd_same])⟩
theorem q_sSl {ta tv : TE} {f : Str} : sSl K ta tv f D σ H = tv σ H fun y H1 => ta σ H1 fun x H2 => ∃ a C dx p vs i, x = .ref a ∧ Slt H2 a C dx vs ∧ SCls K C ∧ Slot1 K C f p i ∧ D.nx σ (slH H2 a C dx (putS i y vs)) := rfl
theorem q_tSl {ta : TE} {f : Str} : tSl K ta f σ H Q = ta σ H fun x H1 => ∃ a C dx p vs i v, x = .ref a ∧ Slt H1 a C dx vs ∧ SCls K C ∧ Slot1 K C f p i ∧ vs[i]? = some (some v) ∧ Q v H1 := rfl
theorem v_slGet {p : Addr} {vs : List (Option V)} {f : Str} {i : Nat} {v : V} (h : Slt H a C dx vs) (c : SCls K C) (t : Slot1 K C f p i) (e : vs[i]? = some (some v)) (q : Q v H) : ∃ a' C' dx' p' vs' i' v', V.ref a = .ref a' ∧ Slt H a' C' dx' vs' ∧ SCls K C' ∧ Slot1 K C' f p' i' ∧ vs'[i']? = some (some v') ∧ Q v' H :=
  ⟨a, C, dx, p, vs, i, v, rfl, h, c, t, e, q⟩
theorem Slt.keep {H' : Hp} {vs : List (Option V)} {b : HO} (h : Slt H a C dx vs) (k : Keep S H H') (n1 : a ∉ S) (n2 : dx ∉ S) : Slt H' a C dx vs := by
  rcases h with ⟨h1, h2⟩ | ⟨h1, h2⟩
  · exact .inl ⟨k.obj _ _ n1 h1, h2⟩
  · exact .inr ⟨k.obj _ _ n1 h1, k.obj _ _ n2 h2⟩
theorem q_make {sp : Sp} {E : XK} {t : TA} : tMake C sp [] E t σ H Q = t σ H fun vs H1 => ∀ x dx, H1 x = none → H1 dx = none → dx ≠ x → sp (.ref x :: (vs ++ [])) (upd (upd H1 dx (.own x)) x (.ins C dx [])) (fun v H2 => v = .non ∧ Q (.ref x) H2) E := rfl
end
end M


local macro_rules | `(tactic| row_readAll n2) => `(tactic| simp only [q_isN, q_nisN, q_nonT, q_nonR, q_nonS, q_nonI, q_nonB, q_dc, q_sSl, q_tSl, q_make, q_dnew, List.append_nil])
local macro_rules | `(tactic| row_readAll s) => `(tactic| first | row_readAll n | row_readAll n2 | row_readAll s2 | row_readAll br | row_readAll nx)
namespace M
open PySem L2 SlX
/-! ### programs as objects -/
def sortP (P : Prg) : Prg := (sortN (P.map (·.1))).map fun n => (n, (valA P n).getD [])
theorem sortP_keys (P : Prg) : (sortP P).map (·.1) = sortN (P.map (·.1)) := by
  unfold sortP
  rw [List.map_map]
  exact (List.map_congr_left fun _ _ => rfl).trans (List.map_id _)
/-- what the class is -/
structure PrgC (K : PySem.W.Frag) (C p1 p2 : Addr) : Prop where
  c : SCls K C
  s1 : Slot1 K C "own_names" p1 1
  s2 : Slot1 K C "own_blocks" p2 0
/-- at a a program; fp: its objects -/
structure PrgAt (K : PySem.W.Frag) (H : Hp) (C a : Addr) (P : Prg) (fp : List Addr) : Prop where
  ex : ∃ dx nl d, fp = [a, dx, nl, d] ∧ Slt H a C dx [some (.ref d), some (.ref nl)] ∧ H dx = some (.xd []) ∧ H nl = some (.lst ((P.map (·.1)).map V.str)) ∧ DictP K H d P
theorem PrgAt.keep {K : PySem.W.Frag} {H H' : Hp} {C a : Addr} {P : Prg} {fp S : List Addr} (x : PrgAt K H C a P fp) (k : Keep S H H') (n : ∀ b ∈ fp, b ∉ S) : PrgAt K H' C a P fp := by
  obtain ⟨dx, nl, d, rfl, h1, h2, h3, h4⟩ := x.ex
  refine ⟨dx, nl, d, rfl, Slt.keep (b := .own 0) h1 k (n _ (by simp)) (n _ (by simp)), k.obj _ _ (n _ (by simp)) h2, k.obj _ _ (n _ (by simp)) h3, h4.keep k (n _ (by simp))⟩
theorem PrgAt.k0 {K : PySem.W.Frag} {H H' : Hp} {C a : Addr} {P : Prg} {fp : List Addr} (x : PrgAt K H C a P fp) (k : Keep [] H H') : PrgAt K H' C a P fp := x.keep k fun _ _ => List.not_mem_nil
def sp_Program___init__ (K : PySem.W.Frag) (C : Addr) : Sp := fun vs H Q _ => ∃ a dx d P, vs = [.ref a, .ref d] ∧ H a = some (.ins C dx []) ∧ H dx = some (.own a) ∧ dx ≠ a ∧ DictP K H d P ∧ OkPrg P ∧
  ∀ nl e H', PrgAt K H' C a (sortP P) [a, dx, nl, e] → H nl = none → H e = none → Keep [a, dx] H H' → Q .non H'
def t_Program___init__ (K : PySem.W.Frag)  : TS := (tSeq (tFor (iEnumX K (tCons (tCB rSortD (tCons (tVar 1) tNil)) tNil)) (gTup K 2 (gCons (gName 2) (gCons (gName 3) gNil))) (tSeq (tAsg (tCall (sp_first_fault K) [] E0 (tCons (tVar 2) (tCons (tVar 3) (tCons (tOp rIxD (tVar 1) (tVar 3)) tNil)))) (gName 4))
  (tIfS (tTest (tOp rNotN (tVar 4) (tC .non))) tNever tNext)))
  (tSeq (SlX.sSl K (tVar 0) (tCB rSortD (tCons (tVar 1) tNil)) "own_names")
  (SlX.sSl K (tVar 0) (tDc (iSeq K (tCB rSortD (tCons (tVar 1) tNil))) (gName 3) tYes (tVar 3) (tOp rIxD (tVar 1) (tVar 3)) [3]) "own_blocks")))
def n_Program___init__ : List Str := ["self", "modules", "index", "name", "path"]
theorem DictP.val {K : PySem.W.Frag} {H : Hp} {d : Addr} {P : Prg} {n : Str} (x : DictP K H d P) (m : n ∈ P.map (·.1)) : ∃ v b, valA P n = some b ∧ Im K H v (.tuple (blkD b)) ∧ ∀ Q : VK, Q v H → rIxD (.ref d) (.str n) H Q := by
  obtain ⟨mm, h1, h2⟩ := x
  rcases h2.val kS_inj n with ⟨_, z⟩ | ⟨v, b, e1, e2, i⟩
  · exact absurd m (valA_none.mp z)
  · exact ⟨v, b, e2, i, fun Q q => v_ixD h1 e1 q⟩
theorem get_map {α β : Type} {f : α → β} {l : List α} {i : Nat} {y : β} (e : (l.map f)[i]? = some y) : ∃ x, l[i]? = some x ∧ y = f x := by
  rw [List.getElem?_map, Option.map_eq_some_iff] at e
  obtain ⟨x, h1, h2⟩ := e
  exact ⟨x, h1, h2.symm⟩
theorem pure_Program___init__ {K : PySem.W.Frag} {C p1 p2 : Addr} (T : PrgC K C p1 p2) (vs : List V) (H : Hp) (Q : VK) (E : XK) (h : sp_Program___init__ K C vs H Q E) : t_Program___init__ K { nx := fun _ H' => Q .non H', rt := Q } (start n_Program___init__ vs) H := by
  obtain ⟨a, dx, d, P, rfl, ha, hdx, hne, dp, ok, q⟩ := h
  show t_Program___init__ K _ [some (.ref a), some (.ref d), none, none, none] H
  unfold t_Program___init__
  have sl := sl_eq
  have few := ok.few
  obtain ⟨m, hm, rm⟩ := dp
  have lks : (sortN (P.map (·.1))).length = P.length := by rw [sortN_len, List.length_map]
  row_readAll go
  refine v_sortD hm rm (by omega) fun l1 H1 f1 k1 g1 => ?_
  row_readAll go
  refine .inl ⟨⟨_, SqL.of g1⟩, ?_⟩
  refine loop_EL (xs := (sortN (P.map (·.1))).map V.str) (fun i σ' H' => ∃ o2 o3 o4, σ' = [some (.ref a), some (.ref d), o2, o3, o4] ∧ Keep [] H1 H') ⟨none, none, none, rfl, Keep.refl _ _⟩ (fun i σ' H' _ p => by obtain ⟨_, _, _, _, k⟩ := p; exact SqL.of (k.obj _ _ List.not_mem_nil g1)) ?_ ?_
  · rintro i x T2 σ' H2 H3 hx ⟨o2, o3, o4, rfl, k2⟩ k3 hT
    obtain ⟨n, hn, rfl⟩ := get_map hx
    have mn : n ∈ P.map (·.1) := sortN_mem.mp (List.mem_of_getElem? hn)
    have hi := get_lt hn
    have kk : Keep [] H H3 := (k1.trans k2).trans k3
    refine v_tup2 hT ?_
    row_readAll go
    obtain ⟨v, b, e1, i1, gv⟩ := DictP.val (K := K) (H := H3) ⟨m, kk.obj _ _ List.not_mem_nil hm, rm.mono fun v b i => i.mono kk⟩ mn
    refine gv _ ?_
    have mb := valA_some e1
    have ob := ok.blk _ mb
    have on := ok.nm _ mb
    refine ⟨v, b, n, i, rfl, i1, Nat.lt_of_le_of_lt ob.dep (by decide), ob.few, ob.tx, on.tx.1, on.tx.2, fun r H4 k4 hr => ?_⟩
    rw [ob.fault (by omega) on] at hr
    cases hr
    row_readAll go
    exact ⟨_, _, _, rfl, (k2.trans k3).trans k4⟩
  · rintro σ' H2 ⟨o2, o3, o4, rfl, k2⟩
    have kk : Keep [] H H2 := k1.trans k2
    row_readAll go
    refine v_sortD (kk.obj _ _ List.not_mem_nil hm) rm (by omega) fun nl H3 f3 k3 g3 => ?_
    have kk3 : Keep [] H H3 := kk.trans k3
    row_readAll go
    have ha3 := kk3.obj _ _ List.not_mem_nil ha
    have hdx3 := kk3.obj _ _ List.not_mem_nil hdx
    refine v_slPut (y := .ref nl) (.inl ⟨ha3, rfl⟩) (.inl hdx3) hne T.c T.s1 fun H4 k4 s4 x4 => ?_
    have e4 : putS 1 (.ref nl) [] = [none, some (V.ref nl)] := rfl
    rw [e4] at s4
    row_readAll go
    have dne : d ≠ a ∧ d ≠ dx := by
      constructor
      · rintro rfl; rw [hm] at ha; cases ha
      · rintro rfl; rw [hm] at hdx; cases hdx
    have nne : nl ≠ a ∧ nl ≠ dx := by
      have f3' := kk.free f3
      constructor
      · rintro rfl; rw [f3'] at ha; cases ha
      · rintro rfl; rw [f3'] at hdx; cases hdx
    have hm4 := k4.obj _ _ (by simp [dne.1, dne.2]) (kk3.obj _ _ List.not_mem_nil hm)
    refine v_sortD hm4 rm (by omega) fun l5 H5 f5 k5 g5 => ?_
    row_readAll go
    refine .inl ⟨⟨_, SqL.of g5⟩, ?_⟩
    have rm5 : MapR kS (BlkR K H5) m P := ((rm.mono fun v b i => i.mono kk3).mono fun v b i => i.mono k4).mono fun v b i => i.mono k5
    have hm5 := k5.obj _ _ List.not_mem_nil hm4
    refine dcomp_W (S := []) (Wk.lst (SqL.of g5) List.not_mem_nil) (fun D i H6 => Keep [] H5 H6 ∧ DictP K H6 D ((sortP P).take i)) (fun D i H6 p => p.1) (fun D H6 _ k6 g6 => ⟨k6, [], g6, by simpa using .nil⟩) ?_ ?_
    · rintro D i H6 x H7 fD hx ⟨k6, mD, gD, rD⟩ k7
      obtain ⟨n, hn, rfl⟩ := get_map hx
      have mn : n ∈ P.map (·.1) := sortN_mem.mp (List.mem_of_getElem? hn)
      have hi := get_lt hn
      row_readAll go
      have k67 : Keep [] H5 H7 := k6.trans k7
      obtain ⟨v, b, e1, i1, gv⟩ := DictP.val (K := K) (H := H7) ⟨m, k67.obj _ _ List.not_mem_nil hm5, rm5.mono fun v b i => i.mono k67⟩ mn
      refine gv _ ?_
      have lD := rD.length
      rw [List.length_take] at lD
      refine layD (k7.obj _ _ List.not_mem_nil gD) (by omega) fun H8 k8 g8 => ⟨k67.step1 k8 fD, _, g8, ?_⟩
      have hp : (sortP P)[i]? = some (n, b) := by
        unfold sortP
        rw [List.getElem?_map, hn, Option.map_some, e1]
        rfl
      rw [take_snoc hp]
      have nn : n ∉ ((sortP P).take i).map (·.1) := by
        rw [List.map_take, sortP_keys]
        intro hmem
        obtain ⟨j, hj⟩ := List.getElem?_of_mem hmem
        have hj2 := (List.getElem?_eq_some_iff.mp hj).1
        rw [List.length_take] at hj2
        rw [List.getElem?_take_of_lt (by omega)] at hj
        have e2 : (sortN (P.map (·.1)))[j]'(by omega) = n := (List.getElem?_eq_some_iff.mp hj).2
        have e3 : (sortN (P.map (·.1)))[i] = n := (List.getElem?_eq_some_iff.mp hn).2
        have := (List.getElem_inj (h₀ := by omega) (h₁ := hi) (sortN_nodup ok.nd)).mp (e2.trans e3.symm)
        omega
      have eP : putA ((sortP P).take i) n b = (sortP P).take i ++ [(n, b)] := by
        unfold putA
        rw [if_neg]
        intro hh
        rw [List.any_eq_true] at hh
        obtain ⟨p, hp2, e⟩ := hh
        exact nn (by rw [← of_decide_eq_true e]; exact List.mem_map_of_mem (f := (·.1)) hp2)
      rw [← eP]
      exact ((rD.mono fun v b i => i.mono k7).put kS_inj (k := n) (v := v) (x := b) i1).mono fun v b i => i.mono k8
    · rintro D H6 fD ⟨k6, dD⟩
      row_readAll go
      have s6 := Slt.keep (b := .own 0) s4 (k5.trans k6) List.not_mem_nil List.not_mem_nil
      have x6 := (k5.trans k6).obj _ _ List.not_mem_nil x4
      refine v_slPut (y := .ref D) s6 (.inr x6) hne T.c T.s2 fun H7 k7 s7 x7 => ?_
      have e7 : putS 0 (.ref D) [none, some (V.ref nl)] = [some (V.ref D), some (V.ref nl)] := rfl
      rw [e7] at s7
      have fD4 : H4 D = none := k5.free fD
      have fDH3 : H3 D = none := k4.free fD4
      have Dne : D ≠ a ∧ D ≠ dx ∧ D ≠ nl := by
        refine ⟨?_, ?_, ?_⟩
        · rintro rfl; rw [fDH3] at ha3; cases ha3
        · rintro rfl; rw [fDH3] at hdx3; cases hdx3
        · rintro rfl; rw [fDH3] at g3; cases g3
      refine q nl D H7 ⟨dx, nl, D, rfl, s7, x7, ?_, ?_⟩ (kk.free f3) (kk3.free fDH3) ?_
      · rw [sortP_keys]
        exact k7.obj _ _ (by simp [nne.1, nne.2]) ((k5.trans k6).obj _ _ List.not_mem_nil (k4.obj _ _ (by simp [nne.1, nne.2]) g3))
      · have hl : (sortP P).length = P.length := by unfold sortP; rw [List.length_map, lks]
        rw [List.length_map, lks, ← hl, List.take_length] at dD
        exact dD.keep k7 (by simp [Dne.1, Dne.2.1])
      · exact ((kk3.nil.trans k4).step0 (k5.trans k6)).trans k7
end M


namespace M
open PySem L2
/-! ### what runs come to: a mirror in plain Lean -/
inductive Vl where
  | int (i : Int) | md (m : Str) | fn (m : Str) (p : Pth)
  deriving DecidableEq
def Vl.d : Vl → PyData
  | .int i => .int i
  | .md m => .tuple [.str "module", .str m]
  | .fn m p => .tuple [.str "function", .str m, pathD p]
abbrev Key2 := Str × Str
abbrev Vars := List (Key2 × Vl)
abbrev Plc := Str × Pth
structure Wd where
  left : Nat
  st : List (Str × Str)
  vs : Vars
  shown : List Vl
  ev : List (Str × Str)
inductive Rs where
  | ok (w : Wd) | err (k : Str) (t : List Plc) (w : Wd) | stop (t : List Plc) (w : Wd)
def evl (vs : Vars) (m : Str) : Ex → Except Str Vl
  | .int i => .ok (.int i)
  | .nm n => match valA vs (m, n) with
    | some x => .ok x
    | none => .error "unbound"
  | .of n a => match valA vs (m, n) with
    | none => .error "unbound"
    | some (.md h) => (match valA vs (h, a) with
      | some x => .ok x
      | none => .error "missing")
    | some _ => .error "kind"
  | .bin s l r => match evl vs m l with
    | .error e => .error e
    | .ok x => match evl vs m r with
      | .error e => .error e
      | .ok y => match x, y with
        | .int a, .int b => .ok (.int (if s = true then a + b else if a < b then 1 else 0))
        | _, _ => .error "kind"
def blkAt : List Stm → Pth → Option (List Stm)
  | _, [] => none
  | b, [i] => match b[i]? with
    | some (.fn _ body) => some body
    | _ => none
  | b, i :: k :: p => match b[i]? with
    | some s => (match s.blocks[k]? with
      | some b' => blkAt b' p
      | none => none)
    | none => none
/-- what a star binds: the keys of t, one behind another -/
def starL (m t : Str) : List Key2 → Vars → Vars
  | [], vs => vs
  | k :: r, vs => starL m t r (if k.1 = t then (match valA vs k with
    | some x => putA vs (m, k.2) x
    | none => vs) else vs)
def starB (vs : Vars) (m t : Str) : Vars := starL m t (vs.map (·.1)) vs
abbrev Fb := Str → Option (List Stm)
abbrev GoFn := List Plc → Str → Pth → List Stm → Wd → Option Rs
def told (w : Wd) (m : Str) : Str := (valA w.st m).getD "absent"
def endOk (m : Str) (w : Wd) : Wd := { w with st := putA w.st m "done", ev := w.ev ++ [(("end" : Str), m)] }
def endFail (m : Str) (w : Wd) : Wd := { w with st := putA w.st m "absent", vs := w.vs.filter (fun p => decide (p.1.1 ≠ m)), ev := w.ev ++ [(("fail" : Str), m)] }
def entered (m : Str) (w : Wd) : Wd := { w with left := w.left - 1, st := putA w.st m "running", ev := w.ev ++ [(("begin" : Str), m)] }
def ldEnd (m : Str) : Rs → Rs
  | .ok w => .ok (endOk m w)
  | .err k t w => .err k t (endFail m w)
  | .stop t w => .stop t w
def ldM (F : Fb) (g : GoFn) (T : List Plc) (m : Str) (w : Wd) : Option Rs := match F m with
  | none => some (.err "absent" T w)
  | some b => if told w m ≠ "absent" then some (.ok { w with ev := w.ev ++ [((if told w m = "running" then "half" else "again" : Str), m)] })
    else if w.left = 0 then some (.stop T w) else (g T m [] b (entered m w)).map (ldEnd m)
def thenOk (r : Option Rs) (f : Wd → Option Rs) : Option Rs := match r with
  | some (.ok w) => f w
  | r => r
/-- recursion at so much less fuel -/
def lower (g : Nat → GoFn) (n k : Nat) : GoFn := fun u m base b w => if k ≤ n then g (n - k) u m base b w else none
def stepM (F : Fb) (g : Nat → GoFn) (n : Nat) (u : List Plc) (m : Str) (path : Pth) (s : Stm) (w : Wd) : Option Rs := match s with
  | .set x e => (match evl w.vs m e with
    | .error k => some (.err k (u ++ [(m, path)]) w)
    | .ok v => some (.ok { w with vs := putA w.vs (m, x) v }))
  | .del x => (match valA w.vs (m, x) with
    | none => some (.err "unbound" (u ++ [(m, path)]) w)
    | some _ => some (.ok { w with vs := dropA w.vs (m, x) }))
  | .shw e => (match evl w.vs m e with
    | .error k => some (.err k (u ++ [(m, path)]) w)
    | .ok v => some (.ok { w with shown := w.shown ++ [v] }))
  | .call e => (match evl w.vs m e with
    | .error k => some (.err k (u ++ [(m, path)]) w)
    | .ok (.fn fm fp) => if w.left = 0 then some (.stop (u ++ [(m, path)]) w) else (match F fm with
      | none => none
      | some b0 => (match blkAt b0 fp with
        | none => none
        | some b => lower g n 3 (u ++ [(m, path)]) fm (fp ++ [0]) b { w with left := w.left - 1 }))
    | .ok _ => some (.err "kind" (u ++ [(m, path)]) w))
  | .raise => some (.err "raised" (u ++ [(m, path)]) w)
  | .imp t x => thenOk (ldM F (lower g n 3) (u ++ [(m, path)]) t w) fun w' => some (.ok { w' with vs := putA w'.vs (m, x) (.md t) })
  | .frm t y x => thenOk (ldM F (lower g n 3) (u ++ [(m, path)]) t w) fun w' => (match valA w'.vs (t, y) with
    | none => some (.err "missing" (u ++ [(m, path)]) w')
    | some v => some (.ok { w' with vs := putA w'.vs (m, x) v }))
  | .star t => thenOk (ldM F (lower g n 3) (u ++ [(m, path)]) t w) fun w' => some (.ok { w' with vs := starB w'.vs m t })
  | .fn x _ => some (.ok { w with vs := putA w.vs (m, x) (.fn m path) })
  | .ite e b o => (match evl w.vs m e with
    | .error k => some (.err k (u ++ [(m, path)]) w)
    | .ok (.int i) => if i = 0 then lower g n 3 u m (path ++ [1]) o w else lower g n 3 u m (path ++ [0]) b w
    | .ok _ => some (.err "kind" (u ++ [(m, path)]) w))
  | .tri k b h => (match lower g n 3 u m (path ++ [0]) b w with
    | some (.err e t w') => if k = "any" ∨ k = e then lower g n 3 u m (path ++ [1]) h w' else some (.err e t w')
    | r => r)
def goM (st : Pth → Stm → Wd → Option Rs) (base : Pth) : Nat → List Stm → Wd → Option Rs
  | _, [], w => some (.ok w)
  | i, s :: r, w => thenOk (st (base ++ [i]) s w) fun w' => goM st base (i + 1) r w'
def Go (F : Fb) (n : Nat) : GoFn := fun u m base b w => goM (fun path s w => stepM F (fun k => if h : k < n then Go F k else fun _ _ _ _ _ => none) n u m path s w) base 0 b w
termination_by n
decreasing_by exact h
def St' (F : Fb) (n : Nat) (u : List Plc) (m : Str) (path : Pth) (s : Stm) (w : Wd) : Option Rs := stepM F (Go F) n u m path s w
theorem lower_lt {g g' : Nat → GoFn} {n k : Nat} (hk : 0 < k) (h : ∀ j, j < n → g j = g' j) : lower g n k = lower g' n k := by
  funext u m base b w
  unfold lower
  by_cases e : k ≤ n
  · rw [if_pos e, if_pos e, h (n - k) (by omega)]
  · rw [if_neg e, if_neg e]
theorem stepM_congr {F : Fb} {g g' : Nat → GoFn} {n : Nat} (h : ∀ j, j < n → g j = g' j) (u : List Plc) (m : Str) (path : Pth) (s : Stm) (w : Wd) : stepM F g n u m path s w = stepM F g' n u m path s w := by
  have e3 : lower g n 3 = lower g' n 3 := lower_lt (by decide) h
  unfold stepM
  rw [e3]
theorem Go_eq (F : Fb) (n : Nat) (u : List Plc) (m : Str) (base : Pth) (b : List Stm) (w : Wd) : Go F n u m base b w = goM (fun path s w => St' F n u m path s w) base 0 b w := by
  rw [Go]
  have e : (fun (path : Pth) (s : Stm) (w : Wd) => stepM F (fun k => if h : k < n then Go F k else fun _ _ _ _ _ => none) n u m path s w) = fun path s w => St' F n u m path s w := by
    funext path s w
    exact stepM_congr (fun j hj => by rw [dif_pos hj]) u m path s w
  rw [e]
end M


namespace M
open PySem PySem.Spec PyProof.Rows L2 L2H
theorem sub_nil {P : Addr → Prop} : ∀ x ∈ ([] : List Addr), P x := fun _ h => nomatch h
theorem sub_cons {P : Addr → Prop} {a : Addr} {l : List Addr} (h : P a) (t : ∀ x ∈ l, P x) : ∀ x ∈ a :: l, P x := fun x m => by
  rcases List.mem_cons.mp m with rfl | m
  · exact h
  · exact t x m
theorem Keep.stepB {S T : List Addr} {H H1 H2 : Hp} (b : Keep T H1 H2) (h : ∀ x ∈ T, x ∈ S ∨ H x = none) (a : Keep S H H1) : Keep S H H2 := a.step b h
/-! ### tuples as keys, empty dicts for pairs -/
def mkN (xs : List V) (H : Hp) (Q : VK) : Prop := xs.length ≤ sizeLine ∧ ∀ p H2, H p = none → Keep [] H H2 → H2 p = some (.tup xs) → Q (.ref p) H2
def tTupN (t : TA) : TE := fun σ H Q => t σ H fun xs H1 => mkN xs H1 Q
def rDNewP (H : Hp) (Q : VK) : Prop := ∀ p H', H p = none → Keep [] H H' → H' p = some (.dT []) → Q (.ref p) H'
def tDNewP : TE := fun _ H Q => rDNewP H Q
section
variable {X : Cx}
theorem pe_tupN {es : List Expr} {t : TA} {x1} {pos : Pos} (h : PA X es t) : PE X (.Tuple es x1 pos) (tTupN t) := by
  refine ⟨fun pins s σ H Q I hq => ?_⟩
  refine wpAny_Tuple_spliced (thn (h.run pos pins s σ H _ I hq) fun us s1 ⟨xs, H1, I1, r, z, q⟩ => ⟨by rw [← r.length]; exact z, ?_⟩)
  have hf : H1 s1.heap.objs.size = none := I1.hok.fresh (Nat.le_refl _)
  refine ⟨.ref s1.heap.objs.size, upd H1 s1.heap.objs.size (.tup xs), I1.laid (t' := s1.toks) (fun b u e => Heap.get?_push_of_some _ e) (Nat.le_refl _) ?_, rfl, q _ _ hf (Keep.new hf) upd_same⟩
  exact ⟨z, us, r, ⟨_, Heap.get?_push_size _ rfl, rfl, _, rfl⟩⟩
theorem pe_dnewP {pos : Pos} : PE X (.Dict [] [] pos) tDNewP := ⟨fun pins s σ H Q I h => (pe_dnewT (X := X) (pos := pos)).run pins s σ H Q I fun p hp => h p _ hp (Keep.new hp) upd_same⟩
end
theorem RoomH.units {k : Nat} {A : Around} (r : RoomH k A) : A.units + 64 < cLine := by have := r.un; omega
/-! ### fields of instances -/
structure InsC (K : PySem.W.Frag) (C : Addr) (nm : List Str) : Prop where
  cls : Cls K C
  no : ∀ f ∈ nm, NoAttr K C f
def rFld (K : PySem.W.Frag) (f : Str) (x : V) (H : Hp) (Q : VK) : Prop := ∃ a C dx fs v, x = .ref a ∧ H a = some (.ins C dx fs) ∧ Cls K C ∧ NoAttr K C f ∧ fs.lookup f = some v ∧ Q v H
def rPut (K : PySem.W.Frag) (f : Str) (x y : V) (H : Hp) (R : Hp → Prop) : Prop := ∃ a C dx fs, x = .ref a ∧ H a = some (.ins C dx fs) ∧ Cls K C ∧ NoAttr K C f ∧ fs.length < 1000 ∧ R (upd H a (.ins C dx (putF f y fs)))
def rAug (K : PySem.W.Frag) (f : Str) (rd : V → V → Hp → VK → Prop) (x : V) (tv : Hp → VK → Prop) (H : Hp) (R : Hp → Prop) : Prop := ∃ a C dx fs v, x = .ref a ∧ H a = some (.ins C dx fs) ∧ Cls K C ∧ NoAttr K C f ∧ fs.lookup f = some v ∧
  tv H fun y H2 => rd v y H2 fun z H3 => ∃ dx' fs', H3 a = some (.ins C dx' fs') ∧ fs'.length < 1000 ∧ R (upd H3 a (.ins C dx' (putF f z fs')))
def rMet (C : Addr) (m : Str) (x : V) (H : Hp) (R : Prop) : Prop := ∃ a dx fs, x = .ref a ∧ H a = some (.ins C dx fs) ∧ fs.lookup m = none ∧ R
section
variable {K : PySem.W.Frag} {σ : L2.St} {H : Hp} {Q : VK} {D : Ends} {S : List Addr} {C a dx : Addr} {fs : List (Str × V)} {nm : List Str} {f : Str}
theorem q_fld {ta : TE} : tFld K ta f σ H Q = ta σ H fun x H1 => rFld K f x H1 Q := rfl
theorem q_sFld {ta tv : TE} : sFld K ta tv f D σ H = tv σ H fun y H1 => ta σ H1 fun x H2 => rPut K f x y H2 (D.nx σ) := rfl
theorem q_aug2 {ta tv : TE} {rd : V → V → Hp → VK → Prop} : sFldAug K ta tv rd f D σ H = ta σ H fun x H1 => rAug K f rd x (fun H2 Q2 => tv σ H2 Q2) H1 (D.nx σ) := rfl
theorem q_meth {m : Str} {sp : Sp} {E : XK} {ta : TE} {t : TA} : tMeth C m sp [] E ta t σ H Q = ta σ H fun x H1 => ∃ a dx fs, x = .ref a ∧ H1 a = some (.ins C dx fs) ∧ fs.lookup m = none ∧ t σ H1 fun vs H2 => sp (x :: (vs ++ [])) H2 Q E := rfl
theorem q_methH {m : Str} {sp : Sp} {E : L2.St → XK} {ta : TE} {t : TA} : tMethH C m sp E ta t σ H Q = ta σ H fun x H1 => ∃ a dx fs, x = .ref a ∧ H1 a = some (.ins C dx fs) ∧ fs.lookup m = none ∧ t σ H1 fun vs H2 => sp (x :: vs) H2 Q (E σ) := rfl
theorem q_tupN {t : TA} : tTupN t σ H Q = t σ H fun xs H1 => mkN xs H1 Q := rfl
theorem q_dnewP : tDNewP σ H Q = rDNewP H Q := rfl
theorem q_bm0 {T : String} {r : V → List V → Hp → VK → Prop} {to : TE} : tBM0 K T r to σ H Q = to σ H fun x H1 => tyV K T x H1 ∧ r x [] H1 Q := rfl
theorem q_lockE {t : TE} : tLockE t σ H Q = ∃ d u, H d = some u ∧ Mut (some u) ∧ ∀ od, t σ (upd H d (.frz od u)) fun v H' => H' d = some (.frz od u) ∧ Q v (upd H' d u) := rfl
theorem v_fld {v : V} (h : H a = some (.ins C dx fs)) (T : InsC K C nm) (m : f ∈ nm) (e : fs.lookup f = some v) (q : Q v H) : rFld K f (.ref a) H Q := ⟨a, C, dx, fs, v, rfl, h, T.cls, T.no f m, e, q⟩
theorem v_put {y : V} {R : Hp → Prop} (h : H a = some (.ins C dx fs)) (T : InsC K C nm) (m : f ∈ nm) (l : fs.length < 1000) (q : ∀ H', Keep [a] H H' → H' a = some (.ins C dx (putF f y fs)) → R H') : rPut K f (.ref a) y H R :=
  ⟨a, C, dx, fs, rfl, h, T.cls, T.no f m, l, q _ (Keep.put h True.intro) upd_same⟩
theorem v_augI {i j : Int} {tv : Hp → VK → Prop} {R : Hp → Prop} (h : H a = some (.ins C dx fs)) (T : InsC K C nm) (m : f ∈ nm) (e : fs.lookup f = some (.int i)) (l : fs.length < 1000)
    (q : ∀ P : VK, (∀ H', Keep [a] H H' → H' a = some (.ins C dx (putF f (.int (i - j)) fs)) → R H') → P (.int j) H → tv H P) (r : ∀ H', Keep [a] H H' → H' a = some (.ins C dx (putF f (.int (i - j)) fs)) → R H') : rAug K f rSub (.ref a) tv H R :=
  ⟨a, C, dx, fs, .int i, rfl, h, T.cls, T.no f m, e, q _ r ⟨i, j, rfl, rfl, dx, fs, h, l, r _ (Keep.put h True.intro) upd_same⟩⟩
theorem v_meth {m : Str} {R : Prop} (h : H a = some (.ins C dx fs)) (e : fs.lookup m = none) (q : R) : ∃ b dx fs, V.ref a = .ref b ∧ H b = some (.ins C dx fs) ∧ fs.lookup m = none ∧ R := ⟨a, dx, fs, rfl, h, e, q⟩
theorem v_mkN {xs : List V} (l : xs.length ≤ sizeLine) (h : ∀ p H2, H p = none → Keep [] H H2 → H2 p = some (.tup xs) → Q (.ref p) H2) : mkN xs H Q := ⟨l, h⟩
theorem v_tyD {kvs : List (Key × V)} {P : Prop} (h : H a = some (.dK kvs)) (q : P) : tyV K "dict" (.ref a) H ∧ P := ⟨.inr (.inr (.inl ⟨rfl, .inl ⟨_, h⟩⟩)), q⟩
theorem v_tyP {kvs : List (List Key × V)} {P : Prop} (h : H a = some (.dT kvs)) (q : P) : tyV K "dict" (.ref a) H ∧ P := ⟨.inr (.inr (.inl ⟨rfl, .inr ⟨_, h⟩⟩)), q⟩
theorem v_get2 {m : List (Key × V)} {k : Str} {z : V} (h : Rd H a (.dK m)) (q : Q ((valV m (.inr k)).getD z) H) : rGet2 (.ref a) [.str k, z] H Q := ⟨a, _, z, valV m (.inr k), rfl, rfl, .inl ⟨m, .inr k, h, rfl, rfl⟩, q⟩
theorem v_pop {xs : List V} {y : V} (h : H a = some (.lst (xs ++ [y]))) (q : ∀ H', Keep [a] H H' → H' a = some (.lst xs) → Q y H') : rPop (.ref a) [] H Q := by
  refine ⟨a, xs ++ [y], y, rfl, rfl, h, ?_, ?_⟩
  · simp
  · rw [List.dropLast_concat]
    exact q _ (Keep.put h True.intro) upd_same
/-! pair keys -/
theorem v_ixP {b : Addr} {m : List (List Key × V)} {k : Key2} {v : V} (h : Rd H a (.dT m)) (hb : H b = some (.tup [.str k.1, .str k.2])) (e : valV m (kT k) = some v) (q : Q v H) : rIxD (.ref a) (.ref b) H Q := ⟨a, v, rfl, .inr ⟨m, kT k, b, h, rfl, hb, e.symm⟩, q⟩
theorem v_inP {b : Addr} {m : List (List Key × V)} {k : Key2} (h : Rd H a (.dT m)) (hb : H b = some (.tup [.str k.1, .str k.2])) (q : Q (.bl (valV m (kT k)).isSome) H) : rInD (.ref b) (.ref a) H Q := ⟨a, _, rfl, .inr ⟨m, kT k, b, h, rfl, hb, rfl⟩, q⟩
theorem v_ninP {b : Addr} {m : List (List Key × V)} {k : Key2} (h : Rd H a (.dT m)) (hb : H b = some (.tup [.str k.1, .str k.2])) (q : Q (.bl (!(valV m (kT k)).isSome)) H) : rNotInD (.ref b) (.ref a) H Q := ⟨a, _, rfl, .inr ⟨m, kT k, b, h, rfl, hb, rfl⟩, q⟩
theorem v_setP {b : Addr} {m : List (List Key × V)} {k : Key2} {v : V} {R : Hp → Prop} (h : H a = some (.dT m)) (hb : H b = some (.tup [.str k.1, .str k.2])) (l : m.length < sizeLine) (q : ∀ H', Keep [a] H H' → H' a = some (.dT (putK m (kT k) v)) → R H') : rSetD (.ref a) (.ref b) v H R :=
  ⟨a, _, rfl, .inr ⟨m, kT k, b, h, rfl, hb, l, rfl⟩, q _ (Keep.put h True.intro) upd_same⟩
theorem v_delP {b : Addr} {m : List (List Key × V)} {k : Key2} {v : V} {R : Hp → Prop} (h : H a = some (.dT m)) (hb : H b = some (.tup [.str k.1, .str k.2])) (e : valV m (kT k) = some v) (q : ∀ H', Keep [a] H H' → H' a = some (.dT (dropK m (kT k))) → R H') : rDelT (.ref a) (.ref b) H R :=
  ⟨a, b, m, kT k, v, rfl, rfl, h, hb, e, q _ (Keep.put h True.intro) upd_same⟩
theorem v_popP {b : Addr} {m : List (List Key × V)} {k : Key2} {v : V} (h : H a = some (.dT m)) (hb : H b = some (.tup [.str k.1, .str k.2])) (e : valV m (kT k) = some v) (q : ∀ H', Keep [a] H H' → H' a = some (.dT (dropK m (kT k))) → Q v H') : rPopT1 (.ref a) [.ref b] H Q :=
  ⟨a, b, m, kT k, v, rfl, rfl, h, hb, e, q _ (Keep.put h True.intro) upd_same⟩
end
end M


local macro_rules | `(tactic| row_readAll n3) => `(tactic| simp only [q_fld, q_sFld, q_aug2, q_meth, q_methH, q_tupN, q_dnewP, q_bm0, List.append_nil])
local macro_rules | `(tactic| row_readAll fl) => `(tactic| ((with_reducible show rFld _ _ (V.ref _) _ _); refine v_fld (by row_readAll ob) (by assumption) (by decide +kernel) (by rfl) ?_))
local macro_rules | `(tactic| row_readAll s) => `(tactic| first | row_readAll n | row_readAll n2 | row_readAll n3 | row_readAll s2 | row_readAll fl | row_readAll br | row_readAll nx)
local macro_rules | `(tactic| row_readAll kf) => `(tactic| first | assumption | exact Keep.free (by assumption) (by row_readAll kf))
local macro_rules | `(tactic| row_readAll km) => `(tactic| first | exact sub_nil | (refine sub_cons (by first | exact .inl (by simp) | exact .inr (by row_readAll kf)) ?_; row_readAll km))
local macro_rules | `(tactic| row_readAll kc) => `(tactic| first | exact Keep.refl _ _ | exact Keep.stepB (by assumption) (by row_readAll km) (by row_readAll kc))
namespace M
open PySem L2 L2H
/-! ### the world of a run in the heap -/
def evD (e : Str × Str) : PyData := .tuple [.str e.1, .str e.2]
structure WA where
  W : Addr
  dx : Addr
  S : Addr
  B : Addr
  L : Addr
  E : Addr
abbrev nmW : List Str := ["left", "statuses", "bindings", "lines", "happened"]
def wFs (A : WA) (n : Int) : List (Str × V) := [("left", .int n), ("statuses", .ref A.S), ("bindings", .ref A.B), ("lines", .ref A.L), ("happened", .ref A.E)]
structure WldAt (K : PySem.W.Frag) (H : Hp) (C : Addr) (A : WA) (w : Wd) : Prop where
  obj : H A.W = some (.ins C A.dx (wFs A w.left))
  st : ∃ m, H A.S = some (.dK m) ∧ MapR kS (fun v s => v = .str s) m w.st
  vs : ∃ m, H A.B = some (.dT m) ∧ MapR kT (fun v x => Im K H v (Vl.d x)) m w.vs
  sh : ∃ l, H A.L = some (.lst l) ∧ ImAll K H l (w.shown.map Vl.d)
  ev : ∃ l, H A.E = some (.lst l) ∧ ImAll K H l (w.ev.map evD)
  ne : A.L ≠ A.E
def WA.fp (A : WA) : List Addr := [A.W, A.S, A.B, A.L, A.E]
section
variable {K : PySem.W.Frag} {H H' : Hp} {C : Addr} {A : WA} {w : Wd} {S : List Addr}
theorem WldAt.keep (x : WldAt K H C A w) (k : Keep S H H') (n : ∀ b ∈ A.fp, b ∉ S) : WldAt K H' C A w := by
  obtain ⟨m1, h1, r1⟩ := x.st
  obtain ⟨m2, h2, r2⟩ := x.vs
  obtain ⟨l3, h3, r3⟩ := x.sh
  obtain ⟨l4, h4, r4⟩ := x.ev
  refine ⟨k.obj _ _ (n _ (by simp [WA.fp])) x.obj, ⟨m1, k.obj _ _ (n _ (by simp [WA.fp])) h1, r1⟩, ⟨m2, k.obj _ _ (n _ (by simp [WA.fp])) h2, r2.mono fun v b i => i.mono k⟩, ⟨l3, k.obj _ _ (n _ (by simp [WA.fp])) h3, r3.mono k⟩, ⟨l4, k.obj _ _ (n _ (by simp [WA.fp])) h4, r4.mono k⟩, x.ne⟩
theorem WldAt.k0 (x : WldAt K H C A w) (k : Keep [] H H') : WldAt K H' C A w := x.keep k fun _ _ => List.not_mem_nil
theorem neq_of {a b : Addr} {u v : HO} (h1 : H a = some u) (h2 : H b = some v) (ne : u ≠ v) : a ≠ b := fun e => by rw [e, h2] at h1; exact ne (Option.some.inj h1).symm
theorem WldAt.ns (x : WldAt K H C A w) : A.W ≠ A.S ∧ A.W ≠ A.B ∧ A.W ≠ A.L ∧ A.W ≠ A.E ∧ A.S ≠ A.B ∧ A.S ≠ A.L ∧ A.S ≠ A.E ∧ A.B ≠ A.L ∧ A.B ≠ A.E ∧ A.L ≠ A.E := by
  obtain ⟨m1, h1, r1⟩ := x.st
  obtain ⟨m2, h2, r2⟩ := x.vs
  obtain ⟨l3, h3, r3⟩ := x.sh
  obtain ⟨l4, h4, r4⟩ := x.ev
  have h0 := x.obj
  exact ⟨neq_of h0 h1 (fun z => nomatch z), neq_of h0 h2 (fun z => nomatch z), neq_of h0 h3 (fun z => nomatch z), neq_of h0 h4 (fun z => nomatch z), neq_of h1 h2 (fun z => nomatch z), neq_of h1 h3 (fun z => nomatch z), neq_of h1 h4 (fun z => nomatch z), neq_of h2 h3 (fun z => nomatch z), neq_of h2 h4 (fun z => nomatch z), x.ne⟩
theorem WldAt.toSt (x : WldAt K H C A w) {m : List (Key × V)} {st : List (Str × Str)} (k : Keep [A.S] H H') (h : H' A.S = some (.dK m)) (r : MapR kS (fun v s => v = .str s) m st) : WldAt K H' C A { w with st := st } := by
  obtain ⟨n1, n2, n3, n4, n5, n6, n7, n8, n9, n0⟩ := x.ns
  obtain ⟨m2, h2, r2⟩ := x.vs
  obtain ⟨l3, h3, r3⟩ := x.sh
  obtain ⟨l4, h4, r4⟩ := x.ev
  exact ⟨k.obj _ _ (by simp [n1]) x.obj, ⟨m, h, r⟩, ⟨m2, k.obj _ _ (by simp [n5.symm]) h2, r2.mono fun v b i => i.mono k⟩, ⟨l3, k.obj _ _ (by simp [n6.symm]) h3, r3.mono k⟩, ⟨l4, k.obj _ _ (by simp [n7.symm]) h4, r4.mono k⟩, x.ne⟩
theorem WldAt.toEv (x : WldAt K H C A w) {l : List V} {ev : List (Str × Str)} (k : Keep [A.E] H H') (h : H' A.E = some (.lst l)) (r : ImAll K H' l (ev.map evD)) : WldAt K H' C A { w with ev := ev } := by
  obtain ⟨n1, n2, n3, n4, n5, n6, n7, n8, n9, n0⟩ := x.ns
  obtain ⟨m1, h1, r1⟩ := x.st
  obtain ⟨m2, h2, r2⟩ := x.vs
  obtain ⟨l3, h3, r3⟩ := x.sh
  exact ⟨k.obj _ _ (by simp [n4]) x.obj, ⟨m1, k.obj _ _ (by simp [n7]) h1, r1⟩, ⟨m2, k.obj _ _ (by simp [n9]) h2, r2.mono fun v b i => i.mono k⟩, ⟨l3, k.obj _ _ (by simp [n0]) h3, r3.mono k⟩, ⟨l, h, r⟩, x.ne⟩
theorem WldAt.toSh (x : WldAt K H C A w) {l : List V} {sh : List Vl} (k : Keep [A.L] H H') (h : H' A.L = some (.lst l)) (r : ImAll K H' l (sh.map Vl.d)) : WldAt K H' C A { w with shown := sh } := by
  obtain ⟨n1, n2, n3, n4, n5, n6, n7, n8, n9, n0⟩ := x.ns
  obtain ⟨m1, h1, r1⟩ := x.st
  obtain ⟨m2, h2, r2⟩ := x.vs
  obtain ⟨l4, h4, r4⟩ := x.ev
  exact ⟨k.obj _ _ (by simp [n3]) x.obj, ⟨m1, k.obj _ _ (by simp [n6]) h1, r1⟩, ⟨m2, k.obj _ _ (by simp [n8]) h2, r2.mono fun v b i => i.mono k⟩, ⟨l, h, r⟩, ⟨l4, k.obj _ _ (by simp [n0.symm]) h4, r4.mono k⟩, x.ne⟩
theorem WldAt.toVs (x : WldAt K H C A w) {m : List (List Key × V)} {vs : Vars} (k : Keep [A.B] H H') (h : H' A.B = some (.dT m)) (r : MapR kT (fun v x => Im K H' v (Vl.d x)) m vs) : WldAt K H' C A { w with vs := vs } := by
  obtain ⟨n1, n2, n3, n4, n5, n6, n7, n8, n9, n0⟩ := x.ns
  obtain ⟨m1, h1, r1⟩ := x.st
  obtain ⟨l3, h3, r3⟩ := x.sh
  obtain ⟨l4, h4, r4⟩ := x.ev
  exact ⟨k.obj _ _ (by simp [n2]) x.obj, ⟨m1, k.obj _ _ (by simp [n5]) h1, r1⟩, ⟨m, h, r⟩, ⟨l3, k.obj _ _ (by simp [n8.symm]) h3, r3.mono k⟩, ⟨l4, k.obj _ _ (by simp [n9.symm]) h4, r4.mono k⟩, x.ne⟩
theorem WldAt.toLeft (x : WldAt K H C A w) {n : Nat} (k : Keep [A.W] H H') (h : H' A.W = some (.ins C A.dx (wFs A n))) : WldAt K H' C A { w with left := n } := by
  obtain ⟨n1, n2, n3, n4, n5, n6, n7, n8, n9, n0⟩ := x.ns
  obtain ⟨m1, h1, r1⟩ := x.st
  obtain ⟨m2, h2, r2⟩ := x.vs
  obtain ⟨l3, h3, r3⟩ := x.sh
  obtain ⟨l4, h4, r4⟩ := x.ev
  exact ⟨h, ⟨m1, k.obj _ _ (by simp [n1.symm]) h1, r1⟩, ⟨m2, k.obj _ _ (by simp [n2.symm]) h2, r2.mono fun v b i => i.mono k⟩, ⟨l3, k.obj _ _ (by simp [n3.symm]) h3, r3.mono k⟩, ⟨l4, k.obj _ _ (by simp [n4.symm]) h4, r4.mono k⟩, x.ne⟩
end
/-! ### its methods -/
theorem stGet {m : List (Key × V)} {st : List (Str × Str)} {n z : Str} (r : MapR kS (fun v s => v = .str s) m st) : (valV m (.inr n)).getD (.str z) = .str ((valA st n).getD z) := by
  rcases r.val kS_inj n with ⟨e1, e2⟩ | ⟨v, x, e1, e2, e3⟩
  · rw [show valV m (.inr n) = none from e1, e2]; rfl
  · rw [show valV m (.inr n) = some v from e1, e2, e3]; rfl
def sp_World_told_status (K : PySem.W.Frag) (C : Addr) : Sp := fun vs H Q _ => ∃ A w m, vs = [.ref A.W, .str m] ∧ WldAt K H C A w ∧ Q (.str (told w m)) H
def t_World_told_status (K : PySem.W.Frag)  : TS := (tRet (tBM K "dict" rGet2 (tFld K (tVar 0) "statuses") (tCons (tVar 1) (tCons (tC (.str "absent")) tNil))))
def n_World_told_status : List Str := ["self", "module"]
theorem pure_World_told_status {K : PySem.W.Frag} {C : Addr} (T : InsC K C nmW) (vs : List V) (H : Hp) (Q : VK) (E : XK) (h : sp_World_told_status K C vs H Q E) : t_World_told_status K { nx := fun _ H' => Q .non H', rt := Q } (start n_World_told_status vs) H := by
  obtain ⟨A, w, m, rfl, x, q⟩ := h
  show t_World_told_status K _ [some (.ref A.W), some (.str m)] H
  unfold t_World_told_status
  obtain ⟨mm, hS, rS⟩ := x.st
  have hW := x.obj
  row_readAll go
  refine v_tyD hS ?_
  row_readAll go
  refine v_get2 (.inl hS) ?_
  rw [stGet rS]
  exact q
end M


namespace M
open PySem L2 L2H
/-! ### statuses and events -/
def sp_World_enter (K : PySem.W.Frag) (C : Addr) : Sp := fun vs H Q _ => ∃ A w m, vs = [.ref A.W, .str m] ∧ WldAt K H C A w ∧ w.st.length < 100000 ∧ w.ev.length < 100000 ∧
  ∀ H', WldAt K H' C A { w with st := putA w.st m "running", ev := w.ev ++ [(("begin" : Str), m)] } → Keep [A.S, A.E] H H' → Q .non H'
def sp_World_leave (K : PySem.W.Frag) (C : Addr) : Sp := fun vs H Q _ => ∃ A w m, vs = [.ref A.W, .str m] ∧ WldAt K H C A w ∧ w.st.length < 100000 ∧ w.ev.length < 100000 ∧
  ∀ H', WldAt K H' C A (endOk m w) → Keep [A.S, A.E] H H' → Q .non H'
theorem im_ev {K : PySem.W.Frag} {H : Hp} {p : Addr} {a b : Str} (h : SqT K H p [.str a, .str b]) : Im K H (.ref p) (evD (a, b)) := .tup h (.cons (.str a) (.cons (.str b) .nil))
theorem ImAll.add {K : PySem.W.Frag} {H : Hp} {l : List V} {v : V} {α : Type} {f : α → PyData} {xs : List α} {x : α} (h : ImAll K H l (xs.map f)) (i : Im K H v (f x)) : ImAll K H (l ++ [v]) ((xs ++ [x]).map f) := by
  rw [List.map_append]
  exact h.append (.cons i .nil)
def t_World_enter (K : PySem.W.Frag)  : TS := (tSeq (tAsg (tC (.str "running")) (gSub (tFld K (tVar 0) "statuses") (tVar 1) rSetD))
  (tDrop (tBM K "list" rAppend (tFld K (tVar 0) "happened") (tCons (tTupX K (tCons (tC (.str "begin")) (tCons (tVar 1) tNil))) tNil))))
def n_World_enter : List Str := ["self", "module"]
theorem pure_World_enter {K : PySem.W.Frag} {C : Addr} (T : InsC K C nmW) (vs : List V) (H : Hp) (Q : VK) (E : XK) (h : sp_World_enter K C vs H Q E) : t_World_enter K { nx := fun _ H' => Q .non H', rt := Q } (start n_World_enter vs) H := by
  obtain ⟨A, w, m, rfl, x, l1, l2, q⟩ := h
  show t_World_enter K _ [some (.ref A.W), some (.str m)] H
  unfold t_World_enter
  have sl := sl_eq
  obtain ⟨n1, n2, n3, n4, n5, n6, n7, n8, n9, n0⟩ := x.ns
  obtain ⟨mm, hS, rS⟩ := x.st
  have hW := x.obj
  row_readAll go
  refine v_setD hS (by have := rS.length; omega) fun H1 k1 g1 => ?_
  have x1 := x.toSt k1 g1 (rS.put kS_inj rfl)
  row_readAll go
  obtain ⟨le, hE, rE⟩ := x1.ev
  refine v_tyL hE ?_
  row_readAll ga
  rename_i p H2 f2 k2 s2
  refine v_append (k2.obj _ _ List.not_mem_nil hE) (by have := rE.length; rw [List.length_map] at this; show le.length < _; have e : w.ev.length = le.length := this.symm; omega) fun H3 k3 g3 => ?_
  row_readAll go
  refine q _ ((x1.k0 k2).toEv k3 g3 (((rE.mono k2).mono k3).add (im_ev (k3.sqT s2)))) ?_
  row_readAll kc
def t_World_leave (K : PySem.W.Frag)  : TS := (tSeq (tAsg (tC (.str "done")) (gSub (tFld K (tVar 0) "statuses") (tVar 1) rSetD))
  (tDrop (tBM K "list" rAppend (tFld K (tVar 0) "happened") (tCons (tTupX K (tCons (tC (.str "end")) (tCons (tVar 1) tNil))) tNil))))
def n_World_leave : List Str := ["self", "module"]
theorem pure_World_leave {K : PySem.W.Frag} {C : Addr} (T : InsC K C nmW) (vs : List V) (H : Hp) (Q : VK) (E : XK) (h : sp_World_leave K C vs H Q E) : t_World_leave K { nx := fun _ H' => Q .non H', rt := Q } (start n_World_leave vs) H := by
  obtain ⟨A, w, m, rfl, x, l1, l2, q⟩ := h
  show t_World_leave K _ [some (.ref A.W), some (.str m)] H
  unfold t_World_leave
  have sl := sl_eq
  obtain ⟨n1, n2, n3, n4, n5, n6, n7, n8, n9, n0⟩ := x.ns
  obtain ⟨mm, hS, rS⟩ := x.st
  have hW := x.obj
  row_readAll go
  refine v_setD hS (by have := rS.length; omega) fun H1 k1 g1 => ?_
  have x1 := x.toSt k1 g1 (rS.put kS_inj rfl)
  row_readAll go
  obtain ⟨le, hE, rE⟩ := x1.ev
  refine v_tyL hE ?_
  row_readAll ga
  rename_i p H2 f2 k2 s2
  refine v_append (k2.obj _ _ List.not_mem_nil hE) (by have := rE.length; rw [List.length_map] at this; show le.length < _; have e : w.ev.length = le.length := this.symm; omega) fun H3 k3 g3 => ?_
  row_readAll go
  exact q _ ((x1.k0 k2).toEv k3 g3 (((rE.mono k2).mono k3).add (im_ev (k3.sqT s2)))) (by row_readAll kc)
def sp_World_meet (K : PySem.W.Frag) (C : Addr) : Sp := fun vs H Q _ => ∃ A w m, vs = [.ref A.W, .str m] ∧ WldAt K H C A w ∧ w.ev.length < 100000 ∧
  (told w m = "absent" → Q (.bl false) H) ∧ (told w m ≠ "absent" → ∀ H', WldAt K H' C A { w with ev := w.ev ++ [((if told w m = "running" then "half" else "again" : Str), m)] } → Keep [A.E] H H' → Q (.bl true) H')
def t_World_meet (K : PySem.W.Frag) (CW : Addr) : TS := (tSeq (tAsg (tMeth CW "told_status" (sp_World_told_status K CW) [] E0 (tVar 0) (tCons (tVar 1) tNil)) (gName 2))
  (tSeq (tIfS (tTest (tOp (rEqX K) (tVar 2) (tC (.str "absent")))) (tRet (tC (.bl false))) tNext)
  (tSeq (tDrop (tBM K "list" rAppend (tFld K (tVar 0) "happened") (tCons (tTupX K (tCons (tIf (tTest (tOp (rEqX K) (tVar 2) (tC (.str "running")))) (tC (.str "half")) (tC (.str "again"))) (tCons (tVar 1) tNil))) tNil)))
  (tRet (tC (.bl true))))))
def n_World_meet : List Str := ["self", "module", "status"]
theorem pure_World_meet {K : PySem.W.Frag} {C : Addr} (T : InsC K C nmW) (vs : List V) (H : Hp) (Q : VK) (E : XK) (h : sp_World_meet K C vs H Q E) : t_World_meet K C { nx := fun _ H' => Q .non H', rt := Q } (start n_World_meet vs) H := by
  obtain ⟨A, w, m, rfl, x, l2, q1, q2⟩ := h
  show t_World_meet K C _ [some (.ref A.W), some (.str m), none] H
  unfold t_World_meet
  have sl := sl_eq
  obtain ⟨n1, n2, n3, n4, n5, n6, n7, n8, n9, n0⟩ := x.ns
  have hW := x.obj
  obtain ⟨le, hE, rE⟩ := x.ev
  row_readAll go
  refine v_meth hW (by rfl) ?_
  row_readAll go
  refine ⟨A, w, m, rfl, x, ?_⟩
  row_readAll go
  by_cases e : told w m = "absent"
  · rw [decide_eq_true e]
    row_readAll go
    exact q1 e
  · rw [decide_eq_false e]
    row_readAll go
    refine v_tyL hE ?_
    row_readAll go
    by_cases e2 : told w m = "running"
    · rw [decide_eq_true e2]
      row_readAll ga
      rename_i p H2 f2 k2 s2
      refine v_append (k2.obj _ _ List.not_mem_nil hE) (by have := rE.length; rw [List.length_map] at this; omega) fun H3 k3 g3 => ?_
      row_readAll go
      refine q2 e _ ((x.k0 k2).toEv k3 g3 ?_) (by row_readAll kc)
      rw [if_pos e2]
      exact ((rE.mono k2).mono k3).add (im_ev (k3.sqT s2))
    · rw [decide_eq_false e2]
      row_readAll ga
      rename_i p H2 f2 k2 s2
      refine v_append (k2.obj _ _ List.not_mem_nil hE) (by have := rE.length; rw [List.length_map] at this; omega) fun H3 k3 g3 => ?_
      row_readAll go
      refine q2 e _ ((x.k0 k2).toEv k3 g3 ?_) (by row_readAll kc)
      rw [if_neg e2]
      exact ((rE.mono k2).mono k3).add (im_ev (k3.sqT s2))
def sp_World___init__ (K : PySem.W.Frag) (C : Addr) : Sp := fun vs H Q _ => ∃ x dx, ∃ n : Nat, vs = [.ref x, .int n] ∧ H x = some (.ins C dx []) ∧
  ∀ A H', WldAt K H' C A ⟨n, [], [], [], []⟩ → A.W = x → A.dx = dx → (∀ b ∈ [A.S, A.B, A.L, A.E], H b = none) → Keep [x] H H' → Q .non H'
def t_World___init__ (K : PySem.W.Frag)  : TS := (tSeq (sFld K (tVar 0) (tVar 1) "left")
  (tSeq (sFld K (tVar 0) tDNew "statuses")
  (tSeq (sFld K (tVar 0) tDNewP "bindings")
  (tSeq (sFld K (tVar 0) (tLstX tNil) "lines")
  (sFld K (tVar 0) (tLstX tNil) "happened")))))
def n_World___init__ : List Str := ["self", "limit"]
theorem pure_World___init__ {K : PySem.W.Frag} {C : Addr} (T : InsC K C nmW) (vs : List V) (H : Hp) (Q : VK) (E : XK) (h : sp_World___init__ K C vs H Q E) : t_World___init__ K { nx := fun _ H' => Q .non H', rt := Q } (start n_World___init__ vs) H := by
  obtain ⟨x, dx, n, rfl, hx, q⟩ := h
  show t_World___init__ K _ [some (.ref x), some (.int n)] H
  unfold t_World___init__
  row_readAll go
  refine v_put hx T (by decide +kernel) (by simp) fun H1 k1 g1 => ?_
  replace g1 : H1 x = some (.ins C dx [("left", .int n)]) := g1
  row_readAll go
  refine v_dnew fun S H2 f2 k2 g2 => ?_
  refine v_put (k2.obj _ _ List.not_mem_nil g1) T (by decide +kernel) (by simp) fun H3 k3 g3 => ?_
  replace g3 : H3 x = some (.ins C dx [("left", .int n), ("statuses", .ref S)]) := g3
  row_readAll go
  intro B H4 f4 k4 g4
  refine v_put (k4.obj _ _ List.not_mem_nil g3) T (by decide +kernel) (by simp) fun H5 k5 g5 => ?_
  replace g5 : H5 x = some (.ins C dx [("left", .int n), ("statuses", .ref S), ("bindings", .ref B)]) := g5
  row_readAll go
  refine v_mkL (by simp) fun L H6 f6 k6 g6 => ?_
  refine v_put (k6.obj _ _ List.not_mem_nil g5) T (by decide +kernel) (by simp) fun H7 k7 g7 => ?_
  replace g7 : H7 x = some (.ins C dx [("left", .int n), ("statuses", .ref S), ("bindings", .ref B), ("lines", .ref L)]) := g7
  row_readAll go
  refine v_mkL (by simp) fun E' H8 f8 k8 g8 => ?_
  refine v_put (k8.obj _ _ List.not_mem_nil g7) T (by decide +kernel) (by simp) fun H9 k9 g9 => ?_
  replace g9 : H9 x = some (.ins C dx (wFs ⟨x, dx, S, B, L, E'⟩ n)) := g9
  row_readAll go
  have fS : H S = none := by row_readAll kf
  have fB : H B = none := by row_readAll kf
  have fL : H L = none := by row_readAll kf
  have fE : H E' = none := by row_readAll kf
  have nS : S ≠ x := fun z => by rw [z, hx] at fS; cases fS
  have nB : B ≠ x := fun z => by rw [z, hx] at fB; cases fB
  have nL : L ≠ x := fun z => by rw [z, hx] at fL; cases fL
  have nE : E' ≠ x := fun z => by rw [z, hx] at fE; cases fE
  have nLE : L ≠ E' := (k7.ne g6 f8)
  refine q ⟨x, dx, S, B, L, E'⟩ H9 ⟨g9, ⟨[], by row_readAll ob, .nil⟩, ⟨[], by row_readAll ob, .nil⟩, ⟨[], by row_readAll ob, .nil⟩, ⟨[], by row_readAll ob, .nil⟩, nLE⟩ rfl rfl ?_ (by row_readAll kc)
  intro b hb
  simp only [List.mem_cons, List.not_mem_nil, or_false] at hb
  rcases hb with rfl | rfl | rfl | rfl <;> assumption
end M


namespace M
open PySem L2 L2H
theorem nodup_take {α β : Type} {l : List (α × β)} {i : Nat} {k : α} {x : β} (nd : (l.map (·.1)).Nodup) (h : l[i]? = some (k, x)) : k ∉ (l.take i).map (·.1) := fun hm => by
  have e := split_at h
  rw [e, List.map_append, List.nodup_append] at nd
  exact nd.2.2 k hm k (by simp) rfl
theorem putA_new {κ α : Type} [DecidableEq κ] {l : List (κ × α)} {k : κ} {x : α} (h : k ∉ l.map (·.1)) : putA l k x = l ++ [(k, x)] := by
  unfold putA
  rw [if_neg]
  intro hh
  rw [List.any_eq_true] at hh
  obtain ⟨p, hp, e⟩ := hh
  exact h (by rw [← of_decide_eq_true e]; exact List.mem_map_of_mem (f := (·.1)) hp)
/-! ### locked dicts -/
theorem keep_lock {H H2 : Hp} {d : Addr} {u : HO} {od : Obj} (h : H d = some u) (m : Mut (some u)) (k : Keep [] (upd H d (.frz od u)) H2) : Keep [] H (upd H2 d u) := by
  have ne : ∀ b v, b ≠ d → H b = some v → upd H2 d u b = some v := fun b v n e => by
    rw [upd_ne n]
    exact k.obj _ _ List.not_mem_nil (by rw [upd_ne n]; exact e)
  refine ⟨fun b v _ e => ?_, fun b xs e => ?_, fun b ob v e => ?_, fun b v e => ?_⟩
  · by_cases n : b = d
    · rw [n] at e ⊢
      rw [upd_same, ← h, e]
    · exact ne b v n e
  · refine ne b _ (fun n => ?_) e
    rw [n, h] at e
    cases e
    exact m
  · refine ne b _ (fun n => ?_) e
    rw [n, h] at e
    cases e
    exact m
  · by_cases n : b = d
    · rw [n]; exact ⟨u, upd_same⟩
    · exact ⟨v, ne b v n e⟩
mutual
theorem Im.monoT {K : PySem.W.Frag} {H H' : Hp} (k : ∀ a xs, SqT K H a xs → SqT K H' a xs) : ∀ {v : V} {d : PyData}, Im K H v d → Im K H' v d
  | _, _, .non => .non
  | _, _, .bl b => .bl b
  | _, _, .int i => .int i
  | _, _, .str x => .str x
  | _, _, .tup h a => .tup (k _ _ h) (ImAll.monoT k a)
theorem ImAll.monoT {K : PySem.W.Frag} {H H' : Hp} (k : ∀ a xs, SqT K H a xs → SqT K H' a xs) : ∀ {vs : List V} {ds : List PyData}, ImAll K H vs ds → ImAll K H' vs ds
  | _, _, .nil => .nil
  | _, _, .cons h t => .cons (Im.monoT k h) (ImAll.monoT k t)
end
theorem unlockT {K : PySem.W.Frag} {H2 : Hp} {d : Addr} {u : HO} {od : Obj} (h : H2 d = some (.frz od u)) (m : Mut (some u)) : ∀ a xs, SqT K H2 a xs → SqT K (upd H2 d u) a xs := by
  intro a xs x
  by_cases e : a = d
  · subst e
    rcases x with x | x
    · rcases x with x | ⟨o, x⟩
      · rw [h] at x; cases x
      · rw [h] at x; cases x; exact m.elim
    · exact .inr x
  · rcases x with x | x
    · rcases x with x | ⟨o, x⟩
      · exact .inl (.inl (by rw [upd_ne e]; exact x))
      · exact .inl (.inr ⟨o, by rw [upd_ne e]; exact x⟩)
    · exact .inr x
theorem lock_keep {H : Hp} {d : Addr} {u : HO} {od : Obj} (h : H d = some u) (m : Mut (some u)) : Keep [d] H (upd H d (.frz od u)) := Keep.put h m
section
variable {K : PySem.W.Frag} {σ : L2.St} {H : Hp} {Q : VK} {D : Ends} {S : List Addr}
def DCompT (J : It) (g : TG) (tt : TT) (tk tv : TE) (vs : List Nat) (σ : L2.St) (H1 : Hp) (Q : VK) : Prop := ∀ D, H1 D = none → ∃ W : Nat → Nat → Hp → Prop, (∃ m, W 0 m (upd H1 D (.dT []))) ∧ ∀ i m H, W i m H →
  (J.stop i H ∧ Q (.ref D) H) ∨ (J.go i H ∧ ∃ Nx : Hp → Prop, (∀ H', Nx H' → ∃ m', m' < m ∧ W (i + 1) m' H') ∧ ∀ x H', J.yld i H x H' → g x (wipe σ vs) H' fun σ2 H2 => wipe σ2 vs = wipe σ vs ∧ tt σ2 H2 fun b H3 =>
    if b = true then tk σ2 H3 fun y H4 => tv σ2 H4 fun z H5 => ∃ kvs k c, y = .ref c ∧ H5 c = some (.tup (k.map kV)) ∧ H5 D = some (.dT kvs) ∧ kvs.length < sizeLine ∧ Nx (upd H5 D (.dT (putK kvs k z))) else Nx H3)
theorem q_dcT {wi : TI} {g : TG} {tt : TT} {tk tv : TE} {vs : List Nat} : tDcT wi g tt tk tv vs σ H Q = wi σ H fun J H1 => DCompT J g tt tk tv vs σ H1 Q := rfl
def LayT (D : Addr) (R : Hp → Prop) (y z : V) (H : Hp) : Prop := ∃ kvs k c, y = .ref c ∧ H c = some (.tup (k.map kV)) ∧ H D = some (.dT kvs) ∧ kvs.length < sizeLine ∧ R (upd H D (.dT (putK kvs k z)))
theorem layT {D c : Addr} {m : List (List Key × V)} {k : Key2} {z : V} {R : Hp → Prop} (hc : H c = some (.tup [.str k.1, .str k.2])) (h : H D = some (.dT m)) (l : m.length < sizeLine) (q : ∀ H', Keep [D] H H' → H' D = some (.dT (putK m (kT k) z)) → R H') : LayT D R (.ref c) z H :=
  ⟨m, kT k, c, rfl, hc, h, l, q _ (Keep.put h True.intro) upd_same⟩
def kKeys (x : V) (H : Hp) (R : It → Hp → Prop) : Prop := ∃ d o, x = .ref d ∧ ((∃ kvs, H d = some (.frz o (.dK kvs)) ∧ R (Itk d o kvs) H) ∨ ∃ kvs, H d = some (.frz o (.dT kvs)) ∧ R (Itkt d o kvs) H)
theorem q_keys {td : TE} {R : It → Hp → Prop} : iKeys td σ H R = td σ H fun x H1 => kKeys x H1 R := rfl
theorem v_keysT {d : Addr} {o : Obj} {kvs : List (List Key × V)} {R : It → Hp → Prop} (h : H d = some (.frz o (.dT kvs))) (q : R (Itkt d o kvs) H) : kKeys (.ref d) H R := ⟨d, o, rfl, .inr ⟨kvs, h, q⟩⟩
theorem v_keysK {d : Addr} {o : Obj} {kvs : List (Key × V)} {R : It → Hp → Prop} (h : H d = some (.frz o (.dK kvs))) (q : R (Itk d o kvs) H) : kKeys (.ref d) H R := ⟨d, o, rfl, .inl ⟨kvs, h, q⟩⟩
/-- a walk over a locked dict's pair keys -/
theorem dcompT_K {d : Addr} {o : Obj} {kvs : List (List Key × V)} {g : TG} {tt : TT} {tk tv : TE} {vs : List Nat} (hd : H d = some (.frz o (.dT kvs))) (Pv : Addr → Nat → Hp → Prop) (hK : ∀ D i H2, Pv D i H2 → Keep [] H H2)
    (h0 : ∀ D H2, H D = none → Keep [] H H2 → H2 D = some (.dT []) → Pv D 0 H2)
    (hs : ∀ D i H2 k v q, H D = none → kvs[i]? = some (k, v) → H2 q = some (.tup (k.map kV)) → Pv D i H2 → g (.ref q) (wipe σ vs) H2 fun σ2 H4 => wipe σ2 vs = wipe σ vs ∧ tt σ2 H4 fun b H5 =>
      if b = true then tk σ2 H5 fun y H6 => tv σ2 H6 fun z H7 => LayT D (Pv D (i + 1)) y z H7 else Pv D (i + 1) H5)
    (hd2 : ∀ D H2, H D = none → Pv D kvs.length H2 → Q (.ref D) H2) : DCompT (Itkt d o kvs) g tt tk tv vs σ H Q := by
  intro D hD
  refine ⟨fun i m H2 => m = kvs.length - i ∧ i ≤ kvs.length ∧ Pv D i H2, ⟨kvs.length, by simp, Nat.zero_le _, h0 D _ hD (Keep.new hD) upd_same⟩, ?_⟩
  rintro i m H2 ⟨rfl, hi, p⟩
  have hd' := (hK _ _ _ p).obj _ _ List.not_mem_nil hd
  by_cases hlt : i < kvs.length
  · refine .inr ⟨⟨hd', hlt⟩, Pv D (i + 1), fun H' p' => ⟨kvs.length - (i + 1), by omega, rfl, hlt, p'⟩, fun x H3 y => ?_⟩
    obtain ⟨rfl, k, v, q, e, rfl, hq⟩ := y
    exact hs D i H3 k v q hD e hq p
  · have e : i = kvs.length := by omega
    subst e
    exact .inl ⟨⟨hd', Nat.le_refl _⟩, hd2 D H2 hD p⟩
end
def sp_World_fail (K : PySem.W.Frag) (C : Addr) : Sp := fun vs H Q _ => ∃ A w m, vs = [.ref A.W, .str m] ∧ WldAt K H C A w ∧ w.st.length < 100000 ∧ w.ev.length < 100000 ∧ w.vs.length < 100000 ∧ (w.vs.map (·.1)).Nodup ∧
  ∀ B' H', WldAt K H' C { A with B := B' } (endFail m w) → H B' = none → Keep [A.S, A.W, A.E] H H' → Q .non H'
def t_World_fail (K : PySem.W.Frag)  : TS := (tSeq (tAsg (tC (.str "absent")) (gSub (tFld K (tVar 0) "statuses") (tVar 1) rSetD))
  (tSeq (sFld K (tVar 0) (tLockE (tDcT (iKeys (tFld K (tVar 0) "bindings")) (gName 2) (tTest (tOp (rNeX K) (tOp (rIx K) (tVar 2) (tC (.int 0))) (tVar 1))) (tVar 2) (tOp rIxD (tFld K (tVar 0) "bindings") (tVar 2)) [2])) "bindings")
  (tDrop (tBM K "list" rAppend (tFld K (tVar 0) "happened") (tCons (tTupX K (tCons (tC (.str "fail")) (tCons (tVar 1) tNil))) tNil)))))
def n_World_fail : List Str := ["self", "module", "key"]
theorem pure_World_fail {K : PySem.W.Frag} {C : Addr} (T : InsC K C nmW) (vs : List V) (H : Hp) (Q : VK) (E : XK) (h : sp_World_fail K C vs H Q E) : t_World_fail K { nx := fun _ H' => Q .non H', rt := Q } (start n_World_fail vs) H := by
  obtain ⟨A, w, m, rfl, x, l1, l2, l3, nd, q⟩ := h
  show t_World_fail K _ [some (.ref A.W), some (.str m), none] H
  unfold t_World_fail
  have sl := sl_eq
  obtain ⟨n1, n2, n3, n4, n5, n6, n7, n8, n9, n0⟩ := x.ns
  obtain ⟨mm, hS, rS⟩ := x.st
  have hW := x.obj
  row_readAll go
  refine v_setD hS (by have := rS.length; omega) fun H1 k1 g1 => ?_
  have x1 := x.toSt k1 g1 (rS.put kS_inj rfl)
  have hW1 := x1.obj
  obtain ⟨mB, hB1, rB1⟩ := x1.vs
  row_readAll go
  rw [q_lockE]
  refine ⟨A.B, _, hB1, True.intro, fun od => ?_⟩
  rw [q_dcT]
  generalize eH0 : upd H1 A.B (.frz od (.dT mB)) = H0
  have kL : Keep [A.B] H1 H0 := by rw [← eH0]; exact lock_keep hB1 True.intro
  have hB0 : H0 A.B = some (.frz od (.dT mB)) := by rw [← eH0]; exact upd_same
  have hW0 : H0 A.W = some (.ins C A.dx (wFs A w.left)) := kL.obj _ _ (by simp [n2]) hW1
  have rB0 := rB1.mono fun v b i => i.mono kL
  rw [q_keys]
  row_readAll go
  refine v_keysT hB0 ?_
  refine dcompT_K hB0 (fun D i H2 => Keep [] H0 H2 ∧ ∃ mD, H2 D = some (.dT mD) ∧ MapR kT (fun v x => Im K H2 v (Vl.d x)) mD ((w.vs.take i).filter (fun p => decide (p.1.1 ≠ m)))) (fun D i H2 p => p.1) (fun D H2 _ k2 g2 => ⟨k2, [], g2, by simpa using .nil⟩) ?_ ?_
  · rintro D i H2 k v c fD hk hc ⟨k2, mD, gD, rD⟩
    obtain ⟨k', vl, hv, ek, iv⟩ := rB0.get hk
    have ek : k = kT k' := ek
    subst ek
    replace hc : H2 c = some (.tup [.str k'.1, .str k'.2]) := hc
    have hi := get_lt hv
    row_readAll go
    refine v_ixT (SqT.of hc) (by rfl) ?_
    row_readAll go
    by_cases e : k'.1 = m
    · rw [decide_eq_true e]
      row_readAll go
      refine ⟨k2, mD, gD, ?_⟩
      rw [take_snoc hv, List.filter_append]
      simp only [List.filter_cons, e, ne_eq, not_true_eq_false, decide_false, Bool.false_eq_true, if_false, List.filter_nil, List.append_nil]
      exact rD
    · rw [decide_eq_false e]
      row_readAll go
      have nd' := nd
      rcases rB0.val kT_inj k' with ⟨_, z⟩ | ⟨v', x', e1, e2, i1⟩
      · exact absurd (List.mem_map_of_mem (f := (·.1)) (List.mem_of_getElem? hv)) (valA_none.mp z)
      · have ex : x' = vl := Option.some.inj (e2.symm.trans (valA_mem nd (List.mem_of_getElem? hv)))
        subst ex
        refine v_ixP (.inr ⟨od, k2.obj _ _ List.not_mem_nil hB0⟩) hc e1 ?_
        have lD := rD.length
        have lf : ((w.vs.take i).filter (fun p => decide (p.1.1 ≠ m))).length ≤ w.vs.length := Nat.le_trans (List.length_filter_le _ _) (by rw [List.length_take]; omega)
        refine layT hc gD (Nat.lt_of_le_of_lt (Nat.le_trans (Nat.le_of_eq lD) lf) (by omega)) fun H3 k3 g3 => ⟨k2.step1 k3 fD, _, g3, ?_⟩
        rw [take_snoc hv, List.filter_append]
        have ef : [(k', x')].filter (fun p => decide (p.1.1 ≠ m)) = [(k', x')] := by
          rw [List.filter_cons, if_pos (by simpa using e), List.filter_nil]
        rw [ef]
        have nn : k' ∉ ((w.vs.take i).filter (fun p => decide (p.1.1 ≠ m))).map (·.1) := fun hm => by
          obtain ⟨p, hp, ep⟩ := List.mem_map.mp hm
          exact nodup_take nd hv (by rw [← ep]; exact List.mem_map_of_mem (f := (·.1)) (List.mem_filter.mp hp).1)
        rw [← putA_new nn]
        exact ((rD.put kT_inj (k := k') (v := v') (x := x') (i1.mono k2)).mono fun v b i => i.mono k3)
  · rintro D H2 fD ⟨k2, mD, gD, rD⟩
    refine ⟨k2.obj _ _ List.not_mem_nil hB0, ?_⟩
    rw [← eH0] at k2
    have k2' := keep_lock hB1 True.intro k2
    generalize eH3 : upd H2 A.B (.dT mB) = H3 at k2'
    have fD1 : H1 D = none := kL.free fD
    have nDB : D ≠ A.B := fun z => by rw [z, hB1] at fD1; cases fD1
    have gD3 : H3 D = some (.dT mD) := by rw [← eH3, upd_ne nDB]; exact gD
    have iD : ∀ {v : V} {b : Vl}, Im K H2 v (Vl.d b) → Im K H3 v (Vl.d b) := fun {v b} i => by
      rw [← eH3]
      exact i.monoT (unlockT (k2.frz _ _ _ upd_same) True.intro)
    have x3 := x1.k0 k2'
    have hW3 := x3.obj
    refine v_put hW3 T (by decide +kernel) (by simp [wFs]) fun H4 k4 g4 => ?_
    replace g4 : H4 A.W = some (.ins C A.dx (wFs { A with B := D } w.left)) := g4
    have nDW : D ≠ A.W := fun z => by rw [z, hW1] at fD1; cases fD1
    have lk : (w.vs.take mB.length) = w.vs := by rw [rB1.length]; exact List.take_length
    rw [lk] at rD
    have x4 : WldAt K H4 C { A with B := D } { w with st := putA w.st m "absent", vs := w.vs.filter (fun p => decide (p.1.1 ≠ m)) } := by
      obtain ⟨m1', h1', r1'⟩ := x3.st
      obtain ⟨l3', h3', r3'⟩ := x3.sh
      obtain ⟨l4', h4', r4'⟩ := x3.ev
      exact ⟨g4, ⟨m1', k4.obj _ _ (by simp [n1.symm]) h1', r1'⟩, ⟨mD, k4.obj _ _ (by simp [nDW]) gD3, rD.mono fun v b i => (iD i).mono k4⟩, ⟨l3', k4.obj _ _ (by simp [n3.symm]) h3', r3'.mono k4⟩, ⟨l4', k4.obj _ _ (by simp [n4.symm]) h4', r4'.mono k4⟩, x.ne⟩
    row_readAll go
    obtain ⟨le, hE, rE⟩ := x4.ev
    refine v_tyL hE ?_
    row_readAll ga
    rename_i p H5 f5 k5 s5
    refine v_append (k5.obj _ _ List.not_mem_nil hE) (by have := rE.length; rw [List.length_map] at this; show le.length < _; have e : w.ev.length = le.length := this.symm; omega) fun H6 k6 g6 => ?_
    row_readAll go
    refine q D _ ((x4.k0 k5).toEv k6 g6 (((rE.mono k5).mono k6).add (im_ev (k6.sqT s5)))) (by row_readAll kf) ?_
    clear kL k2
    row_readAll kc
end M


namespace M
open PySem L2 SlX
/-! ### a program's modules -/
def sp_Program___contains__ (K : PySem.W.Frag) (C : Addr) : Sp := fun vs H Q _ => ∃ a n P fp, vs = [.ref a, .str n] ∧ PrgAt K H C a P fp ∧ Q (.bl (valA P n).isSome) H
def t_Program___contains__ (K : PySem.W.Frag)  : TS := (tRet (tOp rInD (tVar 1) (SlX.tSl K (tVar 0) "own_blocks")))
def n_Program___contains__ : List Str := ["self", "x"]
theorem pure_Program___contains__ {K : PySem.W.Frag} {C p1 p2 : Addr} (T : PrgC K C p1 p2) (vs : List V) (H : Hp) (Q : VK) (E : XK) (h : sp_Program___contains__ K C vs H Q E) : t_Program___contains__ K { nx := fun _ H' => Q .non H', rt := Q } (start n_Program___contains__ vs) H := by
  obtain ⟨a, n, P, fp, rfl, x, q⟩ := h
  show t_Program___contains__ K _ [some (.ref a), some (.str n)] H
  unfold t_Program___contains__
  obtain ⟨dx, nl, d, rfl, h1, h2, h3, m, h4, r4⟩ := x.ex
  row_readAll go
  refine ⟨a, C, dx, p2, _, _, _, rfl, h1, T.c, T.s2, rfl, ?_⟩
  refine v_inD h4 ?_
  have e : (valV m (.inr n)).isSome = (valA P n).isSome := by
    rcases r4.val kS_inj n with ⟨e1, e2⟩ | ⟨v, b, e1, e2, e3⟩
    · rw [show valV m (.inr n) = none from e1, e2]; rfl
    · rw [show valV m (.inr n) = some v from e1, e2]; rfl
  rw [e]
  exact q
def sp_Program___getitem__ (K : PySem.W.Frag) (C : Addr) : Sp := fun vs H Q _ => ∃ a n P fp b, vs = [.ref a, .str n] ∧ PrgAt K H C a P fp ∧ valA P n = some b ∧ ∀ v, Im K H v (.tuple (blkD b)) → Q v H
def t_Program___getitem__ (K : PySem.W.Frag)  : TS := (tSeq (tIfS (tB (tOp rNotInD (tVar 1) (SlX.tSl K (tVar 0) "own_blocks"))) tNever tNext)
  (tRet (tOp rIxD (SlX.tSl K (tVar 0) "own_blocks") (tVar 1))))
def n_Program___getitem__ : List Str := ["self", "at"]
theorem pure_Program___getitem__ {K : PySem.W.Frag} {C p1 p2 : Addr} (T : PrgC K C p1 p2) (vs : List V) (H : Hp) (Q : VK) (E : XK) (h : sp_Program___getitem__ K C vs H Q E) : t_Program___getitem__ K { nx := fun _ H' => Q .non H', rt := Q } (start n_Program___getitem__ vs) H := by
  obtain ⟨a, n, P, fp, b, rfl, x, e, q⟩ := h
  show t_Program___getitem__ K _ [some (.ref a), some (.str n)] H
  unfold t_Program___getitem__
  obtain ⟨dx, nl, d, rfl, h1, h2, h3, m, h4, r4⟩ := x.ex
  rcases r4.val kS_inj n with ⟨e1, e2⟩ | ⟨v, b', e1, e2, e3⟩
  · rw [e] at e2; cases e2
  · rw [e] at e2
    cases e2
    row_readAll go
    refine ⟨a, C, dx, p2, _, _, _, rfl, h1, T.c, T.s2, rfl, ?_⟩
    refine v_ninD h4 ?_
    rw [show valV m (.inr n) = some v from e1]
    simp only [Option.isSome_some, Bool.not_true]
    row_readAll go
    refine ⟨a, C, dx, p2, _, _, _, rfl, h1, T.c, T.s2, rfl, ?_⟩
    exact v_ixD h4 e1 (q v e3)
end M


namespace M
open PySem L2 L2H
/-! ### the interpreter in the heap -/
/-- the classes -/
structure CA where
  CI : Addr
  CW : Addr
  CP : Addr
  CF : Addr
  CS : Addr
abbrev nmI : List Str := ["own_program", "world", "under"]
structure CC (K : PySem.W.Frag) (c : CA) : Prop where
  i : InsC K c.CI nmI
  w : InsC K c.CW nmW
  ff : PySem.W.exmOne K (.ref c.CF) (.ref c.CF) = some true
  sf : PySem.W.exmOne K (.ref c.CS) (.ref c.CF) = some false
  ss : PySem.W.exmOne K (.ref c.CS) (.ref c.CS) = some true
def plcD (p : Plc) : PyData := .tuple [.str p.1, pathD p.2]
structure IA where
  I : Addr
  dI : Addr
  U : Addr
  prg : Addr
  pf : List Addr
  w : WA
def IA.fx (A : IA) : List Addr := [A.w.W, A.w.S, A.w.B, A.w.L, A.w.E, A.U]
def iFs (A : IA) : List (Str × V) := [("own_program", .ref A.prg), ("world", .ref A.w.W), ("under", .ref A.U)]
structure IntAt (K : PySem.W.Frag) (H : Hp) (c : CA) (A : IA) (P : Prg) (w : Wd) (un : List Plc) : Prop where
  obj : H A.I = some (.ins c.CI A.dI (iFs A))
  wld : WldAt K H c.CW A.w w
  und : ∃ l, H A.U = some (.lst l) ∧ ImAll K H l (un.map plcD)
  prg : PrgAt K H c.CP A.prg P A.pf
  ne : A.U ≠ A.w.L ∧ A.U ≠ A.w.E ∧ A.I ≠ A.w.W
  pfd : ∀ b ∈ A.pf, b ∉ A.fx
section
variable {K : PySem.W.Frag} {H H' : Hp} {c : CA} {A : IA} {P : Prg} {w : Wd} {un : List Plc} {S : List Addr}
theorem IntAt.ns (x : IntAt K H c A P w un) : A.I ∉ A.fx ∧ A.U ≠ A.w.W ∧ A.U ≠ A.w.S ∧ A.U ≠ A.w.B ∧ A.U ≠ A.w.L ∧ A.U ≠ A.w.E := by
  obtain ⟨m1, h1, r1⟩ := x.wld.st
  obtain ⟨m2, h2, r2⟩ := x.wld.vs
  obtain ⟨l3, h3, r3⟩ := x.wld.sh
  obtain ⟨l4, h4, r4⟩ := x.wld.ev
  obtain ⟨l5, h5, r5⟩ := x.und
  have h0 := x.wld.obj
  have hI := x.obj
  refine ⟨?_, neq_of h5 h0 (fun z => nomatch z), neq_of h5 h1 (fun z => nomatch z), neq_of h5 h2 (fun z => nomatch z), x.ne.1, x.ne.2.1⟩
  simp only [IA.fx, List.mem_cons, List.not_mem_nil, or_false, not_or]
  exact ⟨x.ne.2.2, neq_of hI h1 (fun z => nomatch z), neq_of hI h2 (fun z => nomatch z), neq_of hI h3 (fun z => nomatch z), neq_of hI h4 (fun z => nomatch z), neq_of hI h5 (fun z => nomatch z)⟩
theorem fp_fx {A : IA} {b : Addr} (h : b ∈ A.w.fp) : b ∈ A.fx := by
  simp only [WA.fp, IA.fx, List.mem_cons, List.not_mem_nil, or_false] at h ⊢
  rcases h with rfl | rfl | rfl | rfl | rfl <;> simp
theorem IntAt.nU (x : IntAt K H c A P w un) : A.U ∉ A.w.fp := fun h => by
  obtain ⟨nI, u1, u2, u3, u4, u5⟩ := x.ns
  simp only [WA.fp, List.mem_cons, List.not_mem_nil, or_false] at h
  rcases h with h | h | h | h | h
  · exact u1 h
  · exact u2 h
  · exact u3 h
  · exact u4 h
  · exact u5 h
theorem IntAt.keep (x : IntAt K H c A P w un) (k : Keep S H H') (n1 : A.I ∉ S) (n2 : ∀ b ∈ A.fx, b ∉ S) (n3 : ∀ b ∈ A.pf, b ∉ S) : IntAt K H' c A P w un := by
  obtain ⟨l5, h5, r5⟩ := x.und
  exact ⟨k.obj _ _ n1 x.obj, x.wld.keep k (fun b hb => n2 b (fp_fx hb)), ⟨l5, k.obj _ _ (n2 _ (by simp [IA.fx])) h5, r5.mono k⟩, x.prg.keep k n3, x.ne, x.pfd⟩
theorem IntAt.k0 (x : IntAt K H c A P w un) (k : Keep [] H H') : IntAt K H' c A P w un := x.keep k List.not_mem_nil (fun _ _ => List.not_mem_nil) fun _ _ => List.not_mem_nil
theorem IntAt.pfx (x : IntAt K H c A P w un) (h : ∀ b ∈ S, b ∈ A.fx) : ∀ b ∈ A.pf, b ∉ S := fun b hb z => x.pfd b hb (h b z)
/-- the world changes -/
theorem IntAt.toW (x : IntAt K H c A P w un) {w' : Wd} (k : Keep S H H') (hS : ∀ b ∈ S, b ∈ A.w.fp) (xw : WldAt K H' c.CW A.w w') : IntAt K H' c A P w' un := by
  obtain ⟨nI, u1, u2, u3, u4, u5⟩ := x.ns
  have hS' : ∀ b ∈ S, b ∈ A.fx := fun b hb => fp_fx (hS b hb)
  obtain ⟨l5, h5, r5⟩ := x.und
  have nU : A.U ∉ S := fun z => x.nU (hS _ z)
  exact ⟨k.obj _ _ (fun z => nI (hS' _ z)) x.obj, xw, ⟨l5, k.obj _ _ nU h5, r5.mono k⟩, x.prg.keep k (x.pfx hS'), x.ne, x.pfd⟩
/-- the list of what is under way changes -/
theorem IntAt.toU (x : IntAt K H c A P w un) {un' : List Plc} {l : List V} (k : Keep [A.U] H H') (h : H' A.U = some (.lst l)) (r : ImAll K H' l (un'.map plcD)) : IntAt K H' c A P w un' := by
  obtain ⟨nI, u1, u2, u3, u4, u5⟩ := x.ns
  refine ⟨k.obj _ _ (fun z => nI ?_) x.obj, x.wld.keep k (fun b hb z => ?_), ⟨l, h, r⟩, x.prg.keep k (x.pfx fun b hb => ?_), x.ne, x.pfd⟩
  · have z : A.I = A.U := by simpa using z
    rw [z]; simp [IA.fx]
  · have z : b = A.U := by simpa using z
    subst z
    exact x.nU hb
  · have hb : b = A.U := by simpa using hb
    rw [hb]; simp [IA.fx]
end
/-! ### errors -/
/-- an error of the program flies -/
def FE (K : PySem.W.Frag) (c : CA) (k : Str) (t : List Plc) (H : Hp) (E : XK) : Prop := ∀ d pv H', Keep [] H H' → H d = none → H' d = some (.xd [("places", pv), ("kind", .str k)]) → Im K H' pv (.tuple (t.map plcD)) → E (.ref c.CF) (some d) H'
def SE (K : PySem.W.Frag) (c : CA) (t : List Plc) (H : Hp) (E : XK) : Prop := ∀ d pv H', Keep [] H H' → H d = none → H' d = some (.xd [("places", pv)]) → Im K H' pv (.tuple (t.map plcD)) → E (.ref c.CS) (some d) H'
theorem FE.mono {K : PySem.W.Frag} {c : CA} {k : Str} {t : List Plc} {H H1 : Hp} {E : XK} (f : FE K c k t H E) (k1 : Keep [] H H1) : FE K c k t H1 E := fun d pv H' k' fd hd i => f d pv H' (k1.trans k') (k1.free fd) hd i
abbrev w0 (E : XK) : WX := fun cls d _ H => E cls d H
def sp_Interpreter_refuse (K : PySem.W.Frag) (c : CA) : Sp := fun vs H Q E => ∃ A P w un k, vs = [.ref A.I, .str k] ∧ IntAt K H c A P w un ∧ FE K c k un H E
def t_Interpreter_refuse (K : PySem.W.Frag) (c : CA) (W : WX) : TS := (fun _ σ H => tMkK c.CF ["kind", "places"] (tCons (tVar 1) (tCons (tThen (tFld K (tVar 0) "under") (kTup K)) tNil)) σ H fun cls d H1 => W cls d σ H1)
def n_Interpreter_refuse : List Str := ["self", "kind"]
theorem pure_Interpreter_refuse {K : PySem.W.Frag} {c : CA} (T : CC K c) (vs : List V) (H : Hp) (Q : VK) (E : XK) (h : sp_Interpreter_refuse K c vs H Q E) : t_Interpreter_refuse K c (w0 E) { nx := fun _ H' => Q .non H', rt := Q } (start n_Interpreter_refuse vs) H := by
  obtain ⟨A, P, w, un, k, rfl, x, f⟩ := h
  show t_Interpreter_refuse K c _ _ [some (.ref A.I), some (.str k)] H
  unfold t_Interpreter_refuse
  have TI := T.i
  have hI := x.obj
  obtain ⟨l, hU, rU⟩ := x.und
  show tCons (tVar 1) _ _ H _
  row_readAll go
  refine v_tupOf (SqL.of hU) fun p H1 f1 k1 s1 => ?_
  refine ⟨by decide, fun d fd => ?_⟩
  exact f d (.ref p) _ (k1.trans (Keep.new fd)) (k1.free fd) upd_same (.tup ((Keep.new fd).sqT s1) ((rU.mono k1).mono (Keep.new fd)))
end M


namespace M
open PySem L2 L2H
def sp_Interpreter_take_block (K : PySem.W.Frag) (c : CA) : Sp := fun vs H Q E => ∃ A P w un, vs = [.ref A.I] ∧ IntAt K H c A P w un ∧ (w.left = 0 → SE K c un H E) ∧
  (w.left ≠ 0 → ∀ H', IntAt K H' c A P { w with left := w.left - 1 } un → Keep [A.w.W] H H' → Q .non H')
def t_Interpreter_take_block (K : PySem.W.Frag) (c : CA) (W : WX) : TS := (tSeq (tIfS (tTest (tOp (rEqX K) (tFld K (tFld K (tVar 0) "world") "left") (tC (.int 0)))) (fun _ σ H => tMkK c.CS ["places"] (tCons (tThen (tFld K (tVar 0) "under") (kTup K)) tNil) σ H fun cls d H1 => W cls d σ H1) tNext)
  (sFldAug K (tFld K (tVar 0) "world") (tC (.int 1)) rSub "left"))
def n_Interpreter_take_block : List Str := ["self"]
theorem pure_Interpreter_take_block {K : PySem.W.Frag} {c : CA} (T : CC K c) (vs : List V) (H : Hp) (Q : VK) (E : XK) (h : sp_Interpreter_take_block K c vs H Q E) : t_Interpreter_take_block K c (w0 E) { nx := fun _ H' => Q .non H', rt := Q } (start n_Interpreter_take_block vs) H := by
  obtain ⟨A, P, w, un, rfl, x, q1, q2⟩ := h
  show t_Interpreter_take_block K c _ _ [some (.ref A.I)] H
  unfold t_Interpreter_take_block
  have TI := T.i
  have TW := T.w
  have hI := x.obj
  have hW := x.wld.obj
  obtain ⟨l, hU, rU⟩ := x.und
  row_readAll go
  by_cases e : w.left = 0
  · have e' : (w.left : Int) = 0 := by omega
    rw [decide_eq_true e']
    row_readAll go
    show tCons (tThen _ _) tNil _ H _
    row_readAll go
    refine v_tupOf (SqL.of hU) fun p H1 f1 k1 s1 => ?_
    refine ⟨by decide, fun d fd => ?_⟩
    exact q1 e d (.ref p) _ (k1.trans (Keep.new fd)) (k1.free fd) upd_same (.tup ((Keep.new fd).sqT s1) ((rU.mono k1).mono (Keep.new fd)))
  · have e' : ¬ (w.left : Int) = 0 := by omega
    rw [decide_eq_false e']
    row_readAll go
    refine v_augI (j := 1) hW TW (by decide +kernel) (by rfl) (by simp [wFs]) (fun R _ h => h) fun H1 k1 g1 => ?_
    have e1 : ((w.left : Nat) : Int) - 1 = ((w.left - 1 : Nat) : Int) := by omega
    rw [e1] at g1
    replace g1 : H1 A.w.W = some (.ins c.CW A.w.dx (wFs A.w ((w.left - 1 : Nat) : Int))) := g1
    exact q2 e H1 (x.toW k1 (fun b hb => by have hb : b = A.w.W := by simpa using hb
                                            simp [hb, WA.fp]) (x.wld.toLeft k1 g1)) k1
def RE (K : PySem.W.Frag) (c : CA) (t : List Plc) (H : Hp) (Q : VK) (E : XK) : Except Str Vl → Prop
  | .ok x => ∀ v H', Im K H' v x.d → Keep [] H H' → Q v H'
  | .error k => FE K c k t H E
theorem RE.mono {K : PySem.W.Frag} {c : CA} {t : List Plc} {H H1 : Hp} {Q : VK} {E : XK} {r : Except Str Vl} (f : RE K c t H Q E r) (k1 : Keep [] H H1) : RE K c t H1 Q E r := by
  cases r with
  | ok x => exact fun v H' i k => f v H' i (k1.trans k)
  | error k => exact FE.mono f k1
def orE {α : Type} (o : Option α) (k : Str) : Except Str α := match o with
  | some x => .ok x
  | none => .error k
def sp_Interpreter_read (K : PySem.W.Frag) (c : CA) : Sp := fun vs H Q E => ∃ A P w un m n k, vs = [.ref A.I, .str m, .str n, .str k] ∧ IntAt K H c A P w un ∧ RE K c un H Q E (orE (valA w.vs (m, n)) k)
def t_Interpreter_read (K : PySem.W.Frag) (c : CA) (W : WX) : TS := (tSeq (tIfS (tB (tOp rNotInD (tTupN (tCons (tVar 1) (tCons (tVar 2) tNil))) (tFld K (tFld K (tVar 0) "world") "bindings"))) (tDrop (L2H.tMethH c.CI "refuse" (sp_Interpreter_refuse K c) (WE W) (tVar 0) (tCons (tVar 3) tNil))) tNext)
  (tRet (tOp rIxD (tFld K (tFld K (tVar 0) "world") "bindings") (tTupN (tCons (tVar 1) (tCons (tVar 2) tNil))))))
def n_Interpreter_read : List Str := ["self", "module", "name", "kind"]
theorem pure_Interpreter_read {K : PySem.W.Frag} {c : CA} (T : CC K c) (vs : List V) (H : Hp) (Q : VK) (E : XK) (h : sp_Interpreter_read K c vs H Q E) : t_Interpreter_read K c (w0 E) { nx := fun _ H' => Q .non H', rt := Q } (start n_Interpreter_read vs) H := by
  obtain ⟨A, P, w, un, m, n, k, rfl, x, r⟩ := h
  show t_Interpreter_read K c _ _ [some (.ref A.I), some (.str m), some (.str n), some (.str k)] H
  unfold t_Interpreter_read
  have TI := T.i
  have TW := T.w
  have hI := x.obj
  have hW := x.wld.obj
  obtain ⟨mB, hB, rB⟩ := x.wld.vs
  row_readAll go
  refine v_mkN (by row_readAll ln) fun p H1 f1 k1 s1 => ?_
  row_readAll go
  refine v_ninP (k := (m, n)) (.inl (k1.obj _ _ List.not_mem_nil hB)) s1 ?_
  rcases rB.val kT_inj (m, n) with ⟨e1, e2⟩ | ⟨v, y, e1, e2, e3⟩
  · rw [e1]
    rw [e2] at r
    simp only [Option.isSome_none, Bool.not_false]
    row_readAll go
    refine v_meth (k1.obj _ _ List.not_mem_nil hI) (by rfl) ?_
    row_readAll go
    exact ⟨A, P, w, un, k, rfl, x.k0 k1, FE.mono r k1⟩
  · rw [e1]
    rw [e2] at r
    simp only [Option.isSome_some, Bool.not_true]
    row_readAll go
    refine v_mkN (by row_readAll ln) fun p2 H2 f2 k2 s2 => ?_
    refine v_ixP (k := (m, n)) (.inl ((k1.trans k2).obj _ _ List.not_mem_nil hB)) s2 e1 ?_
    exact r v H2 (e3.mono (k1.trans k2)) (k1.trans k2)
def sp_Interpreter_bind (K : PySem.W.Frag) (c : CA) : Sp := fun vs H Q _ => ∃ A P w un m n v y, vs = [.ref A.I, .str m, .str n, v] ∧ IntAt K H c A P w un ∧ Im K H v (Vl.d y) ∧ w.vs.length < 100000 ∧
  ∀ H', IntAt K H' c A P { w with vs := putA w.vs (m, n) y } un → Keep [A.w.B] H H' → Q .non H'
def t_Interpreter_bind (K : PySem.W.Frag) (c : CA) (W : WX) : TS := (tAsg (tVar 3) (gSub (tFld K (tFld K (tVar 0) "world") "bindings") (tTupN (tCons (tVar 1) (tCons (tVar 2) tNil))) rSetD))
def n_Interpreter_bind : List Str := ["self", "module", "name", "value"]
theorem pure_Interpreter_bind {K : PySem.W.Frag} {c : CA} (T : CC K c) (vs : List V) (H : Hp) (Q : VK) (E : XK) (h : sp_Interpreter_bind K c vs H Q E) : t_Interpreter_bind K c (w0 E) { nx := fun _ H' => Q .non H', rt := Q } (start n_Interpreter_bind vs) H := by
  obtain ⟨A, P, w, un, m, n, v, y, rfl, x, iv, l, q⟩ := h
  show t_Interpreter_bind K c _ _ [some (.ref A.I), some (.str m), some (.str n), some v] H
  unfold t_Interpreter_bind
  have TI := T.i
  have TW := T.w
  have hI := x.obj
  have hW := x.wld.obj
  have sl := sl_eq
  obtain ⟨mB, hB, rB⟩ := x.wld.vs
  row_readAll go
  refine v_mkN (by row_readAll ln) fun p H1 f1 k1 s1 => ?_
  refine v_setP (k := (m, n)) (k1.obj _ _ List.not_mem_nil hB) s1 (by have := rB.length; omega) fun H2 k2 g2 => ?_
  have x1 := x.k0 k1
  refine q H2 (x1.toW k2 (fun b hb => by have hb : b = A.w.B := by simpa using hb
                                         simp [hb, WA.fp]) (x1.wld.toVs k2 g2 ?_)) (k1.nil.trans k2)
  exact ((rB.mono fun v b i => i.mono k1).put kT_inj (iv.mono k1)).mono fun v b i => i.mono k2
def sp_Interpreter_choice (K : PySem.W.Frag) (c : CA) : Sp := fun vs H Q E => ∃ A P w un v y, vs = [.ref A.I, v] ∧ IntAt K H c A P w un ∧ Im K H v (Vl.d y) ∧
  (match y with
    | .int i => Q (.int (if i = 0 then 1 else 0)) H
    | _ => FE K c "kind" un H E)
def t_Interpreter_choice (K : PySem.W.Frag) (c : CA) (W : WX) : TS := (tSeq (tIfS (tNot (tB (tCall (sp_is_integer K) [] E0 (tCons (tVar 1) tNil)))) (tDrop (L2H.tMethH c.CI "refuse" (sp_Interpreter_refuse K c) (WE W) (tVar 0) (tCons (tC (.str "kind")) tNil))) tNext)
  (tRet (tCB rInt1 (tCons (tOp (rEqX K) (tVar 1) (tC (.int 0))) tNil))))
def n_Interpreter_choice : List Str := ["self", "value"]
theorem pure_Interpreter_choice {K : PySem.W.Frag} {c : CA} (T : CC K c) (vs : List V) (H : Hp) (Q : VK) (E : XK) (h : sp_Interpreter_choice K c vs H Q E) : t_Interpreter_choice K c (w0 E) { nx := fun _ H' => Q .non H', rt := Q } (start n_Interpreter_choice vs) H := by
  obtain ⟨A, P, w, un, v, y, rfl, x, iv, q⟩ := h
  show t_Interpreter_choice K c _ _ [some (.ref A.I), some v] H
  unfold t_Interpreter_choice
  have hI := x.obj
  cases y with
  | int i =>
    cases iv.of_int
    row_readAll go
    have e : (if decide (i = 0) then (1 : Int) else 0) = if i = 0 then 1 else 0 := by by_cases z : i = 0 <;> simp [z]
    rw [e]
    exact q
  | md m =>
    obtain ⟨a, xs, rfl, hs, ha⟩ := iv.of_tup
    row_readAll go
    refine v_meth hI (by rfl) ?_
    row_readAll go
    exact ⟨A, P, w, un, _, rfl, x, q⟩
  | fn m p =>
    obtain ⟨a, xs, rfl, hs, ha⟩ := iv.of_tup
    row_readAll go
    refine v_meth hI (by rfl) ?_
    row_readAll go
    exact ⟨A, P, w, un, _, rfl, x, q⟩
end M


namespace M
open PySem L2 L2H
section
variable {K : PySem.W.Frag} {H : Hp} {v : V}
theorem Im.nm {n : Str} (h : Im K H v (Ex.d (.nm n))) : ∃ a, v = .ref a ∧ SqT K H a [.str "name", .str n] := by
  obtain ⟨a, xs, rfl, hs, ha⟩ := (show Im K H v (.tuple [.str "name", .str n]) by simpa only [Ex.d] using h).of_tup
  obtain ⟨z0, r, rfl, h0, ha⟩ := ha.of_cons
  obtain ⟨z1, r, rfl, h1, ha⟩ := ha.of_cons
  cases ha.of_nil; cases h0.of_str; cases h1.of_str
  exact ⟨a, rfl, hs⟩
theorem Im.ofx {n b : Str} (h : Im K H v (Ex.d (.of n b))) : ∃ a, v = .ref a ∧ SqT K H a [.str "of", .str n, .str b] := by
  obtain ⟨a, xs, rfl, hs, ha⟩ := (show Im K H v (.tuple [.str "of", .str n, .str b]) by simpa only [Ex.d] using h).of_tup
  obtain ⟨z0, r, rfl, h0, ha⟩ := ha.of_cons
  obtain ⟨z1, r, rfl, h1, ha⟩ := ha.of_cons
  obtain ⟨z2, r, rfl, h2, ha⟩ := ha.of_cons
  cases ha.of_nil; cases h0.of_str; cases h1.of_str; cases h2.of_str
  exact ⟨a, rfl, hs⟩
theorem Im.bin {s : Bool} {l t : Ex} (h : Im K H v (Ex.d (.bin s l t))) : ∃ a x y, v = .ref a ∧ SqT K H a [.str (opW s), x, y] ∧ Im K H x (Ex.d l) ∧ Im K H y (Ex.d t) := by
  obtain ⟨a, xs, rfl, hs, ha⟩ := (show Im K H v (.tuple [.str (opW s), l.d, t.d]) by simpa only [Ex.d] using h).of_tup
  obtain ⟨z0, r, rfl, h0, ha⟩ := ha.of_cons
  obtain ⟨z1, r, rfl, h1, ha⟩ := ha.of_cons
  obtain ⟨z2, r, rfl, h2, ha⟩ := ha.of_cons
  cases ha.of_nil; cases h0.of_str
  exact ⟨a, _, _, rfl, hs, h1, h2⟩
theorem Im.md {m : Str} (h : Im K H v (Vl.d (.md m))) : ∃ a, v = .ref a ∧ SqT K H a [.str "module", .str m] := by
  obtain ⟨a, xs, rfl, hs, ha⟩ := (show Im K H v (.tuple [.str "module", .str m]) from h).of_tup
  obtain ⟨z0, r, rfl, h0, ha⟩ := ha.of_cons
  obtain ⟨z1, r, rfl, h1, ha⟩ := ha.of_cons
  cases ha.of_nil; cases h0.of_str; cases h1.of_str
  exact ⟨a, rfl, hs⟩
theorem Im.fnv {m : Str} {p : Pth} (h : Im K H v (Vl.d (.fn m p))) : ∃ a pv, v = .ref a ∧ SqT K H a [.str "function", .str m, pv] ∧ Im K H pv (pathD p) := by
  obtain ⟨a, xs, rfl, hs, ha⟩ := (show Im K H v (.tuple [.str "function", .str m, pathD p]) from h).of_tup
  obtain ⟨z0, r, rfl, h0, ha⟩ := ha.of_cons
  obtain ⟨z1, r, rfl, h1, ha⟩ := ha.of_cons
  obtain ⟨z2, r, rfl, h2, ha⟩ := ha.of_cons
  cases ha.of_nil; cases h0.of_str; cases h1.of_str
  exact ⟨a, _, rfl, hs, h2⟩
theorem Im.nint {x : Vl} (h : Im K H v (Vl.d x)) (n : ∀ i, x ≠ .int i) : ∃ a w ds, v = .ref a ∧ Vl.d x = .tuple ds ∧ Im K H (.ref a) (.tuple ds) ∧ ∃ xs, SqT K H a (.str w :: xs) ∧ (w = "module" ↔ ∃ m, x = .md m) ∧ (w = "function" ↔ ∃ m p, x = .fn m p) := by
  cases x with
  | int i => exact absurd rfl (n i)
  | md m =>
    obtain ⟨a, rfl, hs⟩ := Im.md h
    exact ⟨a, "module", _, rfl, rfl, h, _, hs, ⟨fun _ => ⟨m, rfl⟩, fun _ => rfl⟩, ⟨fun z => absurd z (by decide +kernel), fun ⟨_, _, z⟩ => nomatch z⟩⟩
  | fn m p =>
    obtain ⟨a, pv, rfl, hs, _⟩ := Im.fnv h
    exact ⟨a, "function", _, rfl, rfl, h, _, hs, ⟨fun z => absurd z (by decide +kernel), fun ⟨_, z⟩ => nomatch z⟩, ⟨fun _ => ⟨m, p, rfl⟩, fun _ => rfl⟩⟩
end
def sp_Interpreter_value (K : PySem.W.Frag) (c : CA) (n : Nat) : Sp := fun vs H Q E => ∃ A P w un m e v, vs = [.ref A.I, .str m, v] ∧ IntAt K H c A P w un ∧ Im K H v (Ex.d e) ∧ e.dep < n ∧ RE K c un H Q E (evl w.vs m e)
def t_Interpreter_value (K : PySem.W.Frag) (c : CA) (sp : Sp) (W : WX) : TS := (tSeq (tIfS (tB (tCall (sp_is_integer K) [] E0 (tCons (tVar 2) tNil))) (tRet (tVar 2)) tNext)
  (tSeq (tIfS (tTest (tOp (rEqX K) (tOp (rIx K) (tVar 2) (tC (.int 0))) (tC (.str "name")))) (tRet (L2H.tMethH c.CI "read" (sp_Interpreter_read K c) (WE W) (tVar 0) (tCons (tVar 1) (tCons (tOp (rIx K) (tVar 2) (tC (.int 1))) (tCons (tC (.str "unbound")) tNil))))) tNext)
  (tSeq (tIfS (tTest (tOp (rEqX K) (tOp (rIx K) (tVar 2) (tC (.int 0))) (tC (.str "of")))) (tSeq (tAsg (L2H.tMethH c.CI "read" (sp_Interpreter_read K c) (WE W) (tVar 0) (tCons (tVar 1) (tCons (tOp (rIx K) (tVar 2) (tC (.int 1))) (tCons (tC (.str "unbound")) tNil)))) (gName 5))
  (tSeq (tIfS (tOr (tB (tCall (sp_is_integer K) [] E0 (tCons (tVar 5) tNil))) (tTest (tOp (rNeX K) (tOp (rIx K) (tVar 5) (tC (.int 0))) (tC (.str "module"))))) (tDrop (L2H.tMethH c.CI "refuse" (sp_Interpreter_refuse K c) (WE W) (tVar 0) (tCons (tC (.str "kind")) tNil))) tNext)
  (tRet (L2H.tMethH c.CI "read" (sp_Interpreter_read K c) (WE W) (tVar 0) (tCons (tOp (rIx K) (tVar 5) (tC (.int 1))) (tCons (tOp (rIx K) (tVar 2) (tC (.int 2))) (tCons (tC (.str "missing")) tNil))))))) tNext)
  (tSeq (tAsg (L2H.tMethH c.CI "value" sp (WE W) (tVar 0) (tCons (tVar 1) (tCons (tOp (rIx K) (tVar 2) (tC (.int 1))) tNil))) (gName 3))
  (tSeq (tAsg (L2H.tMethH c.CI "value" sp (WE W) (tVar 0) (tCons (tVar 1) (tCons (tOp (rIx K) (tVar 2) (tC (.int 2))) tNil))) (gName 4))
  (tSeq (tIfS (tOr (tNot (tB (tCall (sp_is_integer K) [] E0 (tCons (tVar 3) tNil)))) (tNot (tB (tCall (sp_is_integer K) [] E0 (tCons (tVar 4) tNil))))) (tDrop (L2H.tMethH c.CI "refuse" (sp_Interpreter_refuse K c) (WE W) (tVar 0) (tCons (tC (.str "kind")) tNil))) tNext)
  (tRet (tIf (tTest (tOp (rEqX K) (tOp (rIx K) (tVar 2) (tC (.int 0))) (tC (.str "sum")))) (tOp (rAdd K) (tVar 3) (tVar 4)) (tCB rInt1 (tCons (tOp rLtI (tVar 3) (tVar 4)) tNil))))))))))
def n_Interpreter_value : List Str := ["self", "module", "expr", "left", "right", "holder"]
theorem pure_Interpreter_value {K : PySem.W.Frag} {c : CA} (T : CC K c) {lv : Nat} (vs : List V) (H : Hp) (Q : VK) (E : XK) (h : sp_Interpreter_value K c (lv + 1) vs H Q E) : t_Interpreter_value K c (sp_Interpreter_value K c lv) (w0 E) { nx := fun _ H' => Q .non H', rt := Q } (start n_Interpreter_value vs) H := by
  obtain ⟨A, P, w, un, m, e, v, rfl, x, hi, hd, r⟩ := h
  show t_Interpreter_value K c _ _ _ [some (.ref A.I), some (.str m), some v, none, none, none] H
  unfold t_Interpreter_value
  have hI := x.obj
  cases e with
  | int i =>
    cases hi.of_int
    row_readAll go
    exact r _ _ (.int i) (Keep.refl _ _)
  | nm n =>
    obtain ⟨a, rfl, hs⟩ := Im.nm hi
    simp only [Ex.d] at hi
    row_readAll go
    refine v_meth hI (by rfl) ?_
    row_readAll go
    refine ⟨A, P, w, un, m, n, _, rfl, x, ?_⟩
    simp only [evl] at r
    cases e : valA w.vs (m, n) with
    | none => rw [e] at r; exact r
    | some y => rw [e] at r; exact fun v H' i k => r v H' i k
  | of n b =>
    obtain ⟨a, rfl, hs⟩ := Im.ofx hi
    simp only [Ex.d] at hi
    row_readAll go
    refine v_meth hI (by rfl) ?_
    row_readAll go
    refine ⟨A, P, w, un, m, n, _, rfl, x, ?_⟩
    simp only [evl] at r
    cases e : valA w.vs (m, n) with
    | none => rw [e] at r; exact r
    | some y =>
      rw [e] at r
      refine fun v H1 i1 k1 => ?_
      have hI1 := k1.obj _ _ List.not_mem_nil hI
      cases y with
      | int i =>
        cases i1.of_int
        row_readAll go
        refine v_meth hI1 (by rfl) ?_
        row_readAll go
        exact ⟨A, P, w, un, _, rfl, x.k0 k1, FE.mono r k1⟩
      | md h =>
        obtain ⟨a2, rfl, hs2⟩ := Im.md i1
        simp only [Vl.d] at i1
        row_readAll go
        refine v_meth hI1 (by rfl) ?_
        row_readAll go
        refine ⟨A, P, w, un, h, b, _, rfl, x.k0 k1, ?_⟩
        simp only at r
        cases e2 : valA w.vs (h, b) with
        | none => rw [e2] at r; exact FE.mono r k1
        | some y => rw [e2] at r; exact fun v H' i k => r v H' i (k1.trans k)
      | fn h p =>
        obtain ⟨a2, pv, rfl, hs2, _⟩ := Im.fnv i1
        simp only [Vl.d] at i1
        row_readAll go
        refine v_meth hI1 (by rfl) ?_
        row_readAll go
        exact ⟨A, P, w, un, _, rfl, x.k0 k1, FE.mono r k1⟩
  | bin s l t =>
    obtain ⟨a, xl, xr, rfl, hs, il, ir⟩ := Im.bin hi
    simp only [Ex.dep] at hd
    simp only [Ex.d] at hi
    simp only [evl] at r
    cases s <;> row_readAll go
    all_goals
      refine v_meth hI (by rfl) ?_
      row_readAll go
      refine ⟨A, P, w, un, m, l, _, rfl, x, il, by omega, ?_⟩
      cases e1 : evl w.vs m l with
      | error k => rw [e1] at r; exact r
      | ok y1 =>
        rw [e1] at r
        refine fun v1 H1 j1 k1 => ?_
        row_readAll go
        refine v_meth (k1.obj _ _ List.not_mem_nil hI) (by rfl) ?_
        row_readAll go
        refine ⟨A, P, w, un, m, t, _, rfl, x.k0 k1, ir.mono k1, by omega, ?_⟩
        cases e2 : evl w.vs m t with
        | error k => rw [e2] at r; exact FE.mono r k1
        | ok y2 =>
          rw [e2] at r
          refine fun v2 H2 j2 k2 => ?_
          have k12 := k1.trans k2
          have hI2 := k12.obj _ _ List.not_mem_nil hI
          have j1' := j1.mono k2
          row_readAll go
          cases y1 with
          | int i =>
            cases j1'.of_int
            row_readAll go
            cases y2 with
            | int j =>
              cases j2.of_int
              row_readAll go
              simpa using r _ H2 (.int _) k12
            | md h2 =>
              obtain ⟨a2, rfl, hs2⟩ := Im.md j2
              simp only [Vl.d] at j2
              row_readAll go
              refine v_meth hI2 (by rfl) ?_
              row_readAll go
              exact ⟨A, P, w, un, _, rfl, x.k0 k12, FE.mono r k12⟩
            | fn h2 p =>
              obtain ⟨a2, pv, rfl, hs2, _⟩ := Im.fnv j2
              simp only [Vl.d] at j2
              row_readAll go
              refine v_meth hI2 (by rfl) ?_
              row_readAll go
              exact ⟨A, P, w, un, _, rfl, x.k0 k12, FE.mono r k12⟩
          | md h1 =>
            obtain ⟨a1, rfl, hs1⟩ := Im.md j1'
            simp only [Vl.d] at j1'
            row_readAll go
            refine v_meth hI2 (by rfl) ?_
            row_readAll go
            exact ⟨A, P, w, un, _, rfl, x.k0 k12, FE.mono r k12⟩
          | fn h1 p =>
            obtain ⟨a1, pv, rfl, hs1, _⟩ := Im.fnv j1'
            simp only [Vl.d] at j1'
            row_readAll go
            refine v_meth hI2 (by rfl) ?_
            row_readAll go
            exact ⟨A, P, w, un, _, rfl, x.k0 k12, FE.mono r k12⟩
end M


namespace M
open PySem L2 L2H
/-! ### the block of a function -/
theorem blkAt_len : ∀ {b : List Stm} {p : Pth} {r : List Stm}, blkAt b p = some r → ∃ j, p.length = 2 * j + 1
  | b, [], r, h => by cases h
  | b, [i], r, h => ⟨0, rfl⟩
  | b, i :: k :: p, r, h => by
    simp only [blkAt] at h
    cases e : b[i]? with
    | none => rw [e] at h; cases h
    | some s =>
      rw [e] at h
      simp only at h
      cases e2 : s.blocks[k]? with
      | none => rw [e2] at h; cases h
      | some b' =>
        rw [e2] at h
        obtain ⟨j, hj⟩ := blkAt_len (b := b') (p := p) h
        exact ⟨j + 1, by simp only [List.length_cons, hj]; omega⟩
/-- the block behind i steps of two -/
def inB : Nat → List Stm → Pth → Option (List Stm × Pth)
  | 0, b, p => some (b, p)
  | n + 1, b, i :: k :: p => match b[i]? with
    | some s => (match s.blocks[k]? with
      | some b' => inB n b' p
      | none => none)
    | none => none
  | _ + 1, _, _ => none
theorem inB_go : ∀ {n : Nat} {b : List Stm} {p : Pth} {r : List Stm}, blkAt b p = some r → 2 * n + 1 ≤ p.length → ∃ b', inB n b p = some (b', p.drop (2 * n)) ∧ blkAt b' (p.drop (2 * n)) = some r
  | 0, b, p, r, h, _ => ⟨b, rfl, h⟩
  | n + 1, b, [], r, h, l => by simp at l
  | n + 1, b, [i], r, h, l => by simp at l
  | n + 1, b, i :: k :: p, r, h, l => by
    simp only [blkAt] at h
    cases e : b[i]? with
    | none => rw [e] at h; cases h
    | some s =>
      rw [e] at h
      simp only at h
      cases e2 : s.blocks[k]? with
      | none => rw [e2] at h; cases h
      | some b1 =>
        rw [e2] at h
        obtain ⟨b', h1, h2⟩ := inB_go (n := n) (b := b1) (p := p) h (by simp only [List.length_cons] at l; omega)
        have ed : (i :: k :: p).drop (2 * (n + 1)) = p.drop (2 * n) := by
          rw [show 2 * (n + 1) = 2 * n + 1 + 1 by omega, List.drop_succ_cons, List.drop_succ_cons]
        rw [ed]
        refine ⟨b', ?_, h2⟩
        simp only [inB, e, e2]
        exact h1
theorem inB_succ : ∀ {n : Nat} {b b' : List Stm} {p : Pth} {i k : Nat} {q : Pth}, inB n b p = some (b', i :: k :: q) → inB (n + 1) b p = (match b'[i]? with
    | some s => (match s.blocks[k]? with
      | some b2 => some (b2, q)
      | none => none)
    | none => none)
  | 0, b, b', p, i, k, q, h => by cases h; rfl
  | n + 1, b, b', [], i, k, q, h => by cases h
  | n + 1, b, b', [x], i, k, q, h => by cases h
  | n + 1, b, b', x :: y :: p, i, k, q, h => by
    simp only [inB] at h
    show (match b[x]? with | some s => (match s.blocks[y]? with | some b' => inB (n + 1) b' p | none => none) | none => none) = _
    cases e : b[x]? with
    | none => rw [e] at h; cases h
    | some s =>
      rw [e] at h
      simp only at h ⊢
      cases e2 : s.blocks[y]? with
      | none => rw [e2] at h; cases h
      | some b1 =>
        rw [e2] at h
        exact inB_succ (n := n) h
/-- a statement's k-th block stands at 2 + k -/
theorem Im.blk {K : PySem.W.Frag} {H : Hp} {v : V} {s : Stm} {k : Nat} {b : List Stm} (h : Im K H v s.d) (e : s.blocks[k]? = some b) : ∃ a xs y, v = .ref a ∧ SqT K H a xs ∧ xs[2 + k]? = some y ∧ Im K H y (.tuple (blkD b)) := by
  obtain ⟨a, xs, rfl, hs, hv⟩ := h.stm
  cases s <;> simp only [Stm.vs] at hv <;> simp only [Stm.blocks] at e
  case fn => obtain ⟨v2, rfl, h2⟩ := hv
             match k, e with
             | 0, e => cases e; exact ⟨a, _, _, rfl, hs, rfl, h2⟩
  case ite => obtain ⟨v1, v2, v3, rfl, h1, h2, h3⟩ := hv
              match k, e with
              | 0, e => cases e; exact ⟨a, _, _, rfl, hs, rfl, h2⟩
              | 1, e => cases e; exact ⟨a, _, _, rfl, hs, rfl, h3⟩
  case tri => obtain ⟨v2, v3, rfl, h2, h3⟩ := hv
              match k, e with
              | 0, e => cases e; exact ⟨a, _, _, rfl, hs, rfl, h2⟩
              | 1, e => cases e; exact ⟨a, _, _, rfl, hs, rfl, h3⟩
  all_goals simp at e
/-- a block's i-th statement -/
theorem Im.row {K : PySem.W.Frag} {H : Hp} {v : V} {b : List Stm} {i : Nat} {s : Stm} (h : Im K H v (.tuple (blkD b))) (e : b[i]? = some s) : ∃ a xs y, v = .ref a ∧ SqT K H a xs ∧ xs[i]? = some y ∧ Im K H y s.d := by
  obtain ⟨a, xs, rfl, hs, ha⟩ := h.of_tup
  rw [blkD_map] at ha
  have hl := ha.length
  rw [List.length_map] at hl
  have hi := (List.getElem?_eq_some_iff.mp e).1
  obtain ⟨d, h1, h2⟩ := ha.get (i := i) (v := xs[i]'(by omega)) (by simp [show i < xs.length by omega])
  rw [List.getElem?_map, e] at h1
  cases h1
  exact ⟨a, xs, _, rfl, hs, by simp [show i < xs.length by omega], h2⟩
end M


namespace M
open PySem L2 L2H
theorem atI_n {α : Type} {xs : List α} {i : Int} {j : Nat} {v : α} (ei : i = (j : Nat)) (e : xs[j]? = some v) : atI xs i = some v := by
  have hj := (List.getElem?_eq_some_iff.mp e).1
  subst ei
  unfold atI ixN
  rw [if_pos (by omega), if_pos (by omega)]
  simpa using e
theorem atI_last {α : Type} {xs : List α} {v : α} (e : xs[xs.length - 1]? = some v) : atI xs (-1) = some v := by
  have hj := (List.getElem?_eq_some_iff.mp e).1
  unfold atI ixN
  rw [if_neg (by omega), if_pos (by omega)]
  have : (-1 + (xs.length : Int)).toNat = xs.length - 1 := by omega
  simp only [this, Option.bind_some]
  exact e
theorem rgC2 {k : Nat} (h : k ≤ 4) : RgC 0 ((2 * k + 1 : Nat) - 1 : Int) 2 k := by
  have : k = 0 ∨ k = 1 ∨ k = 2 ∨ k = 3 ∨ k = 4 := by omega
  rcases this with rfl | rfl | rfl | rfl | rfl <;> exact ⟨by decide, by decide, by decide, by decide⟩
theorem q_rng3 {σ : L2.St} {H : Hp} {ta : TA} {R : It → Hp → Prop} : iRng3 ta σ H R = ta σ H fun vs H1 => ∃ (i j c : Int) (n : Nat), vs = [.int i, .int j, .int c] ∧ RgC i j c n ∧ R (Itc i c n) H1 := rfl
def sp_Interpreter_block_of (K : PySem.W.Frag) (c : CA) : Sp := fun vs H Q _ => ∃ A P w un m pv p b0 b, vs = [.ref A.I, .str m, pv] ∧ IntAt K H c A P w un ∧ Im K H pv (pathD p) ∧ valA P m = some b0 ∧ blkAt b0 p = some b ∧ p.length ≤ 9 ∧
  ∀ v, Im K H v (.tuple (blkD b)) → Q v H
def t_Interpreter_block_of (K : PySem.W.Frag) (c : CA) (W : WX) : TS := (tSeq (tAsg (tOp (rIxO c.CP (sp_Program___getitem__ K c.CP) E0) (tFld K (tVar 0) "own_program") (tVar 1)) (gName 3))
  (tSeq (tFor (iRng3 (tCons (tC (.int 0)) (tCons (tOp rSubI (tCB (rLen K) (tCons (tVar 2) tNil)) (tC (.int 1))) (tCons (tC (.int 2)) tNil)))) (gName 4) (tAsg (tOp (rIx K) (tOp (rIx K) (tVar 3) (tOp (rIx K) (tVar 2) (tVar 4))) (tOp (rAdd K) (tC (.int 2)) (tOp (rIx K) (tVar 2) (tOp (rAdd K) (tVar 4) (tC (.int 1)))))) (gName 3)))
  (tRet (tOp (rIx K) (tOp (rIx K) (tVar 3) (tOp (rIx K) (tVar 2) (tUn rNegI (tC (.int 1))))) (tC (.int 2))))))
def n_Interpreter_block_of : List Str := ["self", "module", "path", "block", "at"]
theorem path_get {p : Pth} {i x : Nat} (e : p[i]? = some x) : (p.map fun n => V.int (n : Nat))[i]? = some (.int (x : Nat)) := by rw [List.getElem?_map, e]; rfl
theorem pure_Interpreter_block_of {K : PySem.W.Frag} {c : CA} (T : CC K c) (vs : List V) (H : Hp) (Q : VK) (E : XK) (h : sp_Interpreter_block_of K c vs H Q E) : t_Interpreter_block_of K c (w0 E) { nx := fun _ H' => Q .non H', rt := Q } (start n_Interpreter_block_of vs) H := by
  obtain ⟨A, P, w, un, m, pv, p, b0, b, rfl, x, ip, e0, eb, lp, q⟩ := h
  show t_Interpreter_block_of K c _ _ [some (.ref A.I), some (.str m), some pv, none, none] H
  unfold t_Interpreter_block_of
  have TI := T.i
  have hI := x.obj
  obtain ⟨a, xs, rfl, _, _⟩ := ip.of_tup
  have hp := Im.path ip
  obtain ⟨k, hk⟩ := blkAt_len eb
  obtain ⟨dx, nl, d, ef, hslt, h2, h3, h4⟩ := x.prg.ex
  row_readAll go
  refine ⟨A.prg, dx, _, rfl, hslt, A.prg, m, P, A.pf, b0, rfl, x.prg, e0, fun bv ibv => ?_⟩
  row_readAll go
  rw [q_rng3]
  row_readAll go
  refine v_lenT hp ?_
  row_readAll go
  refine ⟨0, _, 2, k, rfl, ?_, ?_⟩
  · rw [List.length_map, hk]
    exact rgC2 (by omega)
  refine loop_gen k (fun i σ' H' => H' = H ∧ ∃ v b' o4, σ' = [some (.ref A.I), some (.str m), some (.ref a), some v, o4] ∧ Im K H v (.tuple (blkD b')) ∧ inB i b0 p = some (b', p.drop (2 * i)) ∧ blkAt b' (p.drop (2 * i)) = some b) ⟨rfl, bv, b0, none, rfl, ibv, rfl, eb⟩ (fun σ' H' _ => Nat.le_refl _) (fun i σ' H' hi _ => hi) ?_ ?_
  · rintro i σ' H' y H2 hi ⟨rfl, v, b', o4, rfl, iv, e1, e2⟩ ⟨rfl, rfl⟩
    have l1 : 2 * i + 1 < p.length := by omega
    have g0 : p[2 * i]? = some p[2 * i] := List.getElem?_eq_getElem (by omega)
    have g1 : p[2 * i + 1]? = some p[2 * i + 1] := List.getElem?_eq_getElem l1
    have ed : p.drop (2 * i) = p[2 * i] :: p[2 * i + 1] :: p.drop (2 * (i + 1)) := by
      rw [List.drop_eq_getElem_cons (by omega), List.drop_eq_getElem_cons (by omega)]
      rfl
    rw [ed] at e1 e2
    simp only [blkAt] at e2
    cases e3 : b'[p[2 * i]]? with
    | none => rw [e3] at e2; cases e2
    | some s =>
      rw [e3] at e2
      simp only at e2
      cases e4 : s.blocks[p[2 * i + 1]]? with
      | none => rw [e4] at e2; cases e2
      | some b2 =>
        rw [e4] at e2
        simp only at e2
        obtain ⟨ra, rxs, ry, rfl, rs, rg, ri⟩ := iv.row e3
        obtain ⟨sa, sxs, sy, rfl, ss, sg, si⟩ := ri.blk e4
        row_readAll go
        refine v_ixT hp (atI_n (j := 2 * i) (by omega) (path_get g0)) ?_
        refine v_ixT rs (atI_n rfl rg) ?_
        row_readAll go
        refine v_ixT hp (atI_n (j := 2 * i + 1) (by omega) (path_get g1)) ?_
        row_readAll go
        refine v_ixT ss (atI_n (j := 2 + p[2 * i + 1]) (by omega) sg) ?_
        row_readAll go
        refine ⟨sy, b2, _, rfl, si, ?_, e2⟩
        rw [inB_succ e1, e3]
        simp only [e4]
  · rintro σ' H' ⟨rfl, v, b', o4, rfl, iv, e1, e2⟩
    have l1 : 2 * k < p.length := by omega
    have g0 : p[2 * k]? = some p[2 * k] := List.getElem?_eq_getElem l1
    have ed : p.drop (2 * k) = [p[2 * k]] := by
      rw [List.drop_eq_getElem_cons (by omega), List.drop_eq_nil_of_le (by omega)]
    rw [ed] at e2
    simp only [blkAt] at e2
    cases e3 : b'[p[2 * k]]? with
    | none => rw [e3] at e2; cases e2
    | some s =>
      rw [e3] at e2
      have e4 : s.blocks[0]? = some b := by
        cases s <;> simp only [reduceCtorEq, Option.some.injEq] at e2
        subst e2
        rfl
      obtain ⟨ra, rxs, ry, rfl, rs, rg, ri⟩ := iv.row e3
      obtain ⟨sa, sxs, sy, rfl, ss, sg, si⟩ := ri.blk e4
      row_readAll go
      refine v_ixT hp (atI_last (v := .int ((p[2 * k] : Nat) : Int)) ?_) ?_
      · rw [List.length_map]
        have : p.length - 1 = 2 * k := by omega
        rw [this]
        exact path_get g0
      refine v_ixT rs (atI_n rfl rg) ?_
      refine v_ixT ss (atI_n (j := 2) rfl sg) ?_
      exact q _ si
end M


namespace M
open PySem L2 L2H
/-! ### what loads bind -/
def starN (m t : Str) : List Str → Vars → Vars
  | [], vs => vs
  | n :: r, vs => starN m t r (match valA vs (t, n) with
    | some x => putA vs (m, n) x
    | none => vs)
theorem starL_N (m t : Str) : ∀ (ks : List Key2) (vs : Vars), starL m t ks vs = starN m t ((ks.filter fun k => decide (k.1 = t)).map (·.2)) vs
  | [], _ => rfl
  | k :: r, vs => by
    rw [starL, starL_N m t r]
    by_cases e : k.1 = t
    · rw [if_pos e, List.filter_cons, if_pos (by simpa using e), List.map_cons, starN]
      have ek : k = (t, k.2) := by rw [← e]
      rw [← ek]
      all_goals (cases valA vs k <;> rfl)
    · rw [if_neg e, List.filter_cons, if_neg (by simpa using e)]
theorem starN_append (m t : Str) : ∀ (a b : List Str) (vs : Vars), starN m t (a ++ b) vs = starN m t b (starN m t a vs)
  | [], _, _ => rfl
  | n :: r, b, vs => by rw [List.cons_append, starN, starN_append m t r b, starN]
def namesOf (vs : Vars) (t : Str) : List Str := ((vs.map (·.1)).filter fun k => decide (k.1 = t)).map (·.2)
theorem starB_N (vs : Vars) (m t : Str) : starB vs m t = starN m t (namesOf vs t) vs := starL_N m t _ vs
theorem mem_put {l : Vars} {k k' : Key2} {x : Vl} (h : k ∈ l.map (·.1)) : k ∈ (putA l k' x).map (·.1) := by
  rw [keys_put]
  split
  · exact h
  · exact List.mem_append_left _ h
theorem starN_mem (m t : Str) {k : Key2} : ∀ (ns : List Str) (vs : Vars), k ∈ vs.map (·.1) → k ∈ (starN m t ns vs).map (·.1)
  | [], _, h => h
  | n :: r, vs, h => by
    rw [starN]
    refine starN_mem m t r _ ?_
    cases e : valA vs (t, n) with
    | none => exact h
    | some x => exact mem_put h
theorem starN_len (m t : Str) : ∀ (ns : List Str) (vs : Vars), (starN m t ns vs).length ≤ vs.length + ns.length
  | [], _ => Nat.le_refl _
  | n :: r, vs => by
    rw [starN]
    cases valA vs (t, n) with
    | none =>
      have ih := starN_len m t r vs
      simp only [List.length_cons]
      exact Nat.le_trans ih (by omega)
    | some x =>
      have ih := starN_len m t r (putA vs (m, n) x)
      have l := len_put (l := vs) (k := (m, n)) (v := x)
      simp only [List.length_cons]
      exact Nat.le_trans ih (by omega)
def bndE (vs : Vars) (m : Str) : Stm → Except Str Vars
  | .imp t x => .ok (putA vs (m, x) (.md t))
  | .frm t y x => (match valA vs (t, y) with
    | none => .error "missing"
    | some v => .ok (putA vs (m, x) v))
  | .star t => .ok (starB vs m t)
  | _ => .ok vs
def isLd : Stm → Bool
  | .imp _ _ => true
  | .frm _ _ _ => true
  | .star _ => true
  | _ => false
def sp_Interpreter_bind_loaded (K : PySem.W.Frag) (c : CA) : Sp := fun vs H Q E => ∃ A P w un m s v, vs = [.ref A.I, .str m, v] ∧ IntAt K H c A P w un ∧ Im K H v (Stm.d s) ∧ isLd s = true ∧ w.vs.length < 1000 ∧ (w.vs.map (·.1)).Nodup ∧
  (match bndE w.vs m s with
    | .ok vs' => ∀ H', IntAt K H' c A P { w with vs := vs' } un → Keep [A.w.B] H H' → Q .non H'
    | .error k => FE K c k un H E)
def t_Interpreter_bind_loaded (K : PySem.W.Frag) (c : CA) (W : WX) : TS := (tIfS (tTest (tOp (rEqX K) (tOp (rIx K) (tVar 2) (tC (.int 0))) (tC (.str "\x69mport")))) (tDrop (L2H.tMethH c.CI "bind" (sp_Interpreter_bind K c) (WE W) (tVar 0) (tCons (tVar 1) (tCons (tOp (rIx K) (tVar 2) (tC (.int 2))) (tCons (tTupX K (tCons (tC (.str "module")) (tCons (tOp (rIx K) (tVar 2) (tC (.int 1))) tNil))) tNil))))) (tIfS (tTest (tOp (rEqX K) (tOp (rIx K) (tVar 2) (tC (.int 0))) (tC (.str "from")))) (tDrop (L2H.tMethH c.CI "bind" (sp_Interpreter_bind K c) (WE W) (tVar 0) (tCons (tVar 1) (tCons (tOp (rIx K) (tVar 2) (tC (.int 3))) (tCons (L2H.tMethH c.CI "read" (sp_Interpreter_read K c) (WE W) (tVar 0) (tCons (tOp (rIx K) (tVar 2) (tC (.int 1))) (tCons (tOp (rIx K) (tVar 2) (tC (.int 2))) (tCons (tC (.str "missing")) tNil)))) tNil))))) (tSeq (tLock (tAsg (tLc (iKeys (tFld K (tFld K (tVar 0) "world") "bindings")) (gName 5) (tTest (tOp (rEqX K) (tOp (rIx K) (tVar 5) (tC (.int 0))) (tOp (rIx K) (tVar 2) (tC (.int 1))))) (tOp (rIx K) (tVar 5) (tC (.int 1))) [5]) (gName 3)))
  (tFor (iSeq K (tVar 3)) (gName 4) (tDrop (L2H.tMethH c.CI "bind" (sp_Interpreter_bind K c) (WE W) (tVar 0) (tCons (tVar 1) (tCons (tVar 4) (tCons (tOp rIxD (tFld K (tFld K (tVar 0) "world") "bindings") (tTupN (tCons (tOp (rIx K) (tVar 2) (tC (.int 1))) (tCons (tVar 4) tNil)))) tNil)))))))))
def n_Interpreter_bind_loaded : List Str := ["self", "module", "statement", "names", "name", "key"]
theorem q_lock {t : TS} {D : Ends} {σ : L2.St} {H : Hp} : tLock t D σ H = ∃ d u, H d = some u ∧ Mut (some u) ∧ ∀ od, t ⟨fun σ' H' => H' d = some (.frz od u) ∧ D.nx σ' (upd H' d u), fun v H' => H' d = some (.frz od u) ∧ D.rt v (upd H' d u), fun σ' H' => H' d = some (.frz od u) ∧ D.bk σ' (upd H' d u), fun σ' H' => H' d = some (.frz od u) ∧ D.ct σ' (upd H' d u)⟩ σ (upd H d (.frz od u)) := rfl
theorem pure_Interpreter_bind_loaded {K : PySem.W.Frag} {c : CA} (T : CC K c) (vs : List V) (H : Hp) (Q : VK) (E : XK) (h : sp_Interpreter_bind_loaded K c vs H Q E) : t_Interpreter_bind_loaded K c (w0 E) { nx := fun _ H' => Q .non H', rt := Q } (start n_Interpreter_bind_loaded vs) H := by
  obtain ⟨A, P, w, un, m, s, v, rfl, x, iv, isl, lv, nd, r⟩ := h
  show t_Interpreter_bind_loaded K c _ _ [some (.ref A.I), some (.str m), some v, none, none, none] H
  unfold t_Interpreter_bind_loaded
  have TI := T.i
  have TW := T.w
  have hI := x.obj
  have hW := x.wld.obj
  have sl := sl_eq
  obtain ⟨a, xs, rfl, hs, hv⟩ := iv.stm
  cases s <;> simp only [Stm.vs] at hv <;> (try cases isl)
  case imp t y =>
    subst hv
    row_readAll go
    refine v_meth hI (by rfl) ?_
    row_readAll ga
    rename_i p H1 f1 k1 s1
    refine ⟨A, P, w, un, m, y, _, .md t, rfl, x.k0 k1, .tup s1 (.cons (.str _) (.cons (.str _) .nil)), by omega, fun H2 x2 k2 => ?_⟩
    row_readAll go
    exact r H2 x2 (k1.nil.trans k2)
  case frm t y z =>
    subst hv
    row_readAll go
    refine v_meth hI (by rfl) ?_
    row_readAll go
    refine v_meth hI (by rfl) ?_
    row_readAll go
    refine ⟨A, P, w, un, t, y, _, rfl, x, ?_⟩
    simp only [bndE] at r
    cases e : valA w.vs (t, y) with
    | none => rw [e] at r; exact r
    | some v =>
      rw [e] at r
      refine fun u H1 i1 k1 => ?_
      row_readAll go
      refine ⟨A, P, w, un, m, z, _, v, rfl, x.k0 k1, i1, by omega, fun H2 x2 k2 => ?_⟩
      row_readAll go
      exact r H2 x2 (k1.nil.trans k2)
  case star t =>
    subst hv
    simp only [bndE] at r
    rw [starB_N] at r
    row_readAll go
    rw [q_lock]
    obtain ⟨mB, hB, rB⟩ := x.wld.vs
    refine ⟨A.w.B, _, hB, True.intro, fun od => ?_⟩
    row_readAll go
    rw [q_keys]
    generalize eH0 : upd H A.w.B (.frz od (.dT mB)) = H0
    have kL : Keep [A.w.B] H H0 := by rw [← eH0]; exact lock_keep hB True.intro
    have hB0 : H0 A.w.B = some (.frz od (.dT mB)) := by rw [← eH0]; exact upd_same
    obtain ⟨nI, u1, u2, u3, u4, u5⟩ := x.ns
    obtain ⟨n1, n2, n3, n4, n5, n6, n7, n8, n9, n0⟩ := x.wld.ns
    have hI0 : H0 A.I = some (.ins c.CI A.dI (iFs A)) := kL.obj _ _ (fun z => nI (by simp only [List.mem_singleton] at z; rw [z]; simp [IA.fx])) hI
    have hW0 : H0 A.w.W = some (.ins c.CW A.w.dx (wFs A.w w.left)) := kL.obj _ _ (by simp [n2]) hW
    have rB0 := rB.mono fun v b i => i.mono kL
    row_readAll go
    refine v_keysT hB0 ?_
    refine comp_gen mB.length (fun D i H2 => Keep [] H0 H2 ∧ H2 D = some (.lst ((namesOf (w.vs.take i) t).map V.str))) (fun D H2 _ k g => ⟨k, g⟩) (fun D H2 p => ⟨p.1.obj _ _ List.not_mem_nil hB0, Nat.le_refl _⟩) (fun D i H2 hi p => ⟨p.1.obj _ _ List.not_mem_nil hB0, hi⟩) ?_ ?_
    · rintro D i H2 y H3 fD hi ⟨k2, g2⟩ ⟨rfl, k, u, q, hk, rfl, hq⟩
      obtain ⟨k', vl, hv, ek, iv'⟩ := rB0.get hk
      have ek : k = kT k' := ek
      subst ek
      replace hq : H3 q = some (.tup [.str k'.1, .str k'.2]) := hq
      row_readAll go
      refine v_ixT (SqT.of hq) (by rfl) ?_
      row_readAll go
      have et : namesOf (w.vs.take (i + 1)) t = namesOf (w.vs.take i) t ++ if k'.1 = t then [k'.2] else [] := by
        rw [take_snoc hv]
        simp only [namesOf, List.map_append, List.filter_append, List.map_cons, List.map_nil, List.filter_cons, List.filter_nil]
        by_cases e : k'.1 = t <;> simp [e]
      by_cases e : k'.1 = t
      · rw [decide_eq_true e]
        row_readAll go
        refine v_ixT (SqT.of hq) (by rfl) ?_
        have ln : (namesOf (w.vs.take i) t).length ≤ w.vs.length := by
          simp only [namesOf, List.length_map]
          refine Nat.le_trans (List.length_filter_le _ _) ?_
          rw [List.length_map, List.length_take]
          omega
        refine ⟨_, g2, by rw [List.length_map]; omega, k2.step1 (Keep.put g2 True.intro) fD, ?_⟩
        rw [upd_same, et, if_pos e, List.map_append]
        rfl
      · rw [decide_eq_false e]
        row_readAll go
        refine ⟨k2, ?_⟩
        rw [g2, et, if_neg e, List.append_nil]
    · rintro D H2 fD ⟨k2, g2⟩
      row_readAll go
      refine ⟨k2.obj _ _ List.not_mem_nil hB0, ?_⟩
      rw [← eH0] at k2
      have k2' := keep_lock hB True.intro k2
      have fDH : H D = none := kL.free fD
      have nDB : D ≠ A.w.B := fun z => by rw [z, hB] at fDH; cases fDH
      have lk : w.vs.take mB.length = w.vs := by rw [rB.length]; exact List.take_length
      rw [lk] at g2
      generalize eH3 : upd H2 A.w.B (.dT mB) = H3 at k2'
      have g3 : H3 D = some (.lst ((namesOf w.vs t).map V.str)) := by rw [← eH3, upd_ne nDB]; exact g2
      have x3 := x.k0 k2'
      clear eH3 k2 g2 eH0
      row_readAll go
      refine .inl ⟨⟨_, SqL.of g3⟩, ?_⟩
      have nsub : ∀ n ∈ namesOf w.vs t, (t, n) ∈ w.vs.map (·.1) := fun n hn => by
        obtain ⟨k, hk, ek⟩ := List.mem_map.mp hn
        obtain ⟨h1, h2⟩ := List.mem_filter.mp hk
        have : k = (t, n) := by rw [← ek, ← of_decide_eq_true h2]
        rw [← this]
        exact h1
      refine loop_W (S := [A.w.B]) (Wk.lst (SqL.of g3) (by simp [nDB])) (fun i σ' H' => Keep [A.w.B] H3 H' ∧ IntAt K H' c A P { w with vs := starN m t ((namesOf w.vs t).take i) w.vs } un ∧ ∃ o4 o5, σ' = [some (.ref A.I), some (.str m), some (.ref a), some (.ref D), o4, o5]) (fun i σ' H' p => p.1) ⟨Keep.refl _ _, x3, _, _, rfl⟩ ?_ ?_
      · rintro i y σ' H4 H5 hy ⟨k4, x4, o4, o5, rfl⟩ k5
        obtain ⟨n, hn, rfl⟩ := get_map hy
        have x5 := x4.k0 k5
        have hI5 := x5.obj
        have hW5 := x5.wld.obj
        obtain ⟨m5, hB5, rB5⟩ := x5.wld.vs
        have hs5 : SqT K H5 a [V.str "star", V.str t] := k5.sqT (k4.sqT (k2'.sqT hs))
        have mem5 : (t, n) ∈ (starN m t ((namesOf w.vs t).take i) w.vs).map (·.1) := starN_mem m t _ _ (nsub n (List.mem_of_getElem? hn))
        have len5 : (starN m t ((namesOf w.vs t).take i) w.vs).length < 100000 := by
          have l1 := starN_len m t ((namesOf w.vs t).take i) w.vs
          have l2 : (namesOf w.vs t).length ≤ w.vs.length := by
            simp only [namesOf, List.length_map]
            refine Nat.le_trans (List.length_filter_le _ _) ?_
            rw [List.length_map]
            exact Nat.le_refl _
          rw [List.length_take] at l1
          omega
        row_readAll go
        refine v_meth hI5 (by rfl) ?_
        row_readAll go
        refine v_mkN (by row_readAll ln) fun p H6 f6 k6 s6 => ?_
        rcases rB5.val kT_inj (t, n) with ⟨_, z⟩ | ⟨v', y', e1, e2, i1⟩
        · exact absurd mem5 (valA_none.mp z)
        · refine v_ixP (k := (t, n)) (.inl (k6.obj _ _ List.not_mem_nil hB5)) s6 e1 ?_
          refine ⟨A, P, _, un, m, n, v', y', rfl, x5.k0 k6, i1.mono k6, len5, fun H7 x7 k7 => ?_⟩
          row_readAll go
          refine ⟨((k4.step0 k5).step0 k6).trans k7, ?_, _, _, rfl⟩
          have et : starN m t ((namesOf w.vs t).take (i + 1)) w.vs = putA (starN m t ((namesOf w.vs t).take i) w.vs) (m, n) y' := by
            rw [take_snoc hn, starN_append, starN, starN]
            have e2' : valA (starN m t ((namesOf w.vs t).take i) w.vs) (t, n) = some y' := e2
            rw [e2']
          rw [et]
          exact x7
      · rintro σ' H4 ⟨k4, x4, o4, o5, rfl⟩
        row_readAll go
        have lt : (namesOf w.vs t).take ((namesOf w.vs t).map V.str).length = namesOf w.vs t := by rw [List.length_map]; exact List.take_length
        rw [lt] at x4
        exact r H4 x4 (k2'.nil.trans k4)
end M


namespace M
open PySem L2
/-! ### what the mirror keeps -/
def blkIn : List Stm → Pth → Option (List Stm)
  | b, [] => some b
  | _, [_] => none
  | b, i :: k :: p => match b[i]? with
    | some s => (match s.blocks[k]? with
      | some b' => blkIn b' p
      | none => none)
    | none => none
theorem blkIn_fn : ∀ {b0 b : List Stm} {base : Pth} {i : Nat} {x : Str} {body : List Stm}, blkIn b0 base = some b → b[i]? = some (.fn x body) → blkAt b0 (base ++ [i]) = some body
  | b0, b, [], i, x, body, h, e => by
    cases h
    simp only [List.nil_append, blkAt, e]
  | b0, b, [_], i, x, body, h, e => by cases h
  | b0, b, j :: k :: p, i, x, body, h, e => by
    simp only [blkIn] at h
    have ih := fun b1 (h1 : blkIn b1 p = some b) => blkIn_fn (b0 := b1) (b := b) (base := p) (i := i) h1 e
    have en : p ++ [i] ≠ [] := by simp
    show blkAt b0 (j :: k :: (p ++ [i])) = _
    simp only [blkAt]
    cases e1 : b0[j]? with
    | none => rw [e1] at h; cases h
    | some s =>
      rw [e1] at h
      simp only at h ⊢
      cases e2 : s.blocks[k]? with
      | none => rw [e2] at h; cases h
      | some b1 => rw [e2] at h; exact ih b1 h
theorem blkIn_sub : ∀ {b0 b : List Stm} {base : Pth} {i k : Nat} {s : Stm} {b' : List Stm}, blkIn b0 base = some b → b[i]? = some s → s.blocks[k]? = some b' → blkIn b0 (base ++ [i] ++ [k]) = some b'
  | b0, b, [], i, k, s, b', h, e, e' => by
    cases h
    show blkIn b0 [i, k] = _
    simp only [blkIn, e, e']
  | b0, b, [_], i, k, s, b', h, e, e' => by cases h
  | b0, b, j :: l :: p, i, k, s, b', h, e, e' => by
    simp only [blkIn] at h
    have ih := fun b1 (h1 : blkIn b1 p = some b) => blkIn_sub (b0 := b1) (b := b) (base := p) h1 e e'
    show blkIn b0 (j :: l :: (p ++ [i] ++ [k])) = _
    simp only [blkIn]
    cases e1 : b0[j]? with
    | none => rw [e1] at h; cases h
    | some s =>
      rw [e1] at h
      simp only at h ⊢
      cases e2 : s.blocks[l]? with
      | none => rw [e2] at h; cases h
      | some b1 => rw [e2] at h; exact ih b1 h
theorem blkAt_in : ∀ {b0 b : List Stm} {p : Pth}, blkAt b0 p = some b → blkIn b0 (p ++ [0]) = some b
  | b0, b, [], h => by cases h
  | b0, b, [i], h => by
    simp only [blkAt] at h
    show blkIn b0 [i, 0] = _
    simp only [blkIn]
    cases e : b0[i]? with
    | none => rw [e] at h; cases h
    | some s =>
      rw [e] at h
      cases s <;> simp only [reduceCtorEq, Option.some.injEq] at h
      subst h
      rfl
  | b0, b, i :: k :: p, h => by
    simp only [blkAt] at h
    show blkIn b0 (i :: k :: (p ++ [0])) = _
    simp only [blkIn]
    cases e : b0[i]? with
    | none => rw [e] at h; cases h
    | some s =>
      rw [e] at h
      simp only at h ⊢
      cases e2 : s.blocks[k]? with
      | none => rw [e2] at h; cases h
      | some b1 => rw [e2] at h; exact blkAt_in h
theorem blocks_cnt {s : Stm} {k : Nat} {b : List Stm} (e : s.blocks[k]? = some b) : cntL b < s.cnt := by
  have m := List.mem_of_getElem? e
  cases s <;> simp only [Stm.blocks, List.mem_cons, List.not_mem_nil, or_false] at m
  case fn => subst m; simp only [Stm.cnt]; omega
  case ite => rcases m with rfl | rfl <;> simp only [Stm.cnt] <;> omega
  case tri => rcases m with rfl | rfl <;> simp only [Stm.cnt] <;> omega
theorem cnt_get : ∀ {b : List Stm} {i : Nat} {s : Stm}, b[i]? = some s → s.cnt ≤ cntL b
  | [], i, s, e => by simp at e
  | t :: r, 0, s, e => by simp only [List.getElem?_cons_zero, Option.some.injEq] at e; subst e; simp only [cntL]; omega
  | t :: r, i + 1, s, e => by simp only [List.getElem?_cons_succ] at e; simp only [cntL]; have := cnt_get e; omega
/-- what a block has of the one it stands in -/
theorem blkIn_le : ∀ {b0 b : List Stm} {p : Pth}, blkIn b0 p = some b → p.length + 2 * depL b ≤ 2 * depL b0 ∧ cntL b ≤ cntL b0 ∧ (wfL b0 → wfL b) ∧ ∀ ms ns, overL ms ns b0 → overL ms ns b
  | b0, b, [], h => by cases h; exact ⟨by simp, Nat.le_refl _, fun h => h, fun _ _ h => h⟩
  | b0, b, [_], h => by cases h
  | b0, b, i :: k :: p, h => by
    simp only [blkIn] at h
    cases e1 : b0[i]? with
    | none => rw [e1] at h; cases h
    | some s =>
      rw [e1] at h
      simp only at h
      cases e2 : s.blocks[k]? with
      | none => rw [e2] at h; cases h
      | some b1 =>
        rw [e2] at h
        obtain ⟨h1, h2, h3, h4⟩ := blkIn_le h
        have d1 := blocks_dep e2
        have d2 := depL_get e1
        have c1 := blocks_cnt e2
        have c2 := cnt_get e1
        refine ⟨by simp only [List.length_cons]; omega, by omega, fun w => h3 ?_, fun ms ns o => h4 ms ns ?_⟩
        · have ws := (wfL_iff b0).mp w s (List.mem_of_getElem? e1)
          have m := List.mem_of_getElem? e2
          cases s <;> simp only [Stm.blocks, List.mem_cons, List.not_mem_nil, or_false] at m
          case fn => subst m; exact ws.2
          case ite => (rcases m with rfl | rfl; (exact ws.2.1); (exact ws.2.2))
          case tri => (rcases m with rfl | rfl; (exact ws.2.1); (exact ws.2.2))
        · have ws := (overL_iff ms ns b0).mp o s (List.mem_of_getElem? e1)
          have m := List.mem_of_getElem? e2
          cases s <;> simp only [Stm.blocks, List.mem_cons, List.not_mem_nil, or_false] at m
          case fn => subst m; exact ws.2
          case ite => (rcases m with rfl | rfl; (exact ws.2.1); (exact ws.2.2))
          case tri => (rcases m with rfl | rfl; (exact ws.1); (exact ws.2))
/-- what a program has -/
structure GoodF (ms ns : List Str) (F : Fb) : Prop where
  blk : ∀ m b, F m = some b → m ∈ ms ∧ wfL b ∧ (∃ ms', overL ms' ns b) ∧ depL b ≤ 2 ∧ cntL b ≤ 60
  okm : ∀ x ∈ ms, okN x
  okn : ∀ x ∈ ns, okN x
  few : ms.length * ns.length < 64
  fewm : ms.length < 64
def VlOk (F : Fb) : Vl → Prop
  | .int _ => True
  | .md m => ∃ b, F m = some b
  | .fn m p => ∃ b0 b, F m = some b0 ∧ blkAt b0 p = some b
structure GoodV (ms ns : List Str) (F : Fb) (vs : Vars) : Prop where
  all : ∀ p ∈ vs, p.1.1 ∈ ms ∧ p.1.2 ∈ ns ∧ VlOk F p.2
  nd : (vs.map (·.1)).Nodup
theorem mem_putA {κ α : Type} [DecidableEq κ] {l : List (κ × α)} {k : κ} {v : α} {p : κ × α} (h : p ∈ putA l k v) : p = (k, v) ∨ p ∈ l := by
  unfold putA at h
  split at h
  · obtain ⟨q, hq, e⟩ := List.mem_map.mp h
    by_cases z : q.1 = k
    · rw [if_pos z] at e
      left
      rw [← e, z]
    · rw [if_neg z] at e
      right
      rw [← e]
      exact hq
  · rcases List.mem_append.mp h with h | h
    · exact .inr h
    · left; simpa using h
section
variable {ms ns : List Str} {F : Fb} {vs : Vars}
theorem GoodV.put (g : GoodV ms ns F vs) {m n : Str} {x : Vl} (hm : m ∈ ms) (hn : n ∈ ns) (hx : VlOk F x) : GoodV ms ns F (putA vs (m, n) x) := by
  refine ⟨fun p hp => ?_, nodup_put g.nd⟩
  rcases mem_putA hp with rfl | hp
  · exact ⟨hm, hn, hx⟩
  · exact g.all p hp
theorem GoodV.filt (g : GoodV ms ns F vs) (f : Key2 × Vl → Bool) : GoodV ms ns F (vs.filter f) :=
  ⟨fun p hp => g.all p (List.mem_filter.mp hp).1, g.nd.sublist (List.Sublist.map _ List.filter_sublist)⟩
theorem GoodV.val (g : GoodV ms ns F vs) {k : Key2} {x : Vl} (h : valA vs k = some x) : VlOk F x := (g.all _ (valA_some h)).2.2
theorem goodStarL {m t : Str} (hm : m ∈ ms) : ∀ (ks : List Key2) (vs : Vars), (∀ k ∈ ks, k.2 ∈ ns) → GoodV ms ns F vs → GoodV ms ns F (starL m t ks vs)
  | [], vs, _, g => g
  | k :: r, vs, h, g => by
    rw [M.starL]
    refine goodStarL hm r _ (fun z hz => h z (List.mem_cons_of_mem _ hz)) ?_
    split
    · cases e : valA vs k with
      | none => exact g
      | some x => exact g.put hm (h k List.mem_cons_self) (g.val e)
    · exact g
theorem GoodV.star (g : GoodV ms ns F vs) {m t : Str} (hm : m ∈ ms) : GoodV ms ns F (starB vs m t) :=
  goodStarL hm _ _ (fun k hk => by obtain ⟨p, hp, rfl⟩ := List.mem_map.mp hk; exact (g.all p hp).2.1) g
theorem evl_ok (g : GoodV ms ns F vs) {m : Str} : ∀ {e : Ex} {x : Vl}, evl vs m e = .ok x → VlOk F x
  | .int i, x, h => by cases h; trivial
  | .nm n, x, h => by
    simp only [evl] at h
    cases e : valA vs (m, n) with
    | none => rw [e] at h; cases h
    | some y => rw [e] at h; cases h; exact g.val e
  | .of n a, x, h => by
    simp only [evl] at h
    cases e : valA vs (m, n) with
    | none => rw [e] at h; cases h
    | some y =>
      rw [e] at h
      cases y with
      | int i => cases h
      | fn a b => cases h
      | md hh =>
        simp only at h
        cases e2 : valA vs (hh, a) with
        | none => rw [e2] at h; cases h
        | some z => rw [e2] at h; cases h; exact g.val e2
  | .bin s l r, x, h => by
    simp only [evl] at h
    cases e : evl vs m l with
    | error k => rw [e] at h; cases h
    | ok y =>
      rw [e] at h
      simp only at h
      cases e2 : evl vs m r with
      | error k => rw [e2] at h; cases h
      | ok z =>
        rw [e2] at h
        cases y <;> cases z <;> simp only [reduceCtorEq] at h
        cases h
        trivial
end
end M


namespace M
open PySem L2
/-! ### what the mirror keeps, step by step -/
structure GoodW (ms ns : List Str) (F : Fb) (w : Wd) : Prop where
  v : GoodV ms ns F w.vs
  st : ∀ p ∈ w.st, p.1 ∈ ms
  snd : (w.st.map (·.1)).Nodup
  sh : ∀ x ∈ w.shown, VlOk F x
  ev : ∀ e ∈ w.ev, e.2 ∈ ms ∧ e.1 ∈ (["half", "again", "begin", "end", "fail"] : List Str)
def phi (w : Wd) : Nat := w.shown.length + w.ev.length + 200 * w.left
def Rs.w : Rs → Wd
  | .ok w => w
  | .err _ _ w => w
  | .stop _ w => w
def kindsR : List Str := ["absent", "kind", "missing", "raised", "unbound"]
def Rs.k : Rs → Prop
  | .err k _ _ => k ∈ kindsR
  | _ => True
structure Post (ms ns : List Str) (F : Fb) (w : Wd) (n : Nat) (r : Rs) : Prop where
  good : GoodW ms ns F r.w
  ph : phi r.w ≤ phi w + n
  le : r.w.left ≤ w.left
  kd : r.k
theorem evl_err {vs : Vars} {m : Str} : ∀ {e : Ex} {k : Str}, evl vs m e = .error k → k ∈ kindsR
  | .int i, k, h => by cases h
  | .nm n, k, h => by
    simp only [evl] at h
    cases e : valA vs (m, n) with
    | none => rw [e] at h; cases h; decide +kernel
    | some y => rw [e] at h; cases h
  | .of n a, k, h => by
    simp only [evl] at h
    cases e : valA vs (m, n) with
    | none => rw [e] at h; cases h; decide +kernel
    | some y =>
      rw [e] at h
      cases y with
      | int i => cases h; decide +kernel
      | fn a b => cases h; decide +kernel
      | md hh =>
        simp only at h
        cases e2 : valA vs (hh, a) with
        | none => rw [e2] at h; cases h; decide +kernel
        | some z => rw [e2] at h; cases h
  | .bin s l r, k, h => by
    simp only [evl] at h
    cases e : evl vs m l with
    | error k => rw [e] at h; cases h; exact evl_err e
    | ok y =>
      rw [e] at h
      simp only at h
      cases e2 : evl vs m r with
      | error k => rw [e2] at h; cases h; exact evl_err e2
      | ok z =>
        rw [e2] at h
        cases y <;> cases z <;> simp only [reduceCtorEq] at h <;> cases h <;> decide +kernel
section
variable {ms ns : List Str} {F : Fb}
theorem Post.mono {w : Wd} {a b : Nat} {r : Rs} (p : Post ms ns F w a r) (h : a ≤ b) : Post ms ns F w b r := ⟨p.good, by have := p.ph; omega, p.le, p.kd⟩
theorem Post.step {w w' : Wd} {a b : Nat} {r : Rs} (p : Post ms ns F w a (.ok w')) (q : Post ms ns F w' b r) : Post ms ns F w (a + b) r := ⟨q.good, by have := p.ph; have := q.ph; simp only [Rs.w] at *; omega, by have := p.le; have := q.le; simp only [Rs.w] at *; omega, q.kd⟩
/-- what is known of a block's run at k units of fuel -/
def HypG (ms ns : List Str) (F : Fb) (g : GoFn) : Prop := ∀ u m base b w b0 r, F m = some b0 → blkIn b0 base = some b → GoodW ms ns F w → g u m base b w = some r → Post ms ns F w (3 * cntL b) r
theorem GoodW.evs {w : Wd} (g : GoodW ms ns F w) {e : Str × Str} (h : e.2 ∈ ms ∧ e.1 ∈ (["half", "again", "begin", "end", "fail"] : List Str)) : ∀ x ∈ w.ev ++ [e], x.2 ∈ ms ∧ x.1 ∈ (["half", "again", "begin", "end", "fail"] : List Str) := fun x hx => by
  rcases List.mem_append.mp hx with hx | hx
  · exact g.ev x hx
  · rw [List.mem_singleton.mp hx]; exact h
theorem GoodW.sts {w : Wd} (g : GoodW ms ns F w) {m s : Str} (h : m ∈ ms) : (∀ p ∈ putA w.st m s, p.1 ∈ ms) ∧ ((putA w.st m s).map (·.1)).Nodup :=
  ⟨fun p hp => by
    rcases mem_putA hp with rfl | hp
    · exact h
    · exact g.st p hp, nodup_put g.snd⟩
theorem ldM_post (gf : GoodF ms ns F) {g : GoFn} (hg : HypG ms ns F g) {T : List Plc} {m : Str} {w : Wd} {r : Rs} (gw : GoodW ms ns F w) (h : ldM F g T m w = some r) : Post ms ns F w 3 r ∧ (∀ w', r = .ok w' → ∃ b, F m = some b) := by
  unfold ldM at h
  cases e : F m with
  | none =>
    rw [e] at h
    cases h
    exact ⟨⟨gw, by simp [Rs.w], Nat.le_refl _, by show _ ∈ kindsR; decide +kernel⟩, fun w' z => nomatch z⟩
  | some b =>
    rw [e] at h
    simp only at h
    obtain ⟨hm, hwf, hov, hdp, hcn⟩ := gf.blk m b e
    refine ⟨?_, fun w' z => ⟨b, rfl⟩⟩
    split at h
    · cases h
      refine ⟨⟨gw.v, gw.st, gw.snd, gw.sh, gw.evs ⟨hm, ?_⟩⟩, by simp [Rs.w, phi]; omega, Nat.le_refl _, trivial⟩
      split <;> simp
    · split at h
      · cases h
        exact ⟨gw, by simp [Rs.w], Nat.le_refl _, trivial⟩
      · rename_i hl
        cases e2 : g T m [] b (entered m w) with
        | none => rw [e2] at h; cases h
        | some r2 =>
          rw [e2] at h
          obtain rfl : ldEnd m r2 = r := Option.some.inj h
          have ge : GoodW ms ns F (entered m w) := ⟨gw.v, (gw.sts hm).1, (gw.sts hm).2, gw.sh, gw.evs ⟨hm, by simp⟩⟩
          have p := hg T m [] b (entered m w) b r2 e rfl ge e2
          have p1 := p.ph
          have p2 := p.le
          have p3 := p.good
          simp only [phi, entered, List.length_append, List.length_cons, List.length_nil] at p1 p2
          cases r2 with
          | ok w2 =>
            simp only [Rs.w] at p1 p2 p3
            exact ⟨⟨p3.v, (p3.sts hm).1, (p3.sts hm).2, p3.sh, p3.evs ⟨hm, by simp⟩⟩, by simp only [ldEnd, Rs.w, endOk, phi, List.length_append, List.length_cons, List.length_nil]; omega, by simp only [ldEnd, Rs.w, endOk]; omega, trivial⟩
          | err k t w2 =>
            simp only [Rs.w] at p1 p2 p3
            exact ⟨⟨p3.v.filt _, (p3.sts hm).1, (p3.sts hm).2, p3.sh, p3.evs ⟨hm, by simp⟩⟩, by simp only [ldEnd, Rs.w, endFail, phi, List.length_append, List.length_cons, List.length_nil]; omega, by simp only [ldEnd, Rs.w, endFail]; omega, p.kd⟩
          | stop t w2 =>
            simp only [Rs.w] at p1 p2 p3
            exact ⟨p3, by simp only [ldEnd, Rs.w, phi]; omega, by simp only [ldEnd, Rs.w]; omega, trivial⟩
theorem lower_post {g : Nat → GoFn} {n k : Nat} (h : ∀ j, j < n → HypG ms ns F (g j)) (hk : 0 < k) : HypG ms ns F (lower g n k) := by
  intro u m base b w b0 r e1 e2 gw e3
  unfold lower at e3
  split at e3
  · exact h (n - k) (by omega) u m base b w b0 r e1 e2 gw e3
  · cases e3
theorem step_post (gf : GoodF ms ns F) {g : Nat → GoFn} {n : Nat} (hg : ∀ j, j < n → HypG ms ns F (g j)) {u : List Plc} {m : Str} {base : Pth} {i : Nat} {b0 b : List Stm} {s : Stm} {w : Wd} {r : Rs} (e0 : F m = some b0) (eb : blkIn b0 base = some b) (es : b[i]? = some s) (gw : GoodW ms ns F w)
    (h : stepM F g n u m (base ++ [i]) s w = some r) : Post ms ns F w (3 * s.cnt) r := by
  obtain ⟨hm, hwf, ⟨ms', hov⟩, hdp, hcn⟩ := gf.blk m b0 e0
  obtain ⟨l1, l2, l3, l4⟩ := blkIn_le eb
  have ov := (overL_iff ms' ns b).mp (l4 _ _ hov) s (List.mem_of_getElem? es)
  have g3 := lower_post (k := 3) hg (by decide)
  have g4 := lower_post (k := 3) hg (by decide)
  have g5 := lower_post (k := 3) hg (by decide)
  have same : ∀ {k : Str} {t : List Plc} {c : Nat}, k ∈ kindsR → Post ms ns F w c (.err k t w) := fun hk => ⟨gw, by simp [Rs.w], Nat.le_refl _, hk⟩
  have stp : ∀ {t : List Plc} {c : Nat}, Post ms ns F w c (.stop t w) := ⟨gw, by simp [Rs.w], Nat.le_refl _, trivial⟩
  cases s with
  | set x e =>
    simp only [stepM] at h
    cases e1 : evl w.vs m e with
    | error k => rw [e1] at h; cases h; exact same (evl_err e1)
    | ok v =>
      rw [e1] at h; cases h
      exact ⟨⟨gw.v.put hm ov.1 (evl_ok gw.v e1), gw.st, gw.snd, gw.sh, gw.ev⟩, by simp [Rs.w, phi], Nat.le_refl _, trivial⟩
  | del x =>
    simp only [stepM] at h
    cases e1 : valA w.vs (m, x) with
    | none => rw [e1] at h; cases h; exact same (by decide +kernel)
    | some v =>
      rw [e1] at h; cases h
      exact ⟨⟨gw.v.filt _, gw.st, gw.snd, gw.sh, gw.ev⟩, by simp [Rs.w, phi], Nat.le_refl _, trivial⟩
  | shw e =>
    simp only [stepM] at h
    cases e1 : evl w.vs m e with
    | error k => rw [e1] at h; cases h; exact same (evl_err e1)
    | ok v =>
      rw [e1] at h; cases h
      refine ⟨⟨gw.v, gw.st, gw.snd, fun x hx => ?_, gw.ev⟩, by simp [Rs.w, phi, Stm.cnt]; omega, Nat.le_refl _, trivial⟩
      rcases List.mem_append.mp hx with hx | hx
      · exact gw.sh x hx
      · rw [List.mem_singleton.mp hx]; exact evl_ok gw.v e1
  | call e =>
    simp only [stepM] at h
    cases e1 : evl w.vs m e with
    | error k => rw [e1] at h; cases h; exact same (evl_err e1)
    | ok v =>
      rw [e1] at h
      cases v with
      | int i => cases h; exact same (by decide +kernel)
      | md i => cases h; exact same (by decide +kernel)
      | fn fm fp =>
        simp only at h
        split at h
        · cases h; exact stp
        · obtain ⟨c0, c1, f0, f1⟩ := evl_ok gw.v e1
          rw [f0] at h
          simp only at h
          rw [f1] at h
          simp only at h
          have gw' : GoodW ms ns F { w with left := w.left - 1 } := ⟨gw.v, gw.st, gw.snd, gw.sh, gw.ev⟩
          have p := g4 _ _ _ _ _ c0 r f0 (blkAt_in f1) gw' h
          have cc := (blkIn_le (blkAt_in f1)).2.1
          have c60 := (gf.blk fm c0 f0).2.2.2.2
          have p1 := p.ph
          have p2 := p.le
          simp only [phi] at p1 p2
          exact ⟨p.good, by simp only [phi]; omega, by omega, p.kd⟩
  | raise => simp only [stepM] at h; cases h; exact same (by decide +kernel)
  | imp t x =>
    simp only [stepM] at h
    cases e1 : ldM F (lower g n 3) (u ++ [(m, base ++ [i])]) t w with
    | none => rw [e1] at h; cases h
    | some r1 =>
      rw [e1] at h
      obtain ⟨p, pf⟩ := ldM_post gf g5 gw e1
      cases r1 with
      | err k tt w1 => cases h; exact p.mono (by simp [Stm.cnt])
      | stop tt w1 => cases h; exact p.mono (by simp [Stm.cnt])
      | ok w1 =>
        obtain ⟨bt, et⟩ := pf w1 rfl
        cases h
        have g1 := p.good
        exact ⟨⟨g1.v.put hm ov.2 ⟨bt, et⟩, g1.st, g1.snd, g1.sh, g1.ev⟩, p.ph, p.le, trivial⟩
  | frm t y x =>
    simp only [stepM] at h
    cases e1 : ldM F (lower g n 3) (u ++ [(m, base ++ [i])]) t w with
    | none => rw [e1] at h; cases h
    | some r1 =>
      rw [e1] at h
      obtain ⟨p, pf⟩ := ldM_post gf g5 gw e1
      cases r1 with
      | err k tt w1 => cases h; exact p.mono (by simp [Stm.cnt])
      | stop tt w1 => cases h; exact p.mono (by simp [Stm.cnt])
      | ok w1 =>
        have g1 := p.good
        simp only [thenOk] at h
        cases e2 : valA w1.vs (t, y) with
        | none =>
          rw [e2] at h; cases h
          exact ⟨g1, p.ph, p.le, by show _ ∈ kindsR; decide +kernel⟩
        | some v =>
          rw [e2] at h; cases h
          exact ⟨⟨g1.v.put hm ov.2.2 (g1.v.val e2), g1.st, g1.snd, g1.sh, g1.ev⟩, p.ph, p.le, trivial⟩
  | star t =>
    simp only [stepM] at h
    cases e1 : ldM F (lower g n 3) (u ++ [(m, base ++ [i])]) t w with
    | none => rw [e1] at h; cases h
    | some r1 =>
      rw [e1] at h
      obtain ⟨p, pf⟩ := ldM_post gf g5 gw e1
      cases r1 with
      | err k tt w1 => cases h; exact p.mono (by simp [Stm.cnt])
      | stop tt w1 => cases h; exact p.mono (by simp [Stm.cnt])
      | ok w1 =>
        cases h
        have g1 := p.good
        exact ⟨⟨g1.v.star hm, g1.st, g1.snd, g1.sh, g1.ev⟩, p.ph, p.le, trivial⟩
  | fn x body =>
    simp only [stepM] at h
    cases h
    exact ⟨⟨gw.v.put hm ov.1 ⟨b0, body, e0, blkIn_fn eb es⟩, gw.st, gw.snd, gw.sh, gw.ev⟩, by simp [Rs.w, phi], Nat.le_refl _, trivial⟩
  | ite e c d =>
    simp only [stepM] at h
    cases e1 : evl w.vs m e with
    | error k => rw [e1] at h; cases h; exact same (evl_err e1)
    | ok v =>
      rw [e1] at h
      cases v with
      | md i => cases h; exact same (by decide +kernel)
      | fn i j => cases h; exact same (by decide +kernel)
      | int j =>
        simp only at h
        split at h
        · exact (g3 _ _ _ _ _ _ _ e0 (blkIn_sub eb es (k := 1) rfl) gw h).mono (by simp only [Stm.cnt]; omega)
        · exact (g3 _ _ _ _ _ _ _ e0 (blkIn_sub eb es (k := 0) rfl) gw h).mono (by simp only [Stm.cnt]; omega)
  | tri k c d =>
    simp only [stepM] at h
    cases e1 : lower g n 3 u m (base ++ [i] ++ [0]) c w with
    | none => rw [e1] at h; cases h
    | some r1 =>
      rw [e1] at h
      have p := g3 _ _ _ _ _ _ _ e0 (blkIn_sub eb es (k := 0) rfl) gw e1
      cases r1 with
      | ok w1 => cases h; exact p.mono (by simp only [Stm.cnt]; omega)
      | stop tt w1 => cases h; exact p.mono (by simp only [Stm.cnt]; omega)
      | err kk tt w1 =>
        simp only at h
        split at h
        · have q := g3 _ _ _ _ w1 _ _ e0 (blkIn_sub eb es (k := 1) rfl) p.good h
          have p1 := p.ph
          have p2 := p.le
          have q1 := q.ph
          have q2 := q.le
          simp only [Rs.w] at p1 p2
          exact ⟨q.good, by simp only [Stm.cnt]; omega, by omega, q.kd⟩
        · cases h; exact p.mono (by simp only [Stm.cnt]; omega)
theorem goM_post {st : Pth → Stm → Wd → Option Rs} {base : Pth} {b : List Stm} (hs : ∀ i s w r, b[i]? = some s → GoodW ms ns F w → st (base ++ [i]) s w = some r → Post ms ns F w (3 * s.cnt) r) :
    ∀ (l : List Stm) (i : Nat) (w : Wd) (r : Rs), b.drop i = l → GoodW ms ns F w → goM st base i l w = some r → Post ms ns F w (3 * cntL l) r
  | [], i, w, r, e, gw, h => by cases h; exact ⟨gw, by simp [Rs.w], Nat.le_refl _, trivial⟩
  | s :: l, i, w, r, e, gw, h => by
    have hi : b[i]? = some s := by
      have z := congrArg (fun x => x[0]?) e
      simpa [List.getElem?_drop] using z
    have e' : b.drop (i + 1) = l := by
      have z := congrArg List.tail e
      simpa [List.tail_drop] using z
    simp only [goM] at h
    cases e1 : st (base ++ [i]) s w with
    | none => rw [e1] at h; cases h
    | some r1 =>
      rw [e1] at h
      have p := hs i s w r1 hi gw e1
      cases r1 with
      | err k t w1 => cases h; exact p.mono (by simp only [cntL]; omega)
      | stop t w1 => cases h; exact p.mono (by simp only [cntL]; omega)
      | ok w1 =>
        have q := goM_post hs l (i + 1) w1 r e' p.good h
        exact (p.step q).mono (by simp only [cntL]; omega)
theorem Go_post (gf : GoodF ms ns F) : ∀ n, HypG ms ns F (Go F n) := by
  intro n
  induction n using Nat.strongRecOn with
  | ind n ih =>
    intro u m base b w b0 r e0 eb gw h
    rw [Go_eq] at h
    exact goM_post (fun i s w r hi gw h => step_post gf ih e0 eb hi gw h) b 0 w r rfl gw h
theorem St_post (gf : GoodF ms ns F) {n : Nat} {u : List Plc} {m : Str} {base : Pth} {i : Nat} {b0 b : List Stm} {s : Stm} {w : Wd} {r : Rs} (e0 : F m = some b0) (eb : blkIn b0 base = some b) (es : b[i]? = some s) (gw : GoodW ms ns F w)
    (h : St' F n u m (base ++ [i]) s w = some r) : Post ms ns F w (3 * s.cnt) r := step_post gf (fun j _ => Go_post gf j) e0 eb es gw h
end
end M


namespace M
open PySem L2
/-! ### the mirror comes to an end -/
def rn (w : Wd) (m : Str) : Prop := valA w.st m = some ("running" : Str)
instance (w : Wd) (m : Str) : Decidable (rn w m) := inferInstanceAs (Decidable (_ = _))
def nr (ms : List Str) (w : Wd) : Nat := ms.countP fun m => !decide (rn w m)
def SameR (w : Wd) : Rs → Prop
  | .ok w' => ∀ x, rn w' x ↔ rn w x
  | .err _ _ w' => ∀ x, rn w' x ↔ rn w x
  | .stop _ _ => True
theorem nr_same {ms : List Str} {w w' : Wd} (h : ∀ x, rn w' x ↔ rn w x) : nr ms w' = nr ms w := by
  unfold nr
  refine List.countP_congr fun x _ => ?_
  simp [h x]
theorem SameR.trans {w w' : Wd} {r : Rs} (h : ∀ x, rn w' x ↔ rn w x) (s : SameR w' r) : SameR w r := by
  cases r with
  | ok v => exact fun x => (s x).trans (h x)
  | err k t v => exact fun x => (s x).trans (h x)
  | stop t v => trivial
section
variable {ms ns : List Str} {F : Fb}
def HypT (ms ns : List Str) (F : Fb) (n : Nat) (g : GoFn) : Prop := ∀ u m base b w b0, F m = some b0 → blkIn b0 base = some b → GoodW ms ns F w → 6 * w.left + 3 * nr ms w + 3 * depL b ≤ n → ∃ r, g u m base b w = some r ∧ SameR w r
theorem lower_T {g : Nat → GoFn} {n k : Nat} (h : ∀ j, j < n → HypT ms ns F j (g j)) (hk : 0 < k) : ∀ u m base b w b0, F m = some b0 → blkIn b0 base = some b → GoodW ms ns F w → 6 * w.left + 3 * nr ms w + 3 * depL b + k ≤ n → ∃ r, lower g n k u m base b w = some r ∧ SameR w r := by
  intro u m base b w b0 e0 eb gw hn
  unfold lower
  rw [if_pos (by omega)]
  exact h (n - k) (by omega) u m base b w b0 e0 eb gw (by omega)
theorem rn_put {w : Wd} {m s x : Str} {st : List (Str × Str)} (e : st = putA w.st m s) : valA st x = if m = x then some s else valA w.st x := by rw [e, valA_put]
theorem ldM_T (gf : GoodF ms ns F) {g : Nat → GoFn} {n : Nat} (hg : ∀ j, j < n → HypT ms ns F j (g j)) {T : List Plc} {m : Str} {w : Wd} (gw : GoodW ms ns F w) (hn : 6 * w.left + 3 * nr ms w ≤ n) : ∃ r, ldM F (lower g n 3) T m w = some r ∧ SameR w r := by
  unfold ldM
  cases e : F m with
  | none => exact ⟨_, rfl, fun x => Iff.rfl⟩
  | some b =>
    obtain ⟨hm, hwf, hov, hdp, hcn⟩ := gf.blk m b e
    simp only
    split
    · exact ⟨_, rfl, fun x => Iff.rfl⟩
    · rename_i ha
      have ha : told w m = "absent" := by simpa using ha
      have nrun : ¬ rn w m := fun z => by
        unfold rn at z
        unfold told at ha
        rw [z] at ha
        exact absurd ha (by decide +kernel)
      split
      · exact ⟨_, rfl, trivial⟩
      · rename_i hl
        have ge : GoodW ms ns F (entered m w) := ⟨gw.v, (gw.sts hm).1, (gw.sts hm).2, gw.sh, gw.evs ⟨hm, by simp⟩⟩
        have re : ∀ x, rn (entered m w) x ↔ (x = m ∨ rn w x) := fun x => by
          unfold rn
          rw [show valA (entered m w).st x = if m = x then some ("running" : Str) else valA w.st x from valA_put]
          by_cases z : m = x
          · simp [z]
          · rw [if_neg z]
            exact ⟨.inr, fun h => h.resolve_left (fun y => z y.symm)⟩
        have hnr : nr ms (entered m w) + 1 ≤ nr ms w := by
          unfold nr
          have p := List.perm_cons_erase hm
          rw [p.countP_eq, p.countP_eq, List.countP_cons, List.countP_cons]
          have e1 : (!decide (rn (entered m w) m)) = false := by simp [re m]
          have e2 : (!decide (rn w m)) = true := by simpa using nrun
          rw [e1, e2]
          have := List.countP_mono_left (p := fun x => !decide (rn (entered m w) x)) (q := fun x => !decide (rn w x)) (l := ms.erase m) fun x _ hx => by
            simp only [Bool.not_eq_true', decide_eq_false_iff_not] at hx ⊢
            exact fun z => hx ((re x).mpr (.inr z))
          simp only [Bool.false_eq_true, if_false, if_true]
          omega
        have hl' : (entered m w).left = w.left - 1 := rfl
        obtain ⟨r, hr, sr⟩ := lower_T hg (by decide : 0 < 3) T m [] b (entered m w) b e rfl ge (by rw [hl']; omega)
        rw [hr]
        refine ⟨_, rfl, ?_⟩
        have back : ∀ (w2 : Wd) (s : Str) (st : List (Str × Str)), s ≠ "running" → st = putA w2.st m s → (∀ x, rn w2 x ↔ rn (entered m w) x) → ∀ x, (valA st x = some ("running" : Str)) ↔ rn w x := fun w2 s st hs est h2 x => by
          rw [rn_put est]
          by_cases z : m = x
          · rw [if_pos z]
            subst z
            exact ⟨fun y => absurd (Option.some.inj y) hs, fun y => absurd y nrun⟩
          · rw [if_neg z]
            have := (h2 x).trans (re x)
            exact this.trans ⟨fun h => h.resolve_left (fun y => z y.symm), .inr⟩
        cases r with
        | ok w2 => exact back w2 "done" _ (by decide +kernel) rfl sr
        | err k t w2 => exact back w2 "absent" _ (by decide +kernel) rfl sr
        | stop t w2 => trivial
theorem step_T (gf : GoodF ms ns F) {g : Nat → GoFn} {n : Nat} (hg : ∀ j, j < n → HypT ms ns F j (g j)) (hp : ∀ j, j < n → HypG ms ns F (g j)) {u : List Plc} {m : Str} {base : Pth} {i : Nat} {b0 b : List Stm} {s : Stm} {w : Wd} (e0 : F m = some b0) (eb : blkIn b0 base = some b) (es : b[i]? = some s) (gw : GoodW ms ns F w)
    (hn : 6 * w.left + 3 * nr ms w + 3 * s.dep ≤ n) : ∃ r, stepM F g n u m (base ++ [i]) s w = some r ∧ SameR w r := by
  have g3 := lower_T hg (by decide : 0 < 3)
  have g4 := lower_T hg (by decide : 0 < 3)
  cases s with
  | set x e =>
    simp only [stepM]
    cases evl w.vs m e <;> exact ⟨_, rfl, fun x => Iff.rfl⟩
  | del x =>
    simp only [stepM]
    cases valA w.vs (m, x) <;> exact ⟨_, rfl, fun x => Iff.rfl⟩
  | shw e =>
    simp only [stepM]
    cases evl w.vs m e <;> exact ⟨_, rfl, fun x => Iff.rfl⟩
  | raise => exact ⟨_, rfl, fun x => Iff.rfl⟩
  | fn x bd => exact ⟨_, rfl, fun x => Iff.rfl⟩
  | call e =>
    simp only [stepM]
    cases e1 : evl w.vs m e with
    | error k => exact ⟨_, rfl, fun x => Iff.rfl⟩
    | ok v =>
      cases v with
      | int j => exact ⟨_, rfl, fun x => Iff.rfl⟩
      | md j => exact ⟨_, rfl, fun x => Iff.rfl⟩
      | fn fm fp =>
        simp only
        split
        · exact ⟨_, rfl, trivial⟩
        · rename_i hl
          obtain ⟨c0, c1, f0, f1⟩ := evl_ok gw.v e1
          rw [f0]
          simp only
          rw [f1]
          simp only
          have le := (blkIn_le (blkAt_in f1)).1
          obtain ⟨jj, hj⟩ := blkAt_len f1
          rw [List.length_append] at le
          simp only [List.length_cons, List.length_nil] at le
          have d2 := (gf.blk fm c0 f0).2.2.2.1
          exact g4 _ _ _ _ { w with left := w.left - 1 } c0 f0 (blkAt_in f1) ⟨gw.v, gw.st, gw.snd, gw.sh, gw.ev⟩ (by
            have : nr ms { w with left := w.left - 1 } = nr ms w := rfl
            rw [this]
            simp only
            simp only [Stm.dep] at hn
            omega)
  | imp t x =>
    simp only [stepM]
    obtain ⟨r, hr, sr⟩ := ldM_T gf hg gw (T := u ++ [(m, base ++ [i])]) (m := t) (by omega)
    rw [hr]
    cases r <;> exact ⟨_, rfl, sr⟩
  | frm t y x =>
    simp only [stepM]
    obtain ⟨r, hr, sr⟩ := ldM_T gf hg gw (T := u ++ [(m, base ++ [i])]) (m := t) (by omega)
    rw [hr]
    cases r with
    | ok w1 =>
      simp only [thenOk]
      cases valA w1.vs (t, y) <;> exact ⟨_, rfl, sr⟩
    | err k tt w1 => exact ⟨_, rfl, sr⟩
    | stop tt w1 => exact ⟨_, rfl, sr⟩
  | star t =>
    simp only [stepM]
    obtain ⟨r, hr, sr⟩ := ldM_T gf hg gw (T := u ++ [(m, base ++ [i])]) (m := t) (by omega)
    rw [hr]
    cases r <;> exact ⟨_, rfl, sr⟩
  | ite e c d =>
    simp only [stepM]
    simp only [Stm.dep] at hn
    cases e1 : evl w.vs m e with
    | error k => exact ⟨_, rfl, fun x => Iff.rfl⟩
    | ok v =>
      cases v with
      | md j => exact ⟨_, rfl, fun x => Iff.rfl⟩
      | fn j l => exact ⟨_, rfl, fun x => Iff.rfl⟩
      | int j =>
        simp only
        split
        · exact g3 _ _ _ _ w b0 e0 (blkIn_sub eb es (k := 1) rfl) gw (by omega)
        · exact g3 _ _ _ _ w b0 e0 (blkIn_sub eb es (k := 0) rfl) gw (by omega)
  | tri k c d =>
    simp only [stepM]
    simp only [Stm.dep] at hn
    obtain ⟨r, hr, sr⟩ := g3 u m (base ++ [i] ++ [0]) c w b0 e0 (blkIn_sub eb es (k := 0) rfl) gw (by omega)
    rw [hr]
    cases r with
    | ok w1 => exact ⟨_, rfl, sr⟩
    | stop t w1 => exact ⟨_, rfl, trivial⟩
    | err kk t w1 =>
      simp only
      split
      · have pp := lower_post hp (by decide : 0 < 3) _ _ _ _ _ _ _ e0 (blkIn_sub eb es (k := 0) rfl) gw hr
        have l1 := pp.le
        simp only [Rs.w] at l1
        have n1 := nr_same (ms := ms) sr
        obtain ⟨r2, hr2, sr2⟩ := g3 u m (base ++ [i] ++ [1]) d w1 b0 e0 (blkIn_sub eb es (k := 1) rfl) pp.good (by rw [n1]; omega)
        exact ⟨r2, hr2, SameR.trans sr sr2⟩
      · exact ⟨_, rfl, sr⟩
theorem goM_T {st : Pth → Stm → Wd → Option Rs} {base : Pth} {b : List Stm} {n : Nat} (hs : ∀ i s w, b[i]? = some s → GoodW ms ns F w → 6 * w.left + 3 * nr ms w + 3 * s.dep ≤ n → ∃ r, st (base ++ [i]) s w = some r ∧ SameR w r)
    (hq : ∀ i s w r, b[i]? = some s → GoodW ms ns F w → st (base ++ [i]) s w = some r → Post ms ns F w (3 * s.cnt) r) :
    ∀ (l : List Stm) (i : Nat) (w : Wd), b.drop i = l → GoodW ms ns F w → 6 * w.left + 3 * nr ms w + 3 * depL l ≤ n → ∃ r, goM st base i l w = some r ∧ SameR w r
  | [], i, w, e, gw, hn => ⟨_, rfl, fun x => Iff.rfl⟩
  | s :: l, i, w, e, gw, hn => by
    have hi : b[i]? = some s := by
      have z := congrArg (fun x => x[0]?) e
      simpa [List.getElem?_drop] using z
    have e' : b.drop (i + 1) = l := by
      have z := congrArg List.tail e
      simpa [List.tail_drop] using z
    simp only [depL] at hn
    obtain ⟨r, hr, sr⟩ := hs i s w hi gw (by omega)
    simp only [goM]
    rw [hr]
    have p := hq i s w r hi gw hr
    cases r with
    | err k t w1 => exact ⟨_, rfl, sr⟩
    | stop t w1 => exact ⟨_, rfl, trivial⟩
    | ok w1 =>
      have l1 := p.le
      simp only [Rs.w] at l1
      have n1 := nr_same (ms := ms) sr
      obtain ⟨r2, hr2, sr2⟩ := goM_T hs hq l (i + 1) w1 e' p.good (by rw [n1]; omega)
      exact ⟨r2, hr2, SameR.trans sr sr2⟩
theorem Go_T (gf : GoodF ms ns F) : ∀ n, HypT ms ns F n (Go F n) := by
  intro n
  induction n using Nat.strongRecOn with
  | ind n ih =>
    intro u m base b w b0 e0 eb gw hn
    rw [Go_eq]
    exact goM_T (fun i s w hi gw h => step_T gf ih (fun j _ => Go_post gf j) e0 eb hi gw h) (fun i s w r hi gw h => St_post gf e0 eb hi gw h) b 0 w rfl gw hn
/-- a run of a start ends: 195 units of fuel are enough -/
theorem run_T (gf : GoodF ms ns F) (few : ms.length ≤ 5) {n : Nat} {T : List Plc} {m : Str} {w : Wd} (gw : GoodW ms ns F w) (hl : w.left ≤ 30) (hn : 195 ≤ n) : ∃ r, ldM F (lower (Go F) n 3) T m w = some r := by
  have : nr ms w ≤ ms.length := List.countP_le_length
  obtain ⟨r, h, _⟩ := ldM_T gf (fun j _ => Go_T gf j) gw (T := T) (m := m) (n := n) (by omega)
  exact ⟨r, h⟩
end
end M


namespace M
open PySem L2 L2H
/-! ### how a part of a run ends -/
def Sm (A A' : IA) (H : Hp) : Prop := A' = { A with w := { A.w with B := A'.w.B } } ∧ (A'.w.B = A.w.B ∨ H A'.w.B = none)
theorem Sm.refl (A : IA) (H : Hp) : Sm A A H := ⟨rfl, .inl rfl⟩
theorem Sm.fx {A A' : IA} {H : Hp} (s : Sm A A' H) : ∀ x ∈ A'.fx, x ∈ A.fx ∨ H x = none := by
  obtain ⟨e, hB⟩ := s
  intro x hx
  rw [e] at hx
  simp only [IA.fx, List.mem_cons, List.not_mem_nil, or_false] at hx ⊢
  rcases hx with h | h | h | h | h | h
  · exact .inl (.inl h)
  · exact .inl (.inr (.inl h))
  · rcases hB with z | z
    · rw [z] at h; exact .inl (.inr (.inr (.inl h)))
    · rw [h]; exact .inr z
  · exact .inl (.inr (.inr (.inr (.inl h))))
  · exact .inl (.inr (.inr (.inr (.inr (.inl h)))))
  · exact .inl (.inr (.inr (.inr (.inr (.inr h)))))
theorem Sm.trans {A A1 A2 : IA} {H H1 : Hp} {S : List Addr} (s : Sm A A1 H) (k : Keep S H H1) (t : Sm A1 A2 H1) : Sm A A2 H := by
  obtain ⟨e, hB⟩ := s
  obtain ⟨e2, hB2⟩ := t
  refine ⟨by rw [e2, e], ?_⟩
  rcases hB2 with z | z
  · rw [z]; exact hB
  · exact .inr (k.free z)
theorem Keep.sm {A A1 : IA} {H H1 H2 : Hp} (k : Keep A.fx H H1) (s : Sm A A1 H) (k2 : Keep A1.fx H1 H2) : Keep A.fx H H2 := k.step k2 s.fx
/-- ok: un' is right by ko; err, stop: by ke -/
def OutN (K : PySem.W.Frag) (c : CA) (A : IA) (P : Prg) (H : Hp) (ko ke : List Plc → Prop) (Q : VK) (E : XK) : Rs → Prop
  | .ok w' => ∀ A' H' un', IntAt K H' c A' P w' un' → ko un' → Sm A A' H → Keep A.fx H H' → Q .non H'
  | .err k t w' => ∀ A' H' un' d pv, IntAt K H' c A' P w' un' → ke un' → Sm A A' H → Keep A.fx H H' → H d = none → H' d = some (.xd [("places", pv), ("kind", .str k)]) → Im K H' pv (.tuple (t.map plcD)) → E (.ref c.CF) (some d) H'
  | .stop t w' => ∀ A' H' un' d pv, IntAt K H' c A' P w' un' → ke un' → Sm A A' H → Keep A.fx H H' → H d = none → H' d = some (.xd [("places", pv)]) → Im K H' pv (.tuple (t.map plcD)) → E (.ref c.CS) (some d) H'
section
variable {K : PySem.W.Frag} {c : CA} {A A1 : IA} {P : Prg} {H H1 : Hp} {ko ke ko' ke' : List Plc → Prop} {Q : VK} {E : XK} {r : Rs}
theorem OutN.at (o : OutN K c A P H ko ke Q E r) (s : Sm A A1 H) (k : Keep A.fx H H1) : OutN K c A1 P H1 ko ke Q E r := by
  cases r with
  | ok w' => exact fun A' H' un' x h s' k' => o A' H' un' x h (s.trans k s') (k.sm s k')
  | err kk t w' => exact fun A' H' un' d pv x h s' k' fd hd i => o A' H' un' d pv x h (s.trans k s') (k.sm s k') (k.free fd) hd i
  | stop t w' => exact fun A' H' un' d pv x h s' k' fd hd i => o A' H' un' d pv x h (s.trans k s') (k.sm s k') (k.free fd) hd i
theorem OutN.k0 (o : OutN K c A P H ko ke Q E r) (k : Keep [] H H1) : OutN K c A P H1 ko ke Q E r := o.at (Sm.refl A H) k.nil
theorem OutN.un (o : OutN K c A P H ko ke Q E r) (h1 : ∀ u, ko' u → ko u) (h2 : ∀ u, ke' u → ke u) : OutN K c A P H ko' ke' Q E r := by
  cases r with
  | ok w' => exact fun A' H' un' x h s' k' => o A' H' un' x (h1 _ h) s' k'
  | err kk t w' => exact fun A' H' un' d pv x h s' k' fd hd i => o A' H' un' d pv x (h2 _ h) s' k' fd hd i
  | stop t w' => exact fun A' H' un' d pv x h s' k' fd hd i => o A' H' un' d pv x (h2 _ h) s' k' fd hd i
/-- an error now -/
theorem OutN.fe {k : Str} {t un : List Plc} {w : Wd} (o : OutN K c A P H ko ke Q E (.err k t w)) (x : IntAt K H c A P w un) (h : ke un) : FE K c k t H E :=
  fun d pv H' k' fd hd i => o A H' un d pv (x.k0 k') h (Sm.refl A H) k'.nil fd hd i
theorem OutN.se {t un : List Plc} {w : Wd} (o : OutN K c A P H ko ke Q E (.stop t w)) (x : IntAt K H c A P w un) (h : ke un) : SE K c t H E :=
  fun d pv H' k' fd hd i => o A H' un d pv (x.k0 k') h (Sm.refl A H) k'.nil fd hd i
end
/-- what stands before a part of a run -/
structure Pre (P : Prg) (w : Wd) (k : Nat) (l : Nat) : Prop where
  ex : ∃ ms ns, GoodF ms ns (valA P) ∧ GoodW ms ns (valA P) w
  ph : phi w + 3 * k ≤ 20000
  un : l + w.left ≤ 60
theorem nodup_len {α : Type} [DecidableEq α] : ∀ {l m : List α}, l.Nodup → (∀ x ∈ l, x ∈ m) → l.length ≤ m.length
  | [], m, _, _ => Nat.zero_le _
  | x :: l, m, nd, h => by
    rw [List.nodup_cons] at nd
    have ih := nodup_len (l := l) (m := m.erase x) nd.2 fun y hy => (List.mem_erase_of_ne (fun z => nd.1 (by rw [← z]; exact hy))).mpr (h y (List.mem_cons_of_mem _ hy))
    have e := List.length_erase_of_mem (h x List.mem_cons_self)
    have : 0 < m.length := List.length_pos_of_mem (h x List.mem_cons_self)
    simp only [List.length_cons]
    omega
theorem pairs_len (ns : List Str) : ∀ ms : List Str, (ms.flatMap fun a => ns.map fun b => (a, b)).length = ms.length * ns.length
  | [] => by simp
  | a :: r => by
    rw [List.flatMap_cons, List.length_append, List.length_map, pairs_len ns r, List.length_cons, Nat.succ_mul]
    omega
theorem GoodW.few {ms ns : List Str} {F : Fb} {w : Wd} (gf : GoodF ms ns F) (g : GoodW ms ns F w) : w.vs.length < 64 := by
  have h := nodup_len (m := ms.flatMap fun a => ns.map fun b => (a, b)) g.v.nd fun k hk => by
    obtain ⟨p, hp, rfl⟩ := List.mem_map.mp hk
    obtain ⟨h1, h2, _⟩ := g.v.all p hp
    exact List.mem_flatMap.mpr ⟨p.1.1, h1, List.mem_map.mpr ⟨p.1.2, h2, rfl⟩⟩
  have e := pairs_len ns ms
  rw [List.length_map, e] at h
  exact Nat.lt_of_le_of_lt h gf.few
theorem Pre.sz {P : Prg} {w : Wd} {k l : Nat} (p : Pre P w k l) : w.vs.length < 64 ∧ w.ev.length ≤ 20000 ∧ w.shown.length ≤ 20000 ∧ (w.vs.map (·.1)).Nodup ∧ w.st.length ≤ 1000 := by
  obtain ⟨ms, ns, gf, gw⟩ := p.ex
  have h := p.ph
  unfold phi at h
  refine ⟨gw.few gf, by omega, by omega, gw.v.nd, ?_⟩
  have := nodup_len gw.snd fun k hk => by
    obtain ⟨q, hq, rfl⟩ := List.mem_map.mp hk
    exact gw.st q hq
  rw [List.length_map] at this
  have := gf.fewm
  omega
end M


namespace M
open PySem L2 L2H
abbrev koG (u : List Plc) : List Plc → Prop := fun un => ∃ x, un = u ++ [x]
abbrev keG (u : List Plc) : List Plc → Prop := fun un => ∃ x q, un = u ++ x :: q
def sp_Interpreter_step (K : PySem.W.Frag) (c : CA) (n : Nat) : Sp := fun vs H Q E => ∃ A P w u m base i b0 b s pv v r, vs = [.ref A.I, .str m, pv, v] ∧ IntAt K H c A P w (u ++ [(m, base ++ [i])]) ∧ Im K H pv (pathD (base ++ [i])) ∧ Im K H v (Stm.d s) ∧ Pre P w s.cnt u.length ∧
  valA P m = some b0 ∧ blkIn b0 base = some b ∧ b[i]? = some s ∧ St' (valA P) n u m (base ++ [i]) s w = some r ∧ OutN K c A P H (koG u) (keG u) Q E r
def sp_Interpreter_go (K : PySem.W.Frag) (c : CA) (n : Nat) : Sp := fun vs H Q E => ∃ A P w u y m base b0 b pv v r, vs = [.ref A.I, .str m, pv, v] ∧ IntAt K H c A P w (u ++ [y]) ∧ Im K H pv (pathD base) ∧ Im K H v (.tuple (blkD b)) ∧ Pre P w (cntL b) u.length ∧
  valA P m = some b0 ∧ blkIn b0 base = some b ∧ Go (valA P) n u m base b w = some r ∧ OutN K c A P H (koG u) (keG u) Q E r
theorem ImAll.split {K : PySem.W.Frag} {H : Hp} : ∀ {ds es : List PyData} {l : List V}, ImAll K H l (ds ++ es) → ∃ l1 l2, l = l1 ++ l2 ∧ ImAll K H l1 ds ∧ ImAll K H l2 es
  | [], es, l, h => ⟨[], l, rfl, .nil, h⟩
  | d :: ds, es, l, h => by
    obtain ⟨v, r, rfl, h1, h2⟩ := ImAll.of_cons (show ImAll K H l (d :: (ds ++ es)) from h)
    obtain ⟨l1, l2, rfl, h3, h4⟩ := ImAll.split h2
    exact ⟨v :: l1, l2, rfl, .cons h1 h3, h4⟩
theorem im_plc {K : PySem.W.Frag} {H : Hp} {p q : Addr} {m : Str} {b : Pth} (h : SqT K H p [.str m, .ref q]) (i : Im K H (.ref q) (pathD b)) : Im K H (.ref p) (plcD (m, b)) := .tup h (.cons (.str m) (.cons i .nil))
theorem Pre.step {P : Prg} {w w1 : Wd} {a b l : Nat} (p : Pre P w (a + b) l) {ms ns : List Str} (gf : GoodF ms ns (valA P)) (q : Post ms ns (valA P) w (3 * a) (.ok w1)) : Pre P w1 b l :=
  ⟨⟨ms, ns, gf, q.good⟩, by have := p.ph; have := q.ph; simp only [Rs.w] at *; omega, by have := p.un; have := q.le; simp only [Rs.w] at *; omega⟩
/-- the path of a statement -/
theorem v_path {K : PySem.W.Frag} {H : Hp} {Q : VK} {a b : Addr} {base : Pth} {i : Nat} (h : Im K H (.ref a) (pathD base)) (h2 : SqT K H b [.int (i : Nat)]) (l : base.length ≤ 1000) (q : ∀ p H', Keep [] H H' → Im K H' (.ref p) (pathD (base ++ [i])) → Q (.ref p) H') : rAdd K (.ref a) (.ref b) H Q := by
  refine v_addT (Im.path h) h2 ?_ fun p H' k s => q p H' k (im_path ?_)
  · rw [List.length_map]; have := sl_eq; simp only [List.length_cons, List.length_nil]; omega
  · rw [List.map_append]
    exact s
def t_Interpreter_go (K : PySem.W.Frag) (c : CA) (sp : Sp) (W : WX) : TS := (tFor (iEnumX K (tCons (tVar 3) tNil)) (gTup K 2 (gCons (gName 4) (gCons (gName 5) gNil))) (tSeq (tAsg (tTupN (tCons (tVar 1) (tCons (tOp (rAdd K) (tVar 2) (tTupX K (tCons (tVar 4) tNil))) tNil))) (gSub (tFld K (tVar 0) "under") (tUn rNegI (tC (.int 1))) rSetL))
  (tDrop (L2H.tMethH c.CI "step" sp (WE W) (tVar 0) (tCons (tVar 1) (tCons (tOp (rAdd K) (tVar 2) (tTupX K (tCons (tVar 4) tNil))) (tCons (tVar 5) tNil)))))))
def n_Interpreter_go : List Str := ["self", "module", "base", "block", "index", "statement"]
theorem pure_Interpreter_go {K : PySem.W.Frag} {c : CA} (T : CC K c) {n : Nat} (vs : List V) (H : Hp) (Q : VK) (E : XK) (h : sp_Interpreter_go K c n vs H Q E) : t_Interpreter_go K c (sp_Interpreter_step K c n) (w0 E) { nx := fun _ H' => Q .non H', rt := Q } (start n_Interpreter_go vs) H := by
  obtain ⟨A, P, w, u, y, m, base, b0, b, pv, v, r, rfl, x, ip, iv, pre, e0, eb, eg, o⟩ := h
  show t_Interpreter_go K c _ _ _ [some (.ref A.I), some (.str m), some pv, some v, none, none] H
  unfold t_Interpreter_go
  have TI := T.i
  obtain ⟨pa, pxs, rfl, _, _⟩ := ip.of_tup
  obtain ⟨va, xs, rfl, hv, hxs⟩ := iv.of_tup
  rw [blkD_map] at hxs
  have lx : xs.length = b.length := by have := hxs.length; rwa [List.length_map] at this
  rw [Go_eq] at eg
  have lb := (blkIn_le eb).1
  obtain ⟨ms, ns, gf, gw⟩ := pre.ex
  have dp := (gf.blk m b0 e0).2.2.2.1
  row_readAll go
  refine .inr ⟨⟨xs, hv⟩, ?_⟩
  refine loop_ET (xs := xs) (fun i σ' H' => ∃ A' w' y' o4 o5, σ' = [some (.ref A.I), some (.str m), some (.ref pa), some (.ref va), o4, o5] ∧ IntAt K H' c A' P w' (u ++ [y']) ∧ Sm A A' H ∧ Keep A.fx H H' ∧ Pre P w' (cntL (b.drop i)) u.length ∧ goM (fun path s w => St' (valA P) n u m path s w) base i (b.drop i) w' = some r)
    ⟨A, w, y, none, none, rfl, x, Sm.refl A H, Keep.refl _ _, pre, eg⟩ (fun i σ' H' _ p => by obtain ⟨_, _, _, _, _, _, _, _, k, _⟩ := p; exact k.sqT hv) ?_ ?_
  · rintro i z T2 σ' H1 H2 hz ⟨A', w', y', o4, o5, rfl, x1, s1, k1, pre1, eg1⟩ k2 hT
    have hi : i < b.length := by have := get_lt hz; omega
    have es : b[i]? = some b[i] := List.getElem?_eq_getElem hi
    have ed : b.drop i = b[i] :: b.drop (i + 1) := List.drop_eq_getElem_cons hi
    rw [ed] at eg1 pre1
    simp only [goM] at eg1
    simp only [cntL] at pre1
    obtain ⟨d, hd1, iz⟩ := (hxs.mono k1).get hz
    rw [List.getElem?_map, es] at hd1
    cases hd1
    obtain ⟨ms1, ns1, gf1, gw1⟩ := pre1.ex
    have eI : A'.I = A.I := by rw [s1.1]
    have x2 := x1.k0 k2
    have hI2 := x2.obj
    rw [eI] at hI2
    refine v_tup2 hT ?_
    row_readAll go
    refine v_mkT (by row_readAll ln) fun q3 H3 f3 k3 s3 => ?_
    have ip3 := ((ip.mono k1).mono k2).mono k3
    refine v_path ip3 s3 (by omega) fun q4 H4 k4 i4 => ?_
    row_readAll go
    refine v_mkN (by row_readAll ln) fun q5 H5 f5 k5 s5 => ?_
    have k25 := (k3.trans k4).trans k5
    have x5 := x2.k0 k25
    have hI5 := x5.obj
    rw [eI] at hI5
    obtain ⟨l, hU, rU⟩ := x5.und
    rw [List.map_append] at rU
    obtain ⟨l1, l2, rfl, r1, r2⟩ := rU.split
    obtain ⟨zl, r0, rfl, r2, r0h⟩ := r2.of_cons
    cases r0h.of_nil
    row_readAll go
    refine v_setL (j := l1.length) hU ?_ fun H6 k6 g6 => ?_
    · unfold ixN
      simp only [List.length_append, List.length_cons, List.length_nil]
      rw [if_neg (by omega), if_pos (by omega)]
      congr 1
      omega
    have g6' : H6 A'.U = some (.lst (l1 ++ [V.ref q5])) := by rw [g6]; simp
    have x6 : IntAt K H6 c A' P w' (u ++ [(m, base ++ [i])]) := x5.toU k6 g6' (by
      rw [List.map_append]
      exact (r1.mono k6).append (.cons (im_plc (SqT.of (k6.tup _ _ s5)) ((i4.mono k5).mono k6)) .nil))
    have hI6 := x6.obj
    rw [eI] at hI6
    row_readAll go
    refine v_meth hI6 (by rfl) ?_
    row_readAll go
    refine v_mkT (by row_readAll ln) fun q7 H7 f7 k7 s7 => ?_
    refine v_path ((((ip3.mono k4).mono k5).mono k6).mono k7) s7 (by omega) fun q8 H8 k8 i8 => ?_
    row_readAll go
    have k68 := k7.trans k8
    have x8 := x6.k0 k68
    have kU : Keep A'.fx H1 H8 := (((k2.trans k25).nil.trans (k6.mono fun b hb => by have hb : b = A'.U := by simpa using hb
                                                                                     simp [hb, IA.fx])).step0 k68)
    have o8 := (o.at s1 k1).at (Sm.refl A' H1) kU
    cases e1 : St' (valA P) n u m (base ++ [i]) b[i] w' with
    | none => rw [e1] at eg1; cases eg1
    | some rr =>
      rw [e1] at eg1
      refine ⟨A', P, w', u, m, base, i, b0, b, b[i], _, _, rr, by rw [eI], x8, i8, ?_, ?_, e0, eb, es, e1, ?_⟩
      · exact ((((((iz.mono k2).mono k3).mono k4).mono k5).mono k6).mono k7).mono k8
      · exact ⟨pre1.ex, by have := pre1.ph; omega, pre1.un⟩
      · cases rr with
        | err kk t w1 => cases eg1; exact o8
        | stop t w1 => cases eg1; exact o8
        | ok w1 =>
          rintro A2 H9 un9 x9 ⟨y9, rfl⟩ s9 k9
          row_readAll go
          have pp := St_post gf1 e0 eb es gw1 e1
          exact ⟨A2, w1, y9, _, _, rfl, x9, s1.trans k1 ((Sm.refl A' H1).trans kU s9), (k1.sm s1 kU).sm (s1.trans k1 (Sm.refl A' H1)) k9, pre1.step gf1 pp, eg1⟩
  · rintro σ' H1 ⟨A', w', y', o4, o5, rfl, x1, s1, k1, pre1, eg1⟩
    rw [lx, List.drop_length] at eg1
    cases eg1
    row_readAll go
    exact o A' H1 _ x1 ⟨y', rfl⟩ s1 k1
end M


namespace M
open PySem PySem.Spec PyProof.Rows L2
/-! ### list(d), dict(d) -/
def rListD : List V → Hp → VK → Prop := fun xs H Q => ∃ (a : Addr) (kvs : List (Key × V)), xs = [.ref a] ∧ Rd H a (.dK kvs) ∧ ∀ p H', H p = none → Keep [] H H' → H' p = some (.lst (kvs.map fun kv => kV kv.1)) → Q (.ref p) H'
def rListT : List V → Hp → VK → Prop := fun xs H Q => ∃ (a : Addr) (kvs : List (List Key × V)), xs = [.ref a] ∧ Rd H a (.dT kvs) ∧ ∀ p bs H', H p = none → Keep [] H H' → H' p = some (.lst (bs.map V.ref)) → Paired (fun (q : List Key × V) b => H' b = some (.tup (q.1.map kV))) kvs bs → Q (.ref p) H'
theorem cb_listD {X : Cx} (hc : X.calm = true) : CallR X (.type "list") rListD := by
  intro pins s σ H xs us Q I r h
  obtain ⟨a, kvs, e, hd, q⟩ := h
  exact call_listD hc pins s σ H xs us Q I r ⟨a, kvs, e, hd, fun p hp => q p _ hp (Keep.new hp) upd_same⟩
theorem paired_mono {α β : Type} {R R' : α → β → Prop} : ∀ {l : List α} {m : List β}, Paired R l m → (∀ a b, R a b → R' a b) → Paired R' l m
  | _, _, .nil, _ => .nil
  | _, _, .cons h t, g => .cons (g _ _ h) (paired_mono t g)
theorem cb_listT {X : Cx} (hc : X.calm = true) : CallR X (.type "list") rListT := by
  intro pins s σ H xs us Q I r h
  obtain ⟨a, kvs, e, hd, q⟩ := h
  exact call_list_dT hc pins s σ H xs us Q I r ⟨a, kvs, e, hd, fun p bs hp hk => q p bs _ hp (Keep.new hp) upd_same (paired_mono hk fun x b hb => by rw [upd_ne (fun z => by rw [z, hp] at hb; cases hb)]; exact hb)⟩
def rDictOf : List V → Hp → VK → Prop := fun xs H Q => ∃ (a : Addr) (kvs : List (Key × V)), xs = [.ref a] ∧ Rd H a (.dK kvs) ∧ ∀ p H', H p = none → Keep [] H H' → H' p = some (.dK kvs) → Q (.ref p) H'
theorem cb_dictOf {X : Cx} (hc : X.calm = true) : CallR X (.type "dict") rDictOf := by
  intro pins s σ H xs us Q I r h
  obtain ⟨a, kvs, e, hd, q⟩ := h
  exact call_dictD pins s σ H xs us Q I r ⟨a, kvs, e, hd, fun p hp => q p _ hp (Keep.new hp) upd_same⟩
theorem v_tupT {K : PySem.W.Frag} {H : Hp} {Q : VK} {p : Addr} {xs : List V} (h : SqT K H p xs) (q : Q (.ref p) H) : kTup K (.ref p) H Q := .inr ⟨p, xs, rfl, h, q⟩
end M


namespace M
open PySem L2 L2H SlX
/-! ### outcomes -/
structure OutC (K : PySem.W.Frag) (C : Addr) (p1 p2 p3 p4 p5 : Addr) : Prop where
  c : SCls K C
  s1 : Slot1 K C "own_ending" p1 0
  s2 : Slot1 K C "own_shown" p2 2
  s3 : Slot1 K C "own_events" p3 1
  s4 : Slot1 K C "own_trail" p4 4
  s5 : Slot1 K C "own_spaces" p5 3
def sp_Outcome___init__ (K : PySem.W.Frag) (C : Addr) : Sp := fun vs H Q _ => ∃ a dx e l1 l2 t d xs ys zs, vs = [.ref a, .str e, .ref l1, .ref l2, .ref t, .ref d] ∧ H a = some (.ins C dx []) ∧ H dx = some (.own a) ∧ dx ≠ a ∧ H l1 = some (.lst xs) ∧ H l2 = some (.lst ys) ∧ SqT K H t zs ∧
  ∀ s1 s2 H', Slt H' a C dx [some (.str e), some (.ref s2), some (.ref s1), some (.ref d), some (.ref t)] → SqT K H' s1 xs → SqT K H' s2 ys → H' dx = some (.xd []) → Keep [a, dx] H H' → Q .non H'
def t_Outcome___init__ (K : PySem.W.Frag)  : TS := (tSeq (SlX.sSl K (tVar 0) (tVar 1) "own_ending")
  (tSeq (SlX.sSl K (tVar 0) (tThen (tVar 2) (kTup K)) "own_shown")
  (tSeq (SlX.sSl K (tVar 0) (tThen (tVar 3) (kTup K)) "own_events")
  (tSeq (SlX.sSl K (tVar 0) (tThen (tVar 4) (kTup K)) "own_trail")
  (SlX.sSl K (tVar 0) (tVar 5) "own_spaces")))))
def n_Outcome___init__ : List Str := ["self", "ending", "shown", "events", "trail", "spaces"]
theorem pure_Outcome___init__ {K : PySem.W.Frag} {C p1 p2 p3 p4 p5 : Addr} (T : OutC K C p1 p2 p3 p4 p5) (vs : List V) (H : Hp) (Q : VK) (E : XK) (h : sp_Outcome___init__ K C vs H Q E) : t_Outcome___init__ K { nx := fun _ H' => Q .non H', rt := Q } (start n_Outcome___init__ vs) H := by
  obtain ⟨a, dx, e, l1, l2, t, d, xs, ys, zs, rfl, ha, hdx, hne, h1, h2, h3, q⟩ := h
  show t_Outcome___init__ K _ [some (.ref a), some (.str e), some (.ref l1), some (.ref l2), some (.ref t), some (.ref d)] H
  unfold t_Outcome___init__
  have n1 : l1 ∉ [a, dx] := by simp only [List.mem_cons, List.not_mem_nil, or_false, not_or]; exact ⟨neq_of h1 ha (fun z => nomatch z), neq_of h1 hdx (fun z => nomatch z)⟩
  have n2 : l2 ∉ [a, dx] := by simp only [List.mem_cons, List.not_mem_nil, or_false, not_or]; exact ⟨neq_of h2 ha (fun z => nomatch z), neq_of h2 hdx (fun z => nomatch z)⟩
  row_readAll go
  refine v_slPut (y := .str e) (.inl ⟨ha, rfl⟩) (.inl hdx) hne T.c T.s1 fun H1 k1 g1 x1 => ?_
  have e1 : putS 0 (.str e) [] = [some (V.str e)] := rfl
  rw [e1] at g1
  row_readAll go
  refine v_tupOf (SqL.of (k1.obj _ _ n1 h1)) fun s1 H2 f2 k2 g2 => ?_
  refine v_slPut (y := .ref s1) (Slt.keep (b := .own 0) g1 k2 List.not_mem_nil List.not_mem_nil) (.inr (k2.obj _ _ List.not_mem_nil x1)) hne T.c T.s2 fun H3 k3 g3 x3 => ?_
  have e3 : putS 2 (.ref s1) [some (V.str e)] = [some (V.str e), none, some (.ref s1)] := rfl
  rw [e3] at g3
  have k13 := (k1.step0 k2).trans k3
  row_readAll go
  refine v_tupOf (SqL.of (k13.obj _ _ n2 h2)) fun s2 H4 f4 k4 g4 => ?_
  refine v_slPut (y := .ref s2) (Slt.keep (b := .own 0) g3 k4 List.not_mem_nil List.not_mem_nil) (.inr (k4.obj _ _ List.not_mem_nil x3)) hne T.c T.s3 fun H5 k5 g5 x5 => ?_
  have e5 : putS 1 (.ref s2) [some (V.str e), none, some (.ref s1)] = [some (V.str e), some (.ref s2), some (.ref s1)] := rfl
  rw [e5] at g5
  have k15 := (k13.step0 k4).trans k5
  row_readAll go
  refine v_tupT (k15.sqT h3) ?_
  refine v_slPut (y := .ref t) g5 (.inr x5) hne T.c T.s4 fun H6 k6 g6 x6 => ?_
  have e6 : putS 4 (.ref t) [some (V.str e), some (.ref s2), some (.ref s1)] = [some (V.str e), some (.ref s2), some (.ref s1), none, some (.ref t)] := rfl
  rw [e6] at g6
  row_readAll go
  refine v_slPut (y := .ref d) g6 (.inr x6) hne T.c T.s5 fun H7 k7 g7 x7 => ?_
  have e7 : putS 3 (.ref d) [some (V.str e), some (.ref s2), some (.ref s1), none, some (.ref t)] = [some (V.str e), some (.ref s2), some (.ref s1), some (.ref d), some (.ref t)] := rfl
  rw [e7] at g7
  row_readAll go
  exact q s1 s2 H7 g7 (k7.sqT (k6.sqT (k5.sqT (k4.sqT (k3.sqT g2))))) (k7.sqT (k6.sqT (k5.sqT g4))) x7 ((k15.trans k6).trans k7)
end M


namespace M
open PySem L2 L2H
/-! ### the spaces of an outcome -/
structure SpE where
  st : Str
  dd : Addr
  vs : List (Str × Vl)
def SpR (K : PySem.W.Frag) (H : Hp) (v : V) (e : SpE) : Prop := ∃ t m2, v = .ref t ∧ SqT K H t [.str e.st, .ref e.dd] ∧ H e.dd = some (.dK m2) ∧ MapR kS (fun v x => Im K H v (Vl.d x)) m2 e.vs
structure SpAt (K : PySem.W.Frag) (H : Hp) (d : Addr) (es : List (Str × SpE)) : Prop where
  ex : ∃ mm, H d = some (.dK mm) ∧ MapR kS (SpR K H) mm es
  nd : (d :: es.map (·.2.dd)).Nodup
theorem SpR.mono {K : PySem.W.Frag} {H H' : Hp} {S : List Addr} {v : V} {e : SpE} (h : SpR K H v e) (k : Keep S H H') (n : e.dd ∉ S) : SpR K H' v e := by
  obtain ⟨t, m2, rfl, h1, h2, h3⟩ := h
  exact ⟨t, m2, rfl, k.sqT h1, k.obj _ _ n h2, h3.mono fun v x i => i.mono k⟩
theorem mapR_mem {κ κ' α : Type} {f : κ → κ'} {R R' : V → α → Prop} {m : List (κ' × V)} {l : List (κ × α)} (h : MapR f R m l) : (∀ v p, p ∈ l → R v p.2 → R' v p.2) → MapR f R' m l := by
  induction h with
  | nil => exact fun _ => .nil
  | cons h t ih => exact fun g => .cons (g _ (_, _) List.mem_cons_self h) (ih fun v p hp r => g v p (List.mem_cons_of_mem _ hp) r)
theorem mapR_map {κ κ' α : Type} {f : κ → κ'} {R R' : V → α → Prop} (g : κ → α → α) {m : List (κ' × V)} {l : List (κ × α)} (h : MapR f R m l) : (∀ v p, p ∈ l → R v p.2 → R' v (g p.1 p.2)) → MapR f R' m (l.map fun p => (p.1, g p.1 p.2)) := by
  induction h with
  | nil => exact fun _ => .nil
  | cons h t ih => exact fun z => .cons (z _ (_, _) List.mem_cons_self h) (ih fun v p hp r => z v p (List.mem_cons_of_mem _ hp) r)
theorem mapR_at {κ κ' α : Type} {f : κ → κ'} {R : V → α → Prop} {m : List (κ' × V)} {l : List (κ × α)} (h : MapR f R m l) : ∀ p ∈ l, ∃ v, R v p.2 := by
  induction h with
  | nil => exact fun p hp => nomatch hp
  | cons h t ih =>
    intro p hp
    rcases List.mem_cons.mp hp with rfl | hp
    · exact ⟨_, h⟩
    · exact ih p hp
theorem SpAt.keep {K : PySem.W.Frag} {H H' : Hp} {S : List Addr} {d : Addr} {es : List (Str × SpE)} (x : SpAt K H d es) (k : Keep S H H') (n : ∀ b ∈ d :: es.map (·.2.dd), b ∉ S) : SpAt K H' d es := by
  obtain ⟨mm, h1, h2⟩ := x.ex
  refine ⟨⟨mm, k.obj _ _ (n _ List.mem_cons_self) h1, mapR_mem h2 fun v p hp r => r.mono k (n _ (List.mem_cons_of_mem _ (List.mem_map_of_mem (f := (·.2.dd)) hp)))⟩, x.nd⟩
theorem SpAt.k0 {K : PySem.W.Frag} {H H' : Hp} {d : Addr} {es : List (Str × SpE)} (x : SpAt K H d es) (k : Keep [] H H') : SpAt K H' d es := x.keep k fun _ _ => List.not_mem_nil
theorem SpAt.isD {K : PySem.W.Frag} {H : Hp} {d : Addr} {es : List (Str × SpE)} (x : SpAt K H d es) : ∀ b ∈ d :: es.map (·.2.dd), ∃ u, H b = some (.dK u) := by
  obtain ⟨mm, h1, h2⟩ := x.ex
  intro b hb
  rcases List.mem_cons.mp hb with rfl | hb
  · exact ⟨_, h1⟩
  · obtain ⟨p, hp, rfl⟩ := List.mem_map.mp hb
    obtain ⟨v, t, m2, _, _, h4, _⟩ := mapR_at h2 p hp
    exact ⟨m2, h4⟩
/-- the entry of m, its variables changed -/
def chgE (m : Str) (vs' : List (Str × Vl)) (es : List (Str × SpE)) : List (Str × SpE) := es.map fun p => (p.1, if p.1 = m then { p.2 with vs := vs' } else p.2)
theorem chgE_dd (m : Str) (vs' : List (Str × Vl)) (es : List (Str × SpE)) : (chgE m vs' es).map (·.2.dd) = es.map (·.2.dd) := by
  unfold chgE
  rw [List.map_map]
  refine List.map_congr_left fun p _ => ?_
  simp only [Function.comp]
  split <;> rfl
theorem chgE_val (m : Str) (vs' : List (Str × Vl)) : ∀ (es : List (Str × SpE)) (x : Str), valA (chgE m vs' es) x = (valA es x).map fun e => if x = m then { e with vs := vs' } else e
  | [], x => rfl
  | p :: r, x => by
    have ih := chgE_val m vs' r x
    unfold chgE at ih ⊢
    rw [List.map_cons, valA_cons, valA_cons, ih]
    by_cases e : p.1 = x
    · rw [if_pos e, if_pos e]
      subst e
      rfl
    · rw [if_neg e, if_neg e]
def bndK (vs : Vars) (m : Str) (ks : List Key2) : List (Str × Vl) := ks.filterMap fun k => if k.1 = m then (valA vs k).map fun x => (k.2, x) else none
section
variable {K : PySem.W.Frag} {H H' : Hp} {d : Addr} {es : List (Str × SpE)}
/-- a new entry -/
theorem SpAt.new {m st : Str} {t dd : Addr} {mm : List (Key × V)} (x : SpAt K H d es) (hm : H d = some (.dK mm)) (r : MapR kS (SpR K H) mm es) (k : Keep [d] H H') (h : H' d = some (.dK (putK mm (kS m) (.ref t)))) (nm : valA es m = none) (ht : SqT K H t [.str st, .ref dd]) (hd : H dd = some (.dK [])) (ne : dd ≠ d) (nn : dd ∉ es.map (·.2.dd)) :
    SpAt K H' d (es ++ [(m, ⟨st, dd, []⟩)]) := by
  have nd := x.nd
  rw [List.nodup_cons] at nd
  have e : es ++ [(m, (⟨st, dd, []⟩ : SpE))] = putA es m ⟨st, dd, []⟩ := (putA_new (valA_none.mp nm)).symm
  refine ⟨⟨_, h, ?_⟩, ?_⟩
  · rw [e]
    have r2 : MapR kS (SpR K H') mm es := mapR_mem r fun v p hp z => z.mono k (by
      simp only [List.mem_singleton]
      exact fun z => nd.1 (by rw [← z]; exact List.mem_map_of_mem (f := (·.2.dd)) hp))
    exact r2.put kS_inj ⟨t, [], rfl, k.sqT ht, k.obj _ _ (by simpa using ne) hd, .nil⟩
  · rw [List.map_append, List.nodup_cons]
    refine ⟨fun z => ?_, ?_⟩
    · rcases List.mem_append.mp z with z | z
      · exact nd.1 z
      · have z : d = dd := by simpa using z
        exact ne z.symm
    · rw [List.nodup_append]
      refine ⟨nd.2, by simp, fun a ha b hb => ?_⟩
      have hb : b = dd := by simpa using hb
      rw [hb]
      exact fun z => nn (by rw [← z]; exact ha)
/-- an entry's dict changes -/
theorem SpAt.chg {m : Str} {e : SpE} {m2 : List (Key × V)} {vs' : List (Str × Vl)} (x : SpAt K H d es) (hv : valA es m = some e) (uq : (es.map (·.1)).Nodup) (k : Keep [e.dd] H H') (h : H' e.dd = some (.dK m2)) (r : MapR kS (fun v x => Im K H' v (Vl.d x)) m2 vs') : SpAt K H' d (chgE m vs' es) := by
  obtain ⟨mm, h1, h2⟩ := x.ex
  have nd := x.nd
  rw [List.nodup_cons] at nd
  have hm := valA_some hv
  refine ⟨⟨mm, k.obj _ _ (by simp only [List.mem_singleton]; exact fun z => nd.1 (by rw [z]; exact List.mem_map_of_mem (f := (·.2.dd)) hm)) h1, ?_⟩, by rw [chgE_dd]; exact x.nd⟩
  refine mapR_map (fun y (a : SpE) => if y = m then { a with vs := vs' } else a) h2 fun v p hp z => ?_
  obtain ⟨t, m3, rfl, z1, z2, z3⟩ := z
  by_cases em : p.1 = m
  · have ep : p.2 = e := by
      have := valA_mem uq (show (p.1, p.2) ∈ es from hp)
      rw [em, hv] at this
      exact (Option.some.inj this).symm
    simp only [em, if_true]
    exact ⟨t, m2, rfl, k.sqT z1, by rw [ep]; exact h, r⟩
  · simp only [em, if_false]
    have nn : p.2.dd ∉ [e.dd] := by
      simp only [List.mem_singleton]
      intro z
      obtain ⟨i, hi⟩ := List.getElem?_of_mem hp
      obtain ⟨j, hj⟩ := List.getElem?_of_mem hm
      have e1 : (es.map (·.2.dd))[i]? = some p.2.dd := by rw [List.getElem?_map, hi]; rfl
      have e2 : (es.map (·.2.dd))[j]? = some e.dd := by rw [List.getElem?_map, hj]; rfl
      have l1 := (List.getElem?_eq_some_iff.mp e1).1
      have hij : i = j := (List.getElem?_inj l1 nd.2).mp (by rw [e1, e2, z])
      subst hij
      rw [hi] at hj
      exact em (by rw [(Option.some.inj hj)])
    exact ⟨t, m3, rfl, k.sqT z1, k.obj _ _ nn z2, z3.mono fun v b i => i.mono k⟩
end
end M


namespace M
open PySem L2 L2H SlX
theorem bndK_snoc (vs : Vars) (m : Str) (ks : List Key2) (k : Key2) : bndK vs m (ks ++ [k]) = bndK vs m ks ++ (if k.1 = m then ((valA vs k).map fun x => (k.2, x)).toList else []) := by
  unfold bndK
  rw [List.filterMap_append]
  congr 1
  by_cases e : k.1 = m
  · rw [if_pos e, List.filterMap_cons, if_pos e]
    cases valA vs k <;> rfl
  · rw [if_neg e, List.filterMap_cons, if_neg e]
    rfl
theorem bndK_keys {vs : Vars} {m n : Str} {ks : List Key2} (h : n ∈ (bndK vs m ks).map (·.1)) : (m, n) ∈ ks := by
  obtain ⟨p, hp, rfl⟩ := List.mem_map.mp h
  unfold bndK at hp
  obtain ⟨k, hk, e⟩ := List.mem_filterMap.mp hp
  split at e
  · rename_i em
    cases ev : valA vs k with
    | none => rw [ev] at e; cases e
    | some x =>
      rw [ev] at e
      cases e
      rw [← em]
      exact hk
  · cases e
theorem bndK_nil {vs : Vars} {m : Str} {ks : List Key2} (h : ∀ k ∈ ks, k.1 ≠ m) : bndK vs m ks = [] := by
  unfold bndK
  rw [List.filterMap_eq_nil_iff]
  intro k hk
  rw [if_neg (h k hk)]
theorem bndK_some {vs : Vars} {m : Str} {ks : List Key2} (h : ∃ k ∈ ks, k.1 = m ∧ k ∈ vs.map (·.1)) : bndK vs m ks ≠ [] := by
  obtain ⟨k, hk, em, hm⟩ := h
  unfold bndK
  intro z
  rw [List.filterMap_eq_nil_iff] at z
  have := z k hk
  rw [if_pos em] at this
  cases ev : valA vs k with
  | none => exact absurd hm (valA_none.mp ev)
  | some x => rw [ev] at this; cases this
/-- the entries behind some keys -/
def Sp1 (w : Wd) (pre : List Key2) (es : List (Str × SpE)) : Prop := ∀ m, match valA es m with
  | some e => (∃ k ∈ pre, k.1 = m) ∧ e.st = told w m ∧ e.vs = bndK w.vs m pre
  | none => ∀ k ∈ pre, k.1 ≠ m
def Sp2 (w : Wd) (es : List (Str × SpE)) : Prop := ∀ m, match valA es m with
  | some e => e.st = told w m ∧ e.vs = bndK w.vs m (sortP2 (w.vs.map (·.1)))
  | none => told w m = "absent" ∧ bndK w.vs m (sortP2 (w.vs.map (·.1))) = []
/-- an outcome at a -/
structure OcAt (K : PySem.W.Frag) (H : Hp) (C a : Addr) (e : Str) (w : Wd) (t : List Plc) (es : List (Str × SpE)) (fp : List Addr) : Prop where
  ex : ∃ dx s1 s2 s3 d, fp = [a, dx, d] ∧ Slt H a C dx [some (.str e), some (.ref s2), some (.ref s1), some (.ref d), some (.ref s3)] ∧ H dx = some (.xd []) ∧ Im K H (.ref s1) (.tuple (w.shown.map Vl.d)) ∧ Im K H (.ref s2) (.tuple (w.ev.map evD)) ∧ Im K H (.ref s3) (.tuple (t.map plcD)) ∧ SpAt K H d es
  sp : Sp2 w es
  un : (es.map (·.1)).Nodup
  fu : ∀ m e, valA es m = some e → told w m ≠ "absent" ∨ e.vs ≠ []
theorem q_list {K : PySem.W.Frag} {σ : L2.St} {H : Hp} {tl : TE} {R : It → Hp → Prop} : iList K tl σ H R = tl σ H fun x H1 => ∃ a, x = .ref a ∧ (∃ xs, SqL K H1 a xs) ∧ R (Itl K a) H1 := rfl
def Sp1x (w : Wd) (pre : List Key2) (es : List (Str × SpE)) (m : Str) : Prop := ∀ m', m' ≠ m → match valA es m' with
  | some e => (∃ k ∈ pre, k.1 = m') ∧ e.st = told w m' ∧ e.vs = bndK w.vs m' pre
  | none => ∀ k ∈ pre, k.1 ≠ m'
theorem Sp1.add {w : Wd} {pre : List Key2} {es : List (Str × SpE)} {m n : Str} (h : Sp1x w pre es m) {x : Vl} {e : SpE} (hv : valA es m = some e) (hx : valA w.vs (m, n) = some x) (he : e.st = told w m) (heb : e.vs = bndK w.vs m pre) (nn : (m, n) ∉ pre) : Sp1 w (pre ++ [(m, n)]) (chgE m (putA e.vs n x) es) := by
  intro m'
  rw [chgE_val]
  by_cases em : m' = m
  · subst em
    rw [hv]
    simp only [Option.map_some, if_true]
    refine ⟨⟨(m', n), by simp, rfl⟩, he, ?_⟩
    rw [bndK_snoc, if_pos rfl, hx, heb]
    exact putA_new fun z => nn (bndK_keys z)
  · have hh := h m' em
    cases ev : valA es m' with
    | none =>
      rw [ev] at hh
      intro k hk
      rcases List.mem_append.mp hk with hk | hk
      · exact hh k hk
      · rw [List.mem_singleton.mp hk]; exact fun z => em z.symm
    | some e' =>
      rw [ev] at hh
      simp only [Option.map_some, em, if_false]
      obtain ⟨⟨k, hk, ek⟩, h2, h3⟩ := hh
      refine ⟨⟨k, List.mem_append_left _ hk, ek⟩, h2, ?_⟩
      rw [bndK_snoc, if_neg (fun z => em z.symm), List.append_nil]
      exact h3
theorem chgE_keys (m : Str) (vs' : List (Str × Vl)) (es : List (Str × SpE)) : (chgE m vs' es).map (·.1) = es.map (·.1) := by
  unfold chgE
  rw [List.map_map]
  rfl
theorem valA_append {es : List (Str × SpE)} {m x : Str} {e : SpE} (h : valA es m = none) : valA (es ++ [(m, e)]) x = if m = x then some e else valA es x := by
  rw [← putA_new (valA_none.mp h), valA_put]
def sp_World_outcome (K : PySem.W.Frag) (CW CO : Addr) : Sp := fun vs H Q _ => ∃ A w e t tv, vs = [.ref A.W, .str e, tv] ∧ WldAt K H CW A w ∧ Im K H tv (.tuple (t.map plcD)) ∧ w.vs.length < 64 ∧ (w.vs.map (·.1)).Nodup ∧ (w.st.map (·.1)).Nodup ∧ w.st.length < 1000 ∧
  ∀ a es fp H', OcAt K H' CO a e w t es fp → (∀ b ∈ fp ++ es.map (·.2.dd), H b = none) → Keep [] H H' → Q (.ref a) H'
end M


namespace M
open PySem L2 L2H SlX
def t_two (K : PySem.W.Frag) (CW CO : Addr) : TS := (tSeq (tLock (tFor (iKeys (tFld K (tVar 0) "statuses")) (gName 4) (tIfS (tAnd (tB (tOp rNotInD (tVar 4) (tVar 3))) (tTest (tOp (rNeX K) (tOp rIxD (tFld K (tVar 0) "statuses") (tVar 4)) (tC (.str "absent"))))) (tAsg (tTupN (tCons (tOp rIxD (tFld K (tVar 0) "statuses") (tVar 4)) (tCons tDNew tNil))) (gSub (tVar 3) (tVar 4) rSetD)) tNext)))
  (tRet (tMake CO (sp_Outcome___init__ K CO) [] E0 (tCons (tVar 1) (tCons (tFld K (tVar 0) "lines") (tCons (tFld K (tVar 0) "happened") (tCons (tVar 2) (tCons (tVar 3) tNil))))))))
theorem keep_lockS {S : List Addr} {H H2 : Hp} {d : Addr} {u : HO} {od : Obj} (h : H d = some u) (m : Mut (some u)) (k : Keep S (upd H d (.frz od u)) H2) : Keep S H (upd H2 d u) := by
  have ne : ∀ b v, b ≠ d → b ∉ S → H b = some v → upd H2 d u b = some v := fun b v n ns e => by
    rw [upd_ne n]
    exact k.obj _ _ ns (by rw [upd_ne n]; exact e)
  refine ⟨fun b v ns e => ?_, fun b xs e => ?_, fun b ob v e => ?_, fun b v e => ?_⟩
  · by_cases n : b = d
    · rw [n] at e ⊢
      rw [upd_same, ← h, e]
    · exact ne b v n ns e
  · have n : b ≠ d := fun n => by rw [n, h] at e; cases e; exact m
    rw [upd_ne n]
    exact k.tup _ _ (by rw [upd_ne n]; exact e)
  · have n : b ≠ d := fun n => by rw [n, h] at e; cases e; exact m
    rw [upd_ne n]
    exact k.frz _ _ _ (by rw [upd_ne n]; exact e)
  · by_cases n : b = d
    · rw [n]; exact ⟨u, upd_same⟩
    · rw [upd_ne n]
      exact k.dom b v (by rw [upd_ne n]; exact e)
theorem SpAt.unlock {K : PySem.W.Frag} {H : Hp} {d s : Addr} {u : HO} {od : Obj} {es : List (Str × SpE)} (x : SpAt K H d es) (h : H s = some (.frz od u)) (m : Mut (some u)) : SpAt K (upd H s u) d es := by
  have nb : ∀ b ∈ d :: es.map (·.2.dd), b ≠ s := fun b hb z => by
    obtain ⟨v, hv⟩ := x.isD b hb
    rw [z, h] at hv; cases hv
  obtain ⟨mm, h1, h2⟩ := x.ex
  refine ⟨⟨mm, by rw [upd_ne (nb _ List.mem_cons_self)]; exact h1, mapR_mem h2 fun v p hp z => ?_⟩, x.nd⟩
  obtain ⟨t, m2, rfl, z1, z2, z3⟩ := z
  exact ⟨t, m2, rfl, unlockT h m _ _ z1, by rw [upd_ne (nb _ (List.mem_cons_of_mem _ (List.mem_map_of_mem (f := (·.2.dd)) hp)))]; exact z2, z3.mono fun v b i => i.monoT (unlockT h m)⟩
/-- the entries behind the keys and some statuses -/
def Sp3 (w : Wd) (ps : List (Str × Str)) (es : List (Str × SpE)) : Prop := ∀ m, match valA es m with
  | some e => (e.st = told w m ∧ e.vs = bndK w.vs m (sortP2 (w.vs.map (·.1)))) ∧ (told w m ≠ "absent" ∨ e.vs ≠ [])
  | none => (∀ p ∈ ps, p.1 = m → p.2 = "absent") ∧ bndK w.vs m (sortP2 (w.vs.map (·.1))) = []
theorem outcome_two {K : PySem.W.Frag} {CW CO : Addr} (T : InsC K CW nmW) {A : WA} {w : Wd} {e : Str} {t : List Plc} {tv : V} {H H3 : Hp} {Q : VK} {d : Addr} {o4 o5 : Option V} {es : List (Str × SpE)} (x : WldAt K H CW A w) (it : Im K H tv (.tuple (t.map plcD))) (k3 : Keep [] H H3) (sp3 : SpAt K H3 d es) (un3 : (es.map (·.1)).Nodup)
    (s13 : Sp1 w (sortP2 (w.vs.map (·.1))) es) (fr3 : ∀ b ∈ d :: es.map (·.2.dd), H b = none) (le3 : es.length ≤ 64) (snd : (w.st.map (·.1)).Nodup) (l2 : w.st.length < 1000) (l1 : w.vs.length < 64)
    (q : ∀ a es fp H', OcAt K H' CO a e w t es fp → (∀ b ∈ fp ++ es.map (·.2.dd), H b = none) → Keep [] H H' → Q (.ref a) H') :
    t_two K CW CO { nx := fun _ H' => Q .non H', rt := Q } [some (.ref A.W), some (.str e), some tv, some (.ref d), o4, o5] H3 := by
  unfold t_two
  have sl := sl_eq
  have x3 := x.k0 k3
  have hW3 := x3.obj
  obtain ⟨n1, n2, n3, n4, n5, n6, n7, n8, n9, n0⟩ := x.ns
  obtain ⟨mS, hS, rS⟩ := x3.st
  have lks : w.st.take mS.length = w.st := by rw [rS.length]; exact List.take_length
  row_readAll go
  rw [q_lock]
  refine ⟨A.S, _, hS, True.intro, fun od => ?_⟩
  generalize eH0 : upd H3 A.S (.frz od (.dK mS)) = H0
  have kL : Keep [A.S] H3 H0 := by rw [← eH0]; exact lock_keep hS True.intro
  have hS0 : H0 A.S = some (.frz od (.dK mS)) := by rw [← eH0]; exact upd_same
  have hW0 : H0 A.W = some (.ins CW A.dx (wFs A w.left)) := kL.obj _ _ (by simp [n1]) hW3
  have hSH : ∃ u, H A.S = some u := by obtain ⟨m0, h0, _⟩ := x.st; exact ⟨_, h0⟩
  have sp0 : SpAt K H0 d es := sp3.keep kL fun b hb z => by
    rw [List.mem_singleton.mp z] at hb
    have := fr3 _ hb
    obtain ⟨u, hu⟩ := hSH
    rw [this] at hu; cases hu
  row_readAll go
  rw [q_keys]
  row_readAll go
  refine v_keysK hS0 ?_
  refine loop_gen mS.length (fun i σ' H' => ∃ (es' : List (Str × SpE)) (p4 p5 : Option V), σ' = [some (.ref A.W), some (.str e), some tv, some (.ref d), p4, p5] ∧ Keep [d] H0 H' ∧ SpAt K H' d es' ∧ (es'.map (·.1)).Nodup ∧ Sp3 w (w.st.take i) es' ∧ (∀ b ∈ d :: es'.map (·.2.dd), H b = none) ∧ es'.length ≤ 64 + i)
    ⟨es, o4, o5, rfl, Keep.refl _ _, sp0, un3, ?_, fr3, by omega⟩ (fun σ' H' ⟨es', p4, p5, _, k, _⟩ => ⟨k.frz _ _ _ hS0, Nat.le_refl _⟩) (fun i σ' H' hi ⟨es', p4, p5, _, k, _⟩ => ⟨k.frz _ _ _ hS0, hi⟩) ?_ ?_
  · intro m
    have hh := s13 m
    cases ev : valA es m with
    | none => rw [ev] at hh; exact ⟨fun p hp => by simp at hp, bndK_nil hh⟩
    | some e' =>
      rw [ev] at hh
      refine ⟨hh.2, .inr ?_⟩
      obtain ⟨⟨k, hk, ek⟩, _, h3⟩ := hh
      rw [h3]
      exact bndK_some ⟨k, hk, ek, sortO_mem.mp hk⟩
  · rintro i σ' H4 y H4' hi ⟨es', p4, p5, rfl, k4, sp4, un4, s34, fr4, le4⟩ ⟨rfl, k, v, hk, rfl⟩
    obtain ⟨m, st, hst, ek, ev⟩ := rS.get hk
    have ek : k = kS m := ek
    subst ek
    have ev : v = .str st := ev
    subst ev
    have et : w.st.take (i + 1) = w.st.take i ++ [(m, st)] := take_snoc hst
    have hil := get_lt hst
    have hv : valA w.st m = some st := valA_mem snd (List.mem_of_getElem? hst)
    have nWd : A.W ≠ d := fun z => by
      have hu := x.obj
      rw [z, fr4 d List.mem_cons_self] at hu
      cases hu
    have hW4 := k4.obj _ _ (by simpa using nWd) hW0
    have hS4 : H4' A.S = some (.frz od (.dK mS)) := k4.frz _ _ _ hS0
    have hvm : valV mS (.inr m) = some (.str st) := by
      rcases rS.val kS_inj m with ⟨_, z⟩ | ⟨v5, s5, a1, a2, a3⟩
      · rw [hv] at z; cases z
      · rw [hv] at a2; cases a2; rw [show valV mS (.inr m) = some v5 from a1, a3]
    have gS : ∀ {Hx : Hp} {Qx : VK}, Hx A.S = some (.frz od (.dK mS)) → Qx (.str st) Hx → rIxD (.ref A.S) (.str m) Hx Qx := fun hx hq => ⟨A.S, .str st, rfl, .inl ⟨mS, .inr m, .inr ⟨od, hx⟩, rfl, hvm.symm⟩, hq⟩
    obtain ⟨mm, hd4, rd4⟩ := sp4.ex
    have tl : told w m = st := by unfold told; rw [hv]; rfl
    row_readAll go
    refine v_ninD hd4 ?_
    have hh := s34 m
    have same : (valA es' m = none → st = "absent") → Sp3 w (w.st.take (i + 1)) es' := fun hn m' => by
      have h' := s34 m'
      cases ev' : valA es' m' with
      | some e' => rw [ev'] at h'; exact h'
      | none =>
        rw [ev'] at h'
        refine ⟨fun p hp e1 => ?_, h'.2⟩
        rw [et] at hp
        rcases List.mem_append.mp hp with hp | hp
        · exact h'.1 p hp e1
        · rw [List.mem_singleton.mp hp] at e1 ⊢
          have e1 : m = m' := e1
          subst e1
          exact hn ev'
    cases ev : valA es' m with
    | some e' =>
      have evV : (valV mm (.inr m)).isSome = true := by
        rcases rd4.val kS_inj m with ⟨_, z⟩ | ⟨v5, e5, a1, a2, a3⟩
        · rw [ev] at z; cases z
        · rw [show valV mm (.inr m) = some v5 from a1]; rfl
      rw [evV]
      row_readAll go
      exact ⟨es', _, _, rfl, k4, sp4, un4, same (fun z => by rw [ev] at z; cases z), fr4, by omega⟩
    | none =>
      rw [ev] at hh
      have evV : (valV mm (.inr m)).isSome = false := by
        rcases rd4.val kS_inj m with ⟨z, _⟩ | ⟨v5, e5, a1, a2, a3⟩
        · rw [show valV mm (.inr m) = none from z]; rfl
        · rw [ev] at a2; cases a2
      rw [evV]
      row_readAll go
      refine gS hS4 ?_
      row_readAll go
      by_cases ea : st = "absent"
      · rw [decide_eq_true ea]
        row_readAll go
        exact ⟨es', _, _, rfl, k4, sp4, un4, same (fun _ => ea), fr4, by omega⟩
      · rw [decide_eq_false ea]
        row_readAll go
        refine gS hS4 ?_
        row_readAll go
        refine v_dnew fun dd Ha fa ka ga => ?_
        row_readAll go
        refine v_mkN (by row_readAll ln) fun t' Hb fb kb gb => ?_
        row_readAll go
        have kab := ka.trans kb
        have hdb := kab.obj _ _ List.not_mem_nil hd4
        refine v_setD hdb (by have := rd4.length; omega) fun H5 kc gc => ?_
        row_readAll go
        have f0 : H0 dd = none := k4.free fa
        have fddH : H dd = none := k3.free (kL.free f0)
        have ddn : dd ∉ d :: es'.map (·.2.dd) := fun z => by
          obtain ⟨u, hu⟩ := sp4.isD dd z
          rw [fa] at hu; cases hu
        rw [List.mem_cons, not_or] at ddn
        have nme : m ∉ es'.map (·.1) := valA_none.mp ev
        refine ⟨es' ++ [(m, (⟨st, dd, []⟩ : SpE))], _, _, rfl, (k4.step0 kab).trans kc, (sp4.k0 kab).new hdb (mapR_mem rd4 fun v p hp z => z.mono kab List.not_mem_nil) kc gc ev (SqT.of gb) (kb.obj _ _ List.not_mem_nil ga) ddn.1 ddn.2, ?_, fun m' => ?_, fun b hb => ?_, ?_⟩
        · rw [List.map_append, List.nodup_append]
          refine ⟨un4, by simp, fun a ha b hb => ?_⟩
          have hb : b = m := by simpa using hb
          rw [hb]
          exact fun z => nme (by rw [← z]; exact ha)
        · rw [valA_append ev]
          by_cases em : m = m'
          · subst em
            rw [if_pos rfl]
            exact ⟨⟨tl.symm, hh.2.symm⟩, .inl (by rw [tl]; exact ea)⟩
          · rw [if_neg em]
            have h' := s34 m'
            cases ev' : valA es' m' with
            | some e' => rw [ev'] at h'; exact h'
            | none =>
              rw [ev'] at h'
              refine ⟨fun p hp e1 => ?_, h'.2⟩
              rw [et] at hp
              rcases List.mem_append.mp hp with hp | hp
              · exact h'.1 p hp e1
              · rw [List.mem_singleton.mp hp] at e1
                exact absurd e1 em
        · rw [List.map_append] at hb
          rcases List.mem_cons.mp hb with rfl | hb
          · exact fr4 _ List.mem_cons_self
          · rcases List.mem_append.mp hb with hb | hb
            · exact fr4 b (List.mem_cons_of_mem _ hb)
            · have hb : b = dd := by simpa using hb
              rw [hb]; exact fddH
        · rw [List.length_append]; simp only [List.length_cons, List.length_nil]; omega
  · rintro σ' H4 ⟨es', p4, p5, rfl, k4, sp4, un4, s34, fr4, le4⟩
    have hS4 := k4.frz _ _ _ hS0
    rw [← eH0] at k4
    have k5 := keep_lockS hS True.intro k4
    have sp5 := sp4.unlock hS4 True.intro
    refine ⟨hS4, ?_⟩
    generalize upd H4 A.S (.dK mS) = H5 at k5 sp5
    have k05 : Keep [] H H5 := k3.step1 k5 (fr4 d List.mem_cons_self)
    have x5 := x.k0 k05
    have hW5 := x5.obj
    obtain ⟨lsh, hL5, rL5⟩ := x5.sh
    obtain ⟨lev, hE5, rE5⟩ := x5.ev
    obtain ⟨ta, txs, rfl, ht, hta⟩ := it.of_tup
    rw [lks] at s34
    clear hW3 hW0 kL hS0 sp0 sp3 k4 sp4 hS4 eH0
    row_readAll go
    intro a dx fa fdx nad
    have kn : Keep [] H5 (upd (upd H5 dx (.own a)) a (.ins CO dx [])) := (Keep.new fdx).trans (Keep.new (by rw [upd_ne (Ne.symm nad)]; exact fa))
    have ha6 : upd (upd H5 dx (.own a)) a (.ins CO dx []) a = some (.ins CO dx []) := upd_same
    have hdx6 : upd (upd H5 dx (.own a)) a (.ins CO dx []) dx = some (.own a) := by rw [upd_ne nad]; exact upd_same
    generalize upd (upd H5 dx (.own a)) a (.ins CO dx []) = H6 at kn ha6 hdx6
    refine ⟨a, dx, e, A.L, A.E, ta, d, lsh, lev, txs, rfl, ha6, hdx6, nad, kn.obj _ _ List.not_mem_nil hL5, kn.obj _ _ List.not_mem_nil hE5, kn.sqT (k05.sqT ht), fun s1 s2 H7 g7 h1 h2 x7 k7 => ⟨rfl, ?_⟩⟩
    have faH : H a = none := k05.free fa
    have fdH : H dx = none := k05.free fdx
    have nsp : ∀ b ∈ d :: es'.map (·.2.dd), b ∉ [a, dx] := fun b hb z => by
      obtain ⟨u, hu⟩ := sp5.isD b hb
      simp only [List.mem_cons, List.not_mem_nil, or_false] at z
      rcases z with rfl | rfl
      · rw [fa] at hu; cases hu
      · rw [fdx] at hu; cases hu
    refine q a es' [a, dx, d] H7 ⟨⟨dx, s1, s2, ta, d, rfl, g7, x7, .tup h1 ((rL5.mono kn).mono k7), .tup h2 ((rE5.mono kn).mono k7), ((it.mono k05).mono kn).mono k7, (sp5.k0 kn).keep k7 nsp⟩, fun m => ?_, un4, fun m e' ev => ?_⟩ (fun b hb => ?_) ?_
    · have hh := s34 m
      cases ev : valA es' m with
      | some e' => rw [ev] at hh; exact hh.1
      | none =>
        rw [ev] at hh
        refine ⟨?_, hh.2⟩
        unfold told
        cases ev2 : valA w.st m with
        | none => rfl
        | some st => exact hh.1 _ (valA_some ev2) rfl
    · have hh := s34 m
      rw [ev] at hh
      exact hh.2
    · rcases List.mem_append.mp hb with hb | hb
      · simp only [List.mem_cons, List.not_mem_nil, or_false] at hb
        rcases hb with rfl | rfl | rfl
        · exact faH
        · exact fdH
        · exact fr4 _ List.mem_cons_self
      · exact fr4 b (List.mem_cons_of_mem _ hb)
    · exact (k05.trans kn).step k7 fun b hb => by
        simp only [List.mem_cons, List.not_mem_nil, or_false] at hb
        rcases hb with rfl | rfl
        · exact .inr faH
        · exact .inr fdH
end M


namespace M
open PySem L2 L2H SlX
def t_World_outcome (K : PySem.W.Frag) (CW CO : Addr) (E : XK) : TS := (tSeq (tAsg tDNew (gName 3))
  (tSeq (tFor (iList K (tCB rSortT (tCons (tFld K (tVar 0) "bindings") tNil))) (gTup K 2 (gCons (gName 4) (gCons (gName 5) gNil))) (tSeq (tIfS (tB (tOp rNotInD (tVar 4) (tVar 3))) (tAsg (tTupN (tCons (tMeth CW "told_status" (sp_World_told_status K CW) [] E0 (tVar 0) (tCons (tVar 4) tNil)) (tCons tDNew tNil))) (gSub (tVar 3) (tVar 4) rSetD)) tNext)
  (tAsg (tOp rIxD (tFld K (tVar 0) "bindings") (tTupN (tCons (tVar 4) (tCons (tVar 5) tNil)))) (gSub (tOp (rIx K) (tOp rIxD (tVar 3) (tVar 4)) (tC (.int 1))) (tVar 5) rSetD))))
  (tSeq (tLock (tFor (iKeys (tFld K (tVar 0) "statuses")) (gName 4) (tIfS (tAnd (tB (tOp rNotInD (tVar 4) (tVar 3))) (tTest (tOp (rNeX K) (tOp rIxD (tFld K (tVar 0) "statuses") (tVar 4)) (tC (.str "absent"))))) (tAsg (tTupN (tCons (tOp rIxD (tFld K (tVar 0) "statuses") (tVar 4)) (tCons tDNew tNil))) (gSub (tVar 3) (tVar 4) rSetD)) tNext)))
  (tRet (tMake CO (sp_Outcome___init__ K CO) [] E0 (tCons (tVar 1) (tCons (tFld K (tVar 0) "lines") (tCons (tFld K (tVar 0) "happened") (tCons (tVar 2) (tCons (tVar 3) tNil))))))))))
def n_World_outcome : List Str := ["self", "ending", "trail", "spaces", "module", "name"]
theorem pure_World_outcome {K : PySem.W.Frag} {CW CO : Addr} (T : InsC K CW nmW) {E0' : XK} (vs : List V) (H : Hp) (Q : VK) (E : XK) (h : sp_World_outcome K CW CO vs H Q E) : t_World_outcome K CW CO E0' { nx := fun _ H' => Q .non H', rt := Q } (start n_World_outcome vs) H := by
  obtain ⟨A, w, e, t, tv, rfl, x, it, l1, nd, snd, l2, q⟩ := h
  show t_World_outcome K CW CO _ _ [some (.ref A.W), some (.str e), some tv, none, none, none] H
  unfold t_World_outcome
  have sl := sl_eq
  have hW := x.obj
  row_readAll go
  refine v_dnew fun d H1 f1 k1 g1 => ?_
  have x1 := x.k0 k1
  have hW1 := x1.obj
  obtain ⟨mB, hB1, rB1⟩ := x1.vs
  row_readAll go
  rw [q_list]
  row_readAll go
  have rB0 : mB.map (·.1) = (w.vs.map (·.1)).map kT := by rw [rB1.keys, List.map_map]; rfl
  refine ⟨A.B, mB, w.vs.map (·.1), rfl, .inl hB1, rB0, by rw [List.length_map]; exact l1, fun l H2 bs f2 k2 g2 pb => ?_⟩
  refine ⟨l, rfl, ⟨_, SqL.of g2⟩, ?_⟩
  have x2 := x1.k0 k2
  have fd1 : H d = none := f1
  have hd2 : H2 d = some (.dK []) := k2.obj _ _ List.not_mem_nil g1
  have k12 := k1.trans k2
  obtain ⟨n1, n2, n3, n4, n5, n6, n7, n8, n9, n0⟩ := x.ns
  generalize eks : sortP2 (w.vs.map (·.1)) = ks at pb
  have ksn : ks.Nodup := by rw [← eks]; exact sortO_nodup nd
  have ksm : ∀ k ∈ ks, k ∈ w.vs.map (·.1) := fun k hk => by rw [← eks] at hk; exact sortO_mem.mp hk
  have lk : bs.length = ks.length := (Paired.length pb).symm
  have lks : ks.length = w.vs.length := by rw [← eks, sortO_len, List.length_map]
  -- what stands behind i keys
  refine loop_gen bs.length (fun i σ' H' => ∃ es o4 o5, σ' = [some (.ref A.W), some (.str e), some tv, some (.ref d), o4, o5] ∧ Keep [] H H' ∧ H' l = some (.lst (bs.map V.ref)) ∧ (∀ k b, PrA H2 k b → PrA H' k b) ∧ SpAt K H' d es ∧ (es.map (·.1)).Nodup ∧ Sp1 w (ks.take i) es ∧ (∀ b ∈ d :: es.map (·.2.dd), H b = none) ∧ es.length ≤ i)
    ⟨[], none, none, rfl, k12, g2, fun _ _ h => h, ⟨⟨[], hd2, .nil⟩, by simp⟩, by simp, fun m => (fun k hk => by simp at hk), fun b hb => by rw [List.mem_singleton.mp hb]; exact fd1, Nat.le_refl _⟩ (fun σ' H' ⟨es, o4, o5, _, _, hl, _⟩ => ⟨_, SqL.of hl, by simp⟩) (fun i σ' H' hi ⟨es, o4, o5, _, _, hl, _⟩ => ⟨bs.map V.ref, .ref bs[i], SqL.of hl, by rw [List.getElem?_map, List.getElem?_eq_getElem hi]; rfl⟩) ?_ ?_
  · rintro i σ' H3 y H3' hi ⟨es, o4, o5, rfl, k3, hl3, pr3, sp3, un3, s13, fr3, le3⟩ ⟨rfl, hy⟩
    have hy' := hy _ (SqL.of hl3)
    rw [List.getElem?_map, List.getElem?_eq_getElem hi] at hy'
    cases hy'
    have hik : i < ks.length := by omega
    obtain ⟨b', hb', pk⟩ := DX.pget pb (List.getElem?_eq_getElem hi)
    have pk' : PrA H3' b' bs[i] := pr3 _ _ pk
    obtain ⟨m, n⟩ := b'
    have ek : ks.take (i + 1) = ks.take i ++ [(m, n)] := take_snoc hb'
    have nn : (m, n) ∉ ks.take i := fun hm => by
      have z := split_at hb'
      rw [z, List.nodup_append] at ksn
      exact ksn.2.2 _ hm _ (by simp) rfl
    obtain ⟨vl, hvl⟩ : ∃ vl, valA w.vs (m, n) = some vl := by
      cases ev : valA w.vs (m, n) with
      | none => exact absurd (ksm _ (List.mem_of_getElem? hb')) (valA_none.mp ev)
      | some vl => exact ⟨vl, rfl⟩
    have x3 := x.k0 k3
    have hW3 := x3.obj
    refine v_tup2 (SqT.of pk') ?_
    row_readAll go
    obtain ⟨mm, hd3, rd3⟩ := sp3.ex
    refine v_ninD hd3 ?_
    cases ev : valA es m with
    | some e4 =>
      have hh := s13 m
      rw [ev] at hh
      have evV : (valV mm (.inr m)).isSome = true := by
        rcases rd3.val kS_inj m with ⟨_, z⟩ | ⟨v5, e5, a1, a2, a3⟩
        · rw [ev] at z; cases z
        · rw [show valV mm (.inr m) = some v5 from a1]; rfl
      rw [evV]
      row_readAll go
      have H4 := H3'
      obtain ⟨H4, hH4⟩ : ∃ H4, H4 = H3' := ⟨_, rfl⟩
      obtain ⟨es4, hes4⟩ : ∃ es4, es4 = es := ⟨_, rfl⟩
      rw [← hH4]
      have k4 : Keep [] H H4 := by rw [hH4]; exact k3
      have hl4 : H4 l = some (.lst (bs.map V.ref)) := by rw [hH4]; exact hl3
      have pr4 : ∀ k b, PrA H2 k b → PrA H4 k b := by rw [hH4]; exact pr3
      have sp4 : SpAt K H4 d es4 := by rw [hH4, hes4]; exact sp3
      have un4 : (es4.map (·.1)).Nodup := by rw [hes4]; exact un3
      have ev4 : valA es4 m = some e4 := by rw [hes4]; exact ev
      have he4 := hh.2.1
      have heb4 := hh.2.2
      have s14 : Sp1x w (ks.take i) es4 m := by rw [hes4]; exact fun m' _ => s13 m'
      have fr4 : ∀ b ∈ d :: es4.map (·.2.dd), H b = none := by rw [hes4]; exact fr3
      have le4 : es4.length ≤ i + 1 := by rw [hes4]; omega
      have x4 := x.k0 k4
      have hW4 := x4.obj
      obtain ⟨mB4, hB4, rB4⟩ := x4.vs
      row_readAll go
      refine v_mkN (by row_readAll ln) fun p5 H5 f5 k5 s5 => ?_
      rcases rB4.val kT_inj (m, n) with ⟨_, z⟩ | ⟨v', y', c1, c2, c3⟩
      · rw [hvl] at z; cases z
      · rw [hvl] at c2
        cases c2
        refine v_ixP (k := (m, n)) (.inl (k5.obj _ _ List.not_mem_nil hB4)) s5 c1 ?_
        have sp5 := sp4.k0 k5
        obtain ⟨mm5, hd5, rd5⟩ := sp5.ex
        rcases rd5.val kS_inj m with ⟨_, z⟩ | ⟨v5, e5, a1, a2, a3⟩
        · rw [ev4] at z; cases z
        · rw [ev4] at a2
          cases a2
          obtain ⟨t5, m5, rfl, b1, b2, b3⟩ := a3
          row_readAll go
          refine v_ixD hd5 a1 ?_
          row_readAll go
          have lm5 := b3.length
          have lb5 : e4.vs.length ≤ ks.length := by
            rw [heb4]
            unfold bndK
            exact Nat.le_trans (List.length_filterMap_le _ _) (by rw [List.length_take]; omega)
          refine v_setD b2 (by omega) fun H7 k7 g7 => ?_
          row_readAll go
          have fdd : H e4.dd = none := fr4 _ (List.mem_cons_of_mem _ (List.mem_map_of_mem (f := (·.2.dd)) (valA_some ev4)))
          have k57 : Keep [] H H7 := (k4.trans k5).step1 k7 fdd
          refine ⟨chgE m (putA e4.vs n vl) es4, _, _, rfl, k57, ?_, ?_, ?_, by rw [chgE_keys]; exact un4, ?_, by rw [chgE_dd]; exact fr4, by unfold chgE; rw [List.length_map]; exact le4⟩
          · exact k7.obj _ _ (by simp only [List.mem_singleton]; exact neq_of (k5.obj _ _ List.not_mem_nil hl4) b2 (fun z => nomatch z)) (k5.obj _ _ List.not_mem_nil hl4)
          · intro k b hb
            have := pr4 k b hb
            exact k7.tup _ _ (k5.tup _ _ this)
          · exact sp5.chg ev4 un4 k7 g7 ((b3.put kS_inj (c3.mono k5)).mono fun v b i => i.mono k7)
          · rw [ek]
            exact Sp1.add s14 ev4 hvl he4 heb4 nn
    | none =>
      have evV : (valV mm (.inr m)).isSome = false := by
        rcases rd3.val kS_inj m with ⟨z, _⟩ | ⟨v5, e5, a1, a2, a3⟩
        · rw [show valV mm (.inr m) = none from z]; rfl
        · rw [ev] at a2; cases a2
      have hh := s13 m
      rw [ev] at hh
      rw [evV]
      row_readAll go
      refine v_meth hW3 (by rfl) ?_
      row_readAll go
      refine ⟨A, w, m, rfl, x3, ?_⟩
      row_readAll go
      refine v_dnew fun dd Ha fa ka ga => ?_
      row_readAll go
      refine v_mkN (by row_readAll ln) fun t Hb fb kb gb => ?_
      row_readAll go
      have kab := ka.trans kb
      have hdb := kab.obj _ _ List.not_mem_nil hd3
      refine v_setD hdb (by have := rd3.length; omega) fun H4 kc gc => ?_
      have fddH : H dd = none := k3.free fa
      have ddn : dd ∉ d :: es.map (·.2.dd) := fun z => by
        obtain ⟨u, hu⟩ := sp3.isD dd z
        rw [fa] at hu; cases hu
      rw [List.mem_cons, not_or] at ddn
      obtain ⟨es4, hes4⟩ : ∃ es4, es4 = es ++ [(m, (⟨told w m, dd, []⟩ : SpE))] := ⟨_, rfl⟩
      have sp4 : SpAt K H4 d es4 := by
        rw [hes4]
        exact (sp3.k0 kab).new hdb (mapR_mem rd3 fun v p hp z => z.mono kab List.not_mem_nil) kc gc ev (SqT.of gb) (kb.obj _ _ List.not_mem_nil ga) ddn.1 ddn.2
      have k4 : Keep [] H H4 := (k3.trans kab).step1 kc fd1
      have hl4 : H4 l = some (.lst (bs.map V.ref)) := kc.obj _ _ (by simp only [List.mem_singleton]; exact neq_of hl3 hd3 (fun z => nomatch z)) (kab.obj _ _ List.not_mem_nil hl3)
      have pr4 : ∀ k b, PrA H2 k b → PrA H4 k b := fun k b hb => kc.tup _ _ (kab.tup _ _ (pr3 k b hb))
      have nme : m ∉ es.map (·.1) := valA_none.mp ev
      have un4 : (es4.map (·.1)).Nodup := by
        rw [hes4, List.map_append, List.nodup_append]
        refine ⟨un3, by simp, fun a ha b hb => ?_⟩
        have hb : b = m := by simpa using hb
        rw [hb]
        exact fun z => nme (by rw [← z]; exact ha)
      obtain ⟨e4, he4'⟩ : ∃ e4 : SpE, e4 = ⟨told w m, dd, []⟩ := ⟨_, rfl⟩
      have ev4 : valA es4 m = some e4 := by rw [hes4, valA_append ev, if_pos rfl, he4']
      have he4 : e4.st = told w m := by rw [he4']
      have heb4 : e4.vs = bndK w.vs m (ks.take i) := by rw [he4', bndK_nil hh]
      have s14 : Sp1x w (ks.take i) es4 m := fun m' hm' => by
        rw [hes4, valA_append ev, if_neg (fun z => hm' z.symm)]
        exact s13 m'
      have fr4 : ∀ b ∈ d :: es4.map (·.2.dd), H b = none := fun b hb => by
        rw [hes4, List.map_append] at hb
        rcases List.mem_cons.mp hb with rfl | hb
        · exact fd1
        · rcases List.mem_append.mp hb with hb | hb
          · exact fr3 b (List.mem_cons_of_mem _ hb)
          · have hb : b = dd := by simpa using hb
            rw [hb]; exact fddH
      have le4 : es4.length ≤ i + 1 := by rw [hes4, List.length_append]; simp only [List.length_cons, List.length_nil]; omega
      have x4 := x.k0 k4
      have hW4 := x4.obj
      obtain ⟨mB4, hB4, rB4⟩ := x4.vs
      row_readAll go
      refine v_mkN (by row_readAll ln) fun p5 H5 f5 k5 s5 => ?_
      rcases rB4.val kT_inj (m, n) with ⟨_, z⟩ | ⟨v', y', c1, c2, c3⟩
      · rw [hvl] at z; cases z
      · rw [hvl] at c2
        cases c2
        refine v_ixP (k := (m, n)) (.inl (k5.obj _ _ List.not_mem_nil hB4)) s5 c1 ?_
        have sp5 := sp4.k0 k5
        obtain ⟨mm5, hd5, rd5⟩ := sp5.ex
        rcases rd5.val kS_inj m with ⟨_, z⟩ | ⟨v5, e5, a1, a2, a3⟩
        · rw [ev4] at z; cases z
        · rw [ev4] at a2
          cases a2
          obtain ⟨t5, m5, rfl, b1, b2, b3⟩ := a3
          row_readAll go
          refine v_ixD hd5 a1 ?_
          row_readAll go
          have lm5 := b3.length
          have lb5 : e4.vs.length ≤ ks.length := by
            rw [heb4]
            unfold bndK
            exact Nat.le_trans (List.length_filterMap_le _ _) (by rw [List.length_take]; omega)
          refine v_setD b2 (by omega) fun H7 k7 g7 => ?_
          row_readAll go
          have fdd : H e4.dd = none := fr4 _ (List.mem_cons_of_mem _ (List.mem_map_of_mem (f := (·.2.dd)) (valA_some ev4)))
          have k57 : Keep [] H H7 := (k4.trans k5).step1 k7 fdd
          refine ⟨chgE m (putA e4.vs n vl) es4, _, _, rfl, k57, ?_, ?_, ?_, by rw [chgE_keys]; exact un4, ?_, by rw [chgE_dd]; exact fr4, by unfold chgE; rw [List.length_map]; exact le4⟩
          · exact k7.obj _ _ (by simp only [List.mem_singleton]; exact neq_of (k5.obj _ _ List.not_mem_nil hl4) b2 (fun z => nomatch z)) (k5.obj _ _ List.not_mem_nil hl4)
          · intro k b hb
            have := pr4 k b hb
            exact k7.tup _ _ (k5.tup _ _ this)
          · exact sp5.chg ev4 un4 k7 g7 ((b3.put kS_inj (c3.mono k5)).mono fun v b i => i.mono k7)
          · rw [ek]
            exact Sp1.add s14 ev4 hvl he4 heb4 nn
  · rintro σ' H3 ⟨es, o4, o5, rfl, k3, hl3, pr3, sp3, un3, s13, fr3, le3⟩
    rw [lk, List.take_length] at s13
    rw [← eks] at s13
    exact outcome_two T x it k3 sp3 un3 s13 fr3 (by omega) snd l2 l1 q
end M


namespace M
open PySem L2 L2H SlX
/-! ### what an outcome tells -/
theorem OcAt.keep {K : PySem.W.Frag} {H H' : Hp} {C a : Addr} {e : Str} {w : Wd} {t : List Plc} {es : List (Str × SpE)} {fp S : List Addr} (x : OcAt K H C a e w t es fp) (k : Keep S H H') (n : ∀ b ∈ fp ++ es.map (·.2.dd), b ∉ S) : OcAt K H' C a e w t es fp := by
  obtain ⟨dx, s1, s2, s3, d, rfl, h1, h2, h3, h4, h5, h6⟩ := x.ex
  have n1 : a ∉ S := n a (by simp)
  have n2 : dx ∉ S := n dx (by simp)
  refine ⟨⟨dx, s1, s2, s3, d, rfl, Slt.keep (b := .own 0) h1 k n1 n2, k.obj _ _ n2 h2, h3.mono k, h4.mono k, h5.mono k, h6.keep k fun b hb => n b ?_⟩, x.sp, x.un, x.fu⟩
  rcases List.mem_cons.mp hb with rfl | hb
  · simp
  · exact List.mem_append_right _ hb
theorem OcAt.k0 {K : PySem.W.Frag} {H H' : Hp} {C a : Addr} {e : Str} {w : Wd} {t : List Plc} {es : List (Str × SpE)} {fp : List Addr} (x : OcAt K H C a e w t es fp) (k : Keep [] H H') : OcAt K H' C a e w t es fp := x.keep k fun _ _ => List.not_mem_nil
def sp_Outcome_status (K : PySem.W.Frag) (C : Addr) : Sp := fun vs H Q _ => ∃ a m e w t es fp, vs = [.ref a, .str m] ∧ OcAt K H C a e w t es fp ∧ Q (.str (told w m)) H
def t_Outcome_status (K : PySem.W.Frag)  : TS := (tRet (tIf (tB (tOp rInD (tVar 1) (SlX.tSl K (tVar 0) "own_spaces"))) (tOp (rIx K) (tOp rIxD (SlX.tSl K (tVar 0) "own_spaces") (tVar 1)) (tC (.int 0))) (tC (.str "absent"))))
def n_Outcome_status : List Str := ["self", "module"]
theorem pure_Outcome_status {K : PySem.W.Frag} {C p1 p2 p3 p4 p5 : Addr} (T : OutC K C p1 p2 p3 p4 p5) (vs : List V) (H : Hp) (Q : VK) (E : XK) (h : sp_Outcome_status K C vs H Q E) : t_Outcome_status K { nx := fun _ H' => Q .non H', rt := Q } (start n_Outcome_status vs) H := by
  obtain ⟨a, m, e, w, t, es, fp, rfl, x, q⟩ := h
  show t_Outcome_status K _ [some (.ref a), some (.str m)] H
  unfold t_Outcome_status
  obtain ⟨dx, s1, s2, s3, d, rfl, h1, h2, h3, h4, h5, h6⟩ := x.ex
  obtain ⟨mm, hd, rd⟩ := h6.ex
  have hh := x.sp m
  row_readAll go
  refine ⟨a, C, dx, p5, _, _, _, rfl, h1, T.c, T.s5, rfl, ?_⟩
  refine v_inD hd ?_
  rcases rd.val kS_inj m with ⟨z1, z2⟩ | ⟨v5, e5, a1, a2, a3⟩
  · rw [show valV mm (.inr m) = none from z1]
    rw [z2] at hh
    simp only [Option.isSome_none]
    row_readAll go
    rw [hh.1] at q
    exact q
  · rw [show valV mm (.inr m) = some v5 from a1]
    rw [a2] at hh
    simp only [Option.isSome_some]
    row_readAll go
    refine ⟨a, C, dx, p5, _, _, _, rfl, h1, T.c, T.s5, rfl, ?_⟩
    obtain ⟨tt, m2, rfl, b1, b2, b3⟩ := a3
    refine v_ixD hd a1 ?_
    refine v_ixT b1 (by rfl) ?_
    rw [hh.1]
    exact q
def sp_Outcome_bound (K : PySem.W.Frag) (C : Addr) : Sp := fun vs H Q _ => ∃ a m e w t es fp, vs = [.ref a, .str m] ∧ OcAt K H C a e w t es fp ∧
  ∀ p m2 H', H p = none → Keep [] H H' → H' p = some (.dK m2) → MapR kS (fun v x => Im K H' v (Vl.d x)) m2 (bndK w.vs m (sortP2 (w.vs.map (·.1)))) → Q (.ref p) H'
def t_Outcome_bound (K : PySem.W.Frag)  : TS := (tRet (tIf (tB (tOp rInD (tVar 1) (SlX.tSl K (tVar 0) "own_spaces"))) (tCB rDictOf (tCons (tOp (rIx K) (tOp rIxD (SlX.tSl K (tVar 0) "own_spaces") (tVar 1)) (tC (.int 1))) tNil)) tDNew))
def n_Outcome_bound : List Str := ["self", "module"]
theorem pure_Outcome_bound {K : PySem.W.Frag} {C p1 p2 p3 p4 p5 : Addr} (T : OutC K C p1 p2 p3 p4 p5) (vs : List V) (H : Hp) (Q : VK) (E : XK) (h : sp_Outcome_bound K C vs H Q E) : t_Outcome_bound K { nx := fun _ H' => Q .non H', rt := Q } (start n_Outcome_bound vs) H := by
  obtain ⟨a, m, e, w, t, es, fp, rfl, x, q⟩ := h
  show t_Outcome_bound K _ [some (.ref a), some (.str m)] H
  unfold t_Outcome_bound
  obtain ⟨dx, s1, s2, s3, d, rfl, h1, h2, h3, h4, h5, h6⟩ := x.ex
  obtain ⟨mm, hd, rd⟩ := h6.ex
  have hh := x.sp m
  row_readAll go
  refine ⟨a, C, dx, p5, _, _, _, rfl, h1, T.c, T.s5, rfl, ?_⟩
  refine v_inD hd ?_
  rcases rd.val kS_inj m with ⟨z1, z2⟩ | ⟨v5, e5, a1, a2, a3⟩
  · rw [show valV mm (.inr m) = none from z1]
    rw [z2] at hh
    simp only [Option.isSome_none]
    row_readAll go
    refine v_dnew fun p H1 f1 k1 g1 => q p [] H1 f1 k1 g1 ?_
    rw [hh.2]
    exact .nil
  · rw [show valV mm (.inr m) = some v5 from a1]
    rw [a2] at hh
    simp only [Option.isSome_some]
    row_readAll go
    refine ⟨a, C, dx, p5, _, _, _, rfl, h1, T.c, T.s5, rfl, ?_⟩
    obtain ⟨tt, m2, rfl, b1, b2, b3⟩ := a3
    refine v_ixD hd a1 ?_
    refine v_ixT b1 (by rfl) ?_
    refine ⟨e5.dd, m2, rfl, .inl b2, fun p H1 f1 k1 g1 => q p m2 H1 f1 k1 g1 ?_⟩
    rw [← hh.2]
    exact b3.mono fun v b i => i.mono k1
end M


namespace M
open PySem L2 L2H SlX
/-! ### seen; a new interpreter; limits -/
def sp_Outcome_seen (K : PySem.W.Frag) (C : Addr) : Sp := fun vs H Q _ => ∃ a e w t es fp, vs = [.ref a] ∧ OcAt K H C a e w t es fp ∧
  ∀ p H', Keep [] H H' → Im K H' (.ref p) (.tuple [.str e, .tuple (w.shown.map Vl.d), .tuple (w.ev.map evD), .tuple (t.map plcD)]) → Q (.ref p) H'
def t_Outcome_seen (K : PySem.W.Frag)  : TS := (tRet (tTupX K (tCons (SlX.tSl K (tVar 0) "own_ending") (tCons (SlX.tSl K (tVar 0) "own_shown") (tCons (SlX.tSl K (tVar 0) "own_events") (tCons (SlX.tSl K (tVar 0) "own_trail") tNil))))))
def n_Outcome_seen : List Str := ["self"]
theorem pure_Outcome_seen {K : PySem.W.Frag} {C p1 p2 p3 p4 p5 : Addr} (T : OutC K C p1 p2 p3 p4 p5) (vs : List V) (H : Hp) (Q : VK) (E : XK) (h : sp_Outcome_seen K C vs H Q E) : t_Outcome_seen K { nx := fun _ H' => Q .non H', rt := Q } (start n_Outcome_seen vs) H := by
  obtain ⟨a, e, w, t, es, fp, rfl, x, q⟩ := h
  show t_Outcome_seen K _ [some (.ref a)] H
  unfold t_Outcome_seen
  obtain ⟨dx, s1, s2, s3, d, rfl, h1, h2, h3, h4, h5, h6⟩ := x.ex
  row_readAll go
  refine ⟨a, C, dx, p1, _, _, _, rfl, h1, T.c, T.s1, rfl, ?_⟩
  refine ⟨a, C, dx, p2, _, _, _, rfl, h1, T.c, T.s2, rfl, ?_⟩
  refine ⟨a, C, dx, p3, _, _, _, rfl, h1, T.c, T.s3, rfl, ?_⟩
  refine ⟨a, C, dx, p4, _, _, _, rfl, h1, T.c, T.s4, rfl, ?_⟩
  refine v_mkT (by row_readAll ln) fun p H1 f1 k1 g1 => ?_
  exact q p H1 k1 (.tup g1 (.cons (.str e) (.cons (h3.mono k1) (.cons (h4.mono k1) (.cons (h5.mono k1) .nil)))))
def sp_check_limit (K : PySem.W.Frag) : Sp := fun vs H Q _ => ∃ n : Nat, vs = [.int n] ∧ n ≤ 30 ∧ Q .non H
def t_check_limit (K : PySem.W.Frag)  : TS := (tIfS (tOr (tNot (tB (tCall (sp_is_integer K) [] E0 (tCons (tVar 0) tNil)))) (tNot (tTest (tChain rLeI rLeI (tC (.int 0)) (tVar 0) (tC (.int 30)))))) tNever tNext)
def n_check_limit : List Str := ["limit"]
theorem pure_check_limit {K : PySem.W.Frag} (vs : List V) (H : Hp) (Q : VK) (E : XK) (h : sp_check_limit K vs H Q E) : t_check_limit K { nx := fun _ H' => Q .non H', rt := Q } (start n_check_limit vs) H := by
  obtain ⟨n, rfl, hn, q⟩ := h
  show t_check_limit K _ [some (.int n)] H
  unfold t_check_limit
  row_readAll go
  have e1 : decide ((0 : Int) ≤ (n : Nat)) = true := decide_eq_true (by omega)
  have e2 : decide (((n : Nat) : Int) ≤ 30) = true := decide_eq_true (by omega)
  rw [e1, e2]
  row_readAll go
  exact q
theorem PrgAt.isS {K : PySem.W.Frag} {H : Hp} {C a : Addr} {P : Prg} {fp : List Addr} (x : PrgAt K H C a P fp) : ∀ b ∈ fp, ∃ u, H b = some u := by
  obtain ⟨dx, nl, d, rfl, h1, h2, h3, m, h4, _⟩ := x.ex
  intro b hb
  simp only [List.mem_cons, List.not_mem_nil, or_false] at hb
  rcases hb with rfl | rfl | rfl | rfl
  · rcases h1 with ⟨h, _⟩ | ⟨h, _⟩
    · exact ⟨_, h⟩
    · exact ⟨_, h⟩
  · exact ⟨_, h2⟩
  · exact ⟨_, h3⟩
  · exact ⟨_, h4⟩
def sp_Interpreter___init__ (K : PySem.W.Frag) (c : CA) : Sp := fun vs H Q _ => ∃ I dI prg P pf, ∃ n : Nat, vs = [.ref I, .ref prg, .int n] ∧ H I = some (.ins c.CI dI []) ∧ PrgAt K H c.CP prg P pf ∧ I ∉ pf ∧
  ∀ A H', IntAt K H' c A P ⟨n, [], [], [], []⟩ [] → A.I = I → (∀ b ∈ A.fx, H b = none) → Keep [I] H H' → Q .non H'
def t_Interpreter___init__ (K : PySem.W.Frag) (CW : Addr) : TS := (tSeq (sFld K (tVar 0) (tVar 1) "own_program")
  (tSeq (sFld K (tVar 0) (tMake CW (sp_World___init__ K CW) [] E0 (tCons (tVar 2) tNil)) "world")
  (sFld K (tVar 0) (tLstX tNil) "under")))
def n_Interpreter___init__ : List Str := ["self", "program", "limit"]
theorem pure_Interpreter___init__ {K : PySem.W.Frag} {c : CA} (T : CC K c) (vs : List V) (H : Hp) (Q : VK) (E : XK) (h : sp_Interpreter___init__ K c vs H Q E) : t_Interpreter___init__ K c.CW { nx := fun _ H' => Q .non H', rt := Q } (start n_Interpreter___init__ vs) H := by
  obtain ⟨I, dI, prg, P, pf, n, rfl, hI, xp, nI, q⟩ := h
  show t_Interpreter___init__ K c.CW _ [some (.ref I), some (.ref prg), some (.int n)] H
  unfold t_Interpreter___init__
  have TI := T.i
  row_readAll go
  refine v_put hI TI (by decide +kernel) (by simp) fun H1 k1 g1 => ?_
  replace g1 : H1 I = some (.ins c.CI dI [("own_program", .ref prg)]) := g1
  row_readAll go
  intro W dW fW fdW nWd
  have kn : Keep [] H1 (upd (upd H1 dW (.own W)) W (.ins c.CW dW [])) := (Keep.new fdW).trans (Keep.new (by rw [upd_ne (Ne.symm nWd)]; exact fW))
  have hW2 : upd (upd H1 dW (.own W)) W (.ins c.CW dW []) W = some (.ins c.CW dW []) := upd_same
  generalize upd (upd H1 dW (.own W)) W (.ins c.CW dW []) = H2 at kn hW2
  refine ⟨W, dW, n, rfl, hW2, fun A H3 xw eW edx fr k3 => ⟨rfl, ?_⟩⟩
  have nIW : I ≠ W := fun z => by rw [← z, g1] at fW; cases fW
  have g3 := k3.obj _ _ (by simpa using nIW) (kn.obj _ _ List.not_mem_nil g1)
  refine v_put g3 TI (by decide +kernel) (by simp) fun H4 k4 g4 => ?_
  replace g4 : H4 I = some (.ins c.CI dI [("own_program", .ref prg), ("world", .ref W)]) := g4
  row_readAll go
  refine v_mkL (by simp) fun U H5 f5 k5 g5 => ?_
  refine v_put (k5.obj _ _ List.not_mem_nil g4) TI (by decide +kernel) (by simp) fun H6 k6 g6 => ?_
  row_readAll go
  have hU : H6 U = some (.lst []) := k6.obj _ _ (by
    simp only [List.mem_singleton]
    exact fun z => by rw [z, g4] at f5; cases f5) g5
  have nIfp : ∀ b ∈ A.fp, b ∉ [I] := fun b hb z => by
    have z : b = I := by simpa using z
    rw [z] at hb
    simp only [WA.fp, List.mem_cons, List.not_mem_nil, or_false] at hb
    have g2 := kn.obj _ _ List.not_mem_nil g1
    rcases hb with e | e | e | e | e
    · exact nIW (e.trans eW)
    · have := fr I (by rw [e]; simp)
      rw [g2] at this; cases this
    · have := fr I (by rw [e]; simp)
      rw [g2] at this; cases this
    · have := fr I (by rw [e]; simp)
      rw [g2] at this; cases this
    · have := fr I (by rw [e]; simp)
      rw [g2] at this; cases this
  have x4 := xw.keep k4 nIfp
  have x6 := (x4.k0 k5).keep k6 nIfp
  obtain ⟨lL, hL4, _⟩ := x4.sh
  obtain ⟨lE, hE4, _⟩ := x4.ev
  have uL : U ≠ A.L := fun z => by rw [z, hL4] at f5; cases f5
  have uE : U ≠ A.E := fun z => by rw [z, hE4] at f5; cases f5
  have xp1 := xp.keep k1 fun b hb z => nI (by rw [← List.mem_singleton.mp z]; exact hb)
  have xp3 := (xp1.k0 kn).keep k3 fun b hb z => by
    obtain ⟨u, hu⟩ := xp1.isS b hb
    rw [List.mem_singleton.mp z, fW] at hu
    cases hu
  have xp6 := ((xp3.keep k4 fun b hb z => nI (by rw [← List.mem_singleton.mp z]; exact hb)).k0 k5).keep k6 fun b hb z => nI (by rw [← List.mem_singleton.mp z]; exact hb)
  have fWH : H W = none := k1.free fW
  have frH : ∀ b ∈ [A.S, A.B, A.L, A.E], H b = none := fun b hb => k1.free (kn.free (fr b hb))
  have fUH : H U = none := k1.free (kn.free (k3.free (k4.free f5)))
  have fxH : ∀ b ∈ (⟨I, dI, U, prg, pf, A⟩ : IA).fx, H b = none := fun b hb => by
    simp only [IA.fx, List.mem_cons, List.not_mem_nil, or_false] at hb
    rcases hb with rfl | rfl | rfl | rfl | rfl | rfl
    · rw [eW]; exact fWH
    · exact frH _ (by simp)
    · exact frH _ (by simp)
    · exact frH _ (by simp)
    · exact frH _ (by simp)
    · exact fUH
  refine q ⟨I, dI, U, prg, pf, A⟩ H6 ⟨?_, x6, ⟨[], hU, .nil⟩, xp6, ⟨uL, uE, by rw [eW]; exact nIW⟩, fun b hb z => ?_⟩ rfl fxH ?_
  · rw [g6]
    show _ = some (HO.ins c.CI dI [("own_program", .ref prg), ("world", .ref A.W), ("under", .ref U)])
    rw [eW]
    rfl
  · obtain ⟨u, hu⟩ := xp.isS b hb
    rw [fxH b z] at hu
    cases hu
  · exact (((((k1.step0 kn).step1 k3 fWH).trans k4).step0 k5).trans k6)
end M


namespace M
open PySem L2 L2H
theorem Keep.one {S : List Addr} {a : Addr} {H H1 : Hp} (k : Keep [a] H H1) (h : a ∈ S) : Keep S H H1 := k.mono fun b hb => by rw [List.mem_singleton.mp hb]; exact h
abbrev koT (T : List Plc) : List Plc → Prop := fun un => un = T
abbrev keT (T : List Plc) : List Plc → Prop := fun un => ∃ q, un = T ++ q
def callR (F : Fb) (g : GoFn) (T : List Plc) (x : Vl) (w : Wd) : Option Rs := match x with
  | .fn fm fp => if w.left = 0 then some (.stop T w) else (match F fm with
    | none => none
    | some b0 => (match blkAt b0 fp with
      | none => none
      | some b => g T fm (fp ++ [0]) b { w with left := w.left - 1 }))
  | _ => some (.err "kind" T w)
theorem v_tup3 {K : PySem.W.Frag} {σ : L2.St} {H : Hp} {R : L2.St → Hp → Prop} {a : Addr} {x y z : V} {i j k : Nat} (h : SqT K H a [x, y, z]) (q : R (((σ.set i (some x)).set j (some y)).set k (some z)) H) : gTup K 3 (gCons (gName i) (gCons (gName j) (gCons (gName k) gNil))) (.ref a) σ H R :=
  ⟨a, [x, y, z], rfl, h, rfl, x, [y, z], rfl, y, [z], rfl, z, [], rfl, rfl, q⟩
theorem lower_some {F : Fb} {n k : Nat} {u : List Plc} {m : Str} {base : Pth} {b : List Stm} {w : Wd} {r : Rs} (h : lower (Go F) n k u m base b w = some r) : k ≤ n ∧ Go F (n - k) u m base b w = some r := by
  unfold lower at h
  split at h
  · exact ⟨by assumption, h⟩
  · cases h
/-- go, at k units of fuel less -/
def sp_goL (K : PySem.W.Frag) (c : CA) (n k : Nat) : Sp := fun vs H Q E => k ≤ n ∧ sp_Interpreter_go K c (n - k) vs H Q E
def sp_Interpreter_call (K : PySem.W.Frag) (c : CA) (n : Nat) : Sp := fun vs H Q E => ∃ A P w T v x l r, vs = [.ref A.I, v] ∧ IntAt K H c A P w T ∧ Im K H v (Vl.d x) ∧ VlOk (valA P) x ∧ Pre P w 0 l ∧ T.length ≤ l + 1 ∧ callR (valA P) (lower (Go (valA P)) n 3) T x w = some r ∧ OutN K c A P H (koT T) (keT T) Q E r
def t_Interpreter_call (K : PySem.W.Frag) (c : CA) (sp : Sp) (W : WX) : TS := (tSeq (tIfS (tOr (tB (tCall (sp_is_integer K) [] E0 (tCons (tVar 1) tNil))) (tTest (tOp (rNeX K) (tOp (rIx K) (tVar 1) (tC (.int 0))) (tC (.str "function"))))) (tDrop (L2H.tMethH c.CI "refuse" (sp_Interpreter_refuse K c) (WE W) (tVar 0) (tCons (tC (.str "kind")) tNil))) tNext)
  (tSeq (tDrop (L2H.tMethH c.CI "take_block" (sp_Interpreter_take_block K c) (WE W) (tVar 0) tNil))
  (tSeq (tAsg (tVar 1) (gTup K 3 (gCons (gName 2) (gCons (gName 3) (gCons (gName 4) gNil)))))
  (tSeq (tDrop (tBM K "list" rAppend (tFld K (tVar 0) "under") (tCons (tTupN (tCons (tVar 3) (tCons (tVar 4) tNil))) tNil)))
  (tSeq (tDrop (L2H.tMethH c.CI "go" sp (WE W) (tVar 0) (tCons (tVar 3) (tCons (tOp (rAdd K) (tVar 4) (tTupX K (tCons (tC (.int 0)) tNil))) (tCons (L2H.tMethH c.CI "block_of" (sp_Interpreter_block_of K c) (WE W) (tVar 0) (tCons (tVar 3) (tCons (tVar 4) tNil))) tNil)))))
  (tDrop (tBM0 K "list" rPop (tFld K (tVar 0) "under"))))))))
def n_Interpreter_call : List Str := ["self", "value", "word", "module", "path"]
theorem pure_Interpreter_call {K : PySem.W.Frag} {c : CA} (T0 : CC K c) {n : Nat} (vs : List V) (H : Hp) (Q : VK) (E : XK) (h : sp_Interpreter_call K c n vs H Q E) : t_Interpreter_call K c (sp_goL K c n 3) (w0 E) { nx := fun _ H' => Q .non H', rt := Q } (start n_Interpreter_call vs) H := by
  obtain ⟨A, P, w, T, v, x, l, r, rfl, xI, iv, vo, pre, lT, er, o⟩ := h
  show t_Interpreter_call K c _ _ _ [some (.ref A.I), some v, none, none, none] H
  unfold t_Interpreter_call
  have TI := T0.i
  have hI := xI.obj
  have sl := sl_eq
  cases x with
  | int i =>
    cases iv.of_int
    cases er
    row_readAll go
    refine v_meth hI (by rfl) ?_
    row_readAll go
    exact ⟨A, P, w, T, _, rfl, xI, o.fe xI ⟨[], by simp⟩⟩
  | md m =>
    obtain ⟨a, rfl, hs⟩ := Im.md iv
    simp only [Vl.d] at iv
    cases er
    row_readAll go
    refine v_meth hI (by rfl) ?_
    row_readAll go
    exact ⟨A, P, w, T, _, rfl, xI, o.fe xI ⟨[], by simp⟩⟩
  | fn m p =>
    obtain ⟨a, pv, rfl, hs, ip⟩ := Im.fnv iv
    simp only [Vl.d] at iv
    obtain ⟨b0, b, f0, f1⟩ := vo
    simp only [callR, f0, f1] at er
    row_readAll go
    refine v_meth hI (by rfl) ?_
    row_readAll go
    refine ⟨A, P, w, T, rfl, xI, fun e => ?_, fun e H1 x1 k1 => ?_⟩
    · rw [if_pos e] at er
      cases er
      exact o.se xI ⟨[], by simp⟩
    rw [if_neg e] at er
    obtain ⟨hk, er⟩ := lower_some er
    have hI1 := x1.obj
    row_readAll go
    refine v_tup3 (k1.sqT hs) ?_
    row_readAll go
    obtain ⟨lU, hU, rU⟩ := x1.und
    refine v_tyL hU ?_
    row_readAll go
    refine v_mkN (by row_readAll ln) fun q2 H2 f2 k2 s2 => ?_
    have lu : lU.length ≤ 61 := by
      have := rU.length
      rw [List.length_map] at this
      have := pre.un
      omega
    refine v_append (k2.obj _ _ List.not_mem_nil hU) (by omega) fun H3 k3 g3 => ?_
    obtain ⟨pa, pxs, rfl, _, _⟩ := ip.of_tup
    have ip3 := ((ip.mono k1).mono k2).mono k3
    have x3 : IntAt K H3 c A P { w with left := w.left - 1 } (T ++ [(m, p)]) := (x1.k0 k2).toU k3 g3 (by
      rw [List.map_append]
      exact ((rU.mono k2).mono k3).append (.cons (im_plc (SqT.of (k3.tup _ _ s2)) ip3) .nil))
    have hI3 := x3.obj
    obtain ⟨lp1, lp2, _, _⟩ := blkIn_le (blkAt_in f1)
    obtain ⟨ms, ns, gf, gw⟩ := pre.ex
    have gb := gf.blk m b0 f0
    rw [List.length_append] at lp1
    simp only [List.length_cons, List.length_nil] at lp1
    row_readAll go
    refine v_meth hI3 (by rfl) ?_
    row_readAll go
    refine v_mkT (by row_readAll ln) fun q4 H4 f4 k4 s4 => ?_
    refine v_path (ip3.mono k4) s4 (by omega) fun q5 H5 k5 i5 => ?_
    have k35 := k4.trans k5
    have x5 := x3.k0 k35
    row_readAll go
    refine v_meth x5.obj (by rfl) ?_
    row_readAll go
    refine ⟨A, P, _, _, m, _, p, b0, b, rfl, x5, ip3.mono k35, f0, f1, by omega, fun bv ib => ?_⟩
    row_readAll go
    have kA : Keep A.fx H H5 := (((k1.one (by simp [IA.fx])).step0 k2).trans (k3.one (by simp [IA.fx]))).step0 k35
    have ph := pre.ph
    have pu := pre.un
    refine ⟨hk, A, P, _, T, (m, p), m, p ++ [0], b0, b, _, bv, r, rfl, x5, i5, ib, ⟨⟨ms, ns, gf, gw.v, gw.st, gw.snd, gw.sh, gw.ev⟩, ?_, ?_⟩, f0, blkAt_in f1, er, ?_⟩
    · unfold phi at ph ⊢
      simp only
      have : 3 * cntL b ≤ 180 := by omega
      omega
    · simp only
      omega
    · have o5 := o.at (Sm.refl A H) kA
      cases r with
      | err kk t w1 => exact fun A' H' un' d pv x ⟨z, q, h⟩ s' k' fd hd i => o5 A' H' un' d pv x ⟨z :: q, h⟩ s' k' fd hd i
      | stop t w1 => exact fun A' H' un' d pv x ⟨z, q, h⟩ s' k' fd hd i => o5 A' H' un' d pv x ⟨z :: q, h⟩ s' k' fd hd i
      | ok w1 =>
        rintro A6 H6 un6 x6 ⟨y6, rfl⟩ s6 k6
        have eI : A6.I = A.I := by rw [s6.1]
        have hI6 := x6.obj
        rw [eI] at hI6
        obtain ⟨l6, hU6, rU6⟩ := x6.und
        rw [List.map_append] at rU6
        obtain ⟨l1, l2, rfl, r1, r2⟩ := rU6.split
        obtain ⟨zl, r0, rfl, r2, r0h⟩ := r2.of_cons
        cases r0h.of_nil
        row_readAll go
        refine v_tyL hU6 ?_
        refine v_pop hU6 fun H7 k7 g7 => ?_
        row_readAll go
        refine o5 A6 H7 T (x6.toU k7 g7 (r1.mono k7)) rfl (s6.trans k6 (Sm.refl A6 H6)) ?_
        exact k6.sm s6 (k7.one (by simp [IA.fx]))
end M


namespace M
open PySem L2 L2H
theorem IntAt.toWB {K : PySem.W.Frag} {H H' : Hp} {c : CA} {A : IA} {P : Prg} {w w' : Wd} {un : List Plc} {S : List Addr} {B' : Addr} (x : IntAt K H c A P w un) (k : Keep S H H') (hS : ∀ b ∈ S, b ∈ A.w.fp) (fB : H B' = none) (xw : WldAt K H' c.CW { A.w with B := B' } w') :
    IntAt K H' c { A with w := { A.w with B := B' } } P w' un := by
  obtain ⟨nI, u1, u2, u3, u4, u5⟩ := x.ns
  have hS' : ∀ b ∈ S, b ∈ A.fx := fun b hb => fp_fx (hS b hb)
  obtain ⟨l5, h5, r5⟩ := x.und
  have nU : A.U ∉ S := fun z => x.nU (hS _ z)
  refine ⟨k.obj _ _ (fun z => nI (hS' _ z)) x.obj, xw, ⟨l5, k.obj _ _ nU h5, r5.mono k⟩, x.prg.keep k (x.pfx hS'), x.ne, fun b hb z => ?_⟩
  have hz := x.pfd b hb
  have hb' : b ≠ B' := fun e => by
    obtain ⟨dx, nl, d, ef, hslt, h2, h3, m, h4, _⟩ := x.prg.ex
    have hb2 : b ∈ [A.prg, dx, nl, d] := by rw [← ef]; exact hb
    rw [← e] at fB
    simp only [List.mem_cons, List.not_mem_nil, or_false] at hb2
    rcases hb2 with e3 | e3 | e3 | e3 <;> rw [e3] at fB
    · rcases hslt with ⟨h, _⟩ | ⟨h, _⟩ <;> (rw [fB] at h; cases h)
    · rw [fB] at h2; cases h2
    · rw [fB] at h3; cases h3
    · rw [fB] at h4; cases h4
  simp only [IA.fx, List.mem_cons, List.not_mem_nil, or_false, not_or] at z hz
  rcases z with z | z | z | z | z | z
  · exact hz.1 z
  · exact hz.2.1 z
  · exact hb' z
  · exact hz.2.2.2.1 z
  · exact hz.2.2.2.2.1 z
  · exact hz.2.2.2.2.2 z
def sp_Interpreter_load (K : PySem.W.Frag) (c : CA) (n : Nat) : Sp := fun vs H Q E => ∃ A P w T m l r, vs = [.ref A.I, .str m] ∧ IntAt K H c A P w T ∧ Pre P w 1 l ∧ T.length ≤ l + 1 ∧ ldM (valA P) (lower (Go (valA P)) n 3) T m w = some r ∧ OutN K c A P H (koT T) (keT T) Q E r
def t_Interpreter_load (K : PySem.W.Frag) (c : CA) (sp : Sp) (W : WX) : TS := (tSeq (tIfS (tTest (tOp (rNotInO c.CP (sp_Program___contains__ K c.CP) E0) (tVar 1) (tFld K (tVar 0) "own_program"))) (tDrop (L2H.tMethH c.CI "refuse" (sp_Interpreter_refuse K c) (WE W) (tVar 0) (tCons (tC (.str "absent")) tNil))) tNext)
  (tSeq (tIfS (tB (tMeth c.CW "meet" (sp_World_meet K c.CW) [] E0 (tFld K (tVar 0) "world") (tCons (tVar 1) tNil))) tRetN tNext)
  (tSeq (tDrop (L2H.tMethH c.CI "take_block" (sp_Interpreter_take_block K c) (WE W) (tVar 0) tNil))
  (tSeq (tDrop (tMeth c.CW "enter" (sp_World_enter K c.CW) [] E0 (tFld K (tVar 0) "world") (tCons (tVar 1) tNil)))
  (tSeq (tDrop (tBM K "list" rAppend (tFld K (tVar 0) "under") (tCons (tTupN (tCons (tVar 1) (tCons (tTupX K tNil) tNil))) tNil)))
  (tSeq (fun D σ H => (fun W : WX => (tDrop (L2H.tMethH c.CI "go" sp (WE W) (tVar 0) (tCons (tVar 1) (tCons (tTupX K tNil) (tCons (tOp (rIxO c.CP (sp_Program___getitem__ K c.CP) E0) (tFld K (tVar 0) "own_program") (tVar 1)) tNil)))))) ((wOnlyR K (.ref c.CF) (fun a cls d => (tSeq (tDrop (tMeth c.CW "fail" (sp_World_fail K c.CW) [] E0 (tFld K (tVar 0) "world") (tCons (tVar 1) tNil)))
  (fun _ σ H => W cls d σ H))) (fun _ => W)) D) D σ H)
  (tSeq (tDrop (tBM0 K "list" rPop (tFld K (tVar 0) "under")))
  (tDrop (tMeth c.CW "leave" (sp_World_leave K c.CW) [] E0 (tFld K (tVar 0) "world") (tCons (tVar 1) tNil))))))))))
def n_Interpreter_load : List Str := ["self", "module"]
theorem pure_Interpreter_load {K : PySem.W.Frag} {c : CA} (T0 : CC K c) {n : Nat} (vs : List V) (H : Hp) (Q : VK) (E : XK) (h : sp_Interpreter_load K c n vs H Q E) : t_Interpreter_load K c (sp_goL K c n 3) (w0 E) { nx := fun _ H' => Q .non H', rt := Q } (start n_Interpreter_load vs) H := by
  obtain ⟨A, P, w, T, m, l, r, rfl, xI, pre, lT, er, o⟩ := h
  show t_Interpreter_load K c _ _ _ [some (.ref A.I), some (.str m)] H
  unfold t_Interpreter_load
  have TI := T0.i
  have TW := T0.w
  have hI := xI.obj
  have hW := xI.wld.obj
  have sl := sl_eq
  obtain ⟨sz1, sz2, sz3, sz4, sz5⟩ := pre.sz
  obtain ⟨dxp, nlp, dp, ef, hslt, _, _, _⟩ := xI.prg.ex
  unfold ldM at er
  row_readAll go
  refine ⟨A.prg, dxp, _, rfl, hslt, A.prg, m, P, A.pf, rfl, xI.prg, _, rfl, ?_⟩
  cases e0 : valA P m with
  | none =>
    rw [e0] at er
    cases er
    simp only [Option.isSome_none, Bool.not_false]
    row_readAll go
    refine v_meth hI (by rfl) ?_
    row_readAll go
    exact ⟨A, P, w, T, _, rfl, xI, o.fe xI ⟨[], by simp⟩⟩
  | some b =>
    rw [e0] at er
    simp only at er
    simp only [Option.isSome_some, Bool.not_true]
    row_readAll go
    refine v_meth hW (by rfl) ?_
    row_readAll go
    refine ⟨A.w, w, m, rfl, xI.wld, by omega, fun ea => ?_, fun ea H1 x1 k1 => ?_⟩
    · -- it begins
      rw [if_neg (by simpa using ea)] at er
      row_readAll go
      refine v_meth hI (by rfl) ?_
      row_readAll go
      refine ⟨A, P, w, T, rfl, xI, fun e => ?_, fun e H1 x1 k1 => ?_⟩
      · rw [if_pos e] at er
        cases er
        exact o.se xI ⟨[], by simp⟩
      rw [if_neg e] at er
      have hI1 := x1.obj
      have hW1 := x1.wld.obj
      row_readAll go
      refine v_meth hW1 (by rfl) ?_
      row_readAll go
      refine ⟨A.w, _, m, rfl, x1.wld, by simp only; omega, by simp only; omega, fun H2 xw2 k2 => ?_⟩
      have x2 := x1.toW k2 (fun b hb => by simp only [List.mem_cons, List.not_mem_nil, or_false] at hb; rcases hb with rfl | rfl <;> simp [WA.fp]) xw2
      have hI2 := x2.obj
      row_readAll go
      obtain ⟨lU, hU, rU⟩ := x2.und
      refine v_tyL hU ?_
      row_readAll go
      refine v_mkT (by simp) fun q3 H3 f3 k3 s3 => ?_
      row_readAll go
      refine v_mkN (by row_readAll ln) fun q4 H4 f4 k4 s4 => ?_
      have lu : lU.length ≤ 61 := by
        have := rU.length
        rw [List.length_map] at this
        have := pre.un
        omega
      refine v_append ((k3.trans k4).obj _ _ List.not_mem_nil hU) (by omega) fun H5 k5 g5 => ?_
      have ip5 : Im K H5 (.ref q3) (pathD []) := .tup (k5.sqT (k4.sqT s3)) .nil
      have x5 : IntAt K H5 c A P (entered m w) (T ++ [(m, [])]) := ((x2.k0 k3).k0 k4).toU k5 g5 (by
        rw [List.map_append]
        exact (((rU.mono k3).mono k4).mono k5).append (.cons (im_plc (SqT.of (k5.tup _ _ s4)) ip5) .nil))
      have hI5 := x5.obj
      obtain ⟨ms, ns, gf, gw⟩ := pre.ex
      have gb := gf.blk m b e0
      cases eg : lower (Go (valA P)) n 3 T m [] b (entered m w) with
      | none => rw [eg] at er; cases er
      | some r2 =>
        rw [eg] at er
        obtain rfl : ldEnd m r2 = r := Option.some.inj er
        obtain ⟨hk, eg⟩ := lower_some eg
        row_readAll go
        refine v_meth hI5 (by rfl) ?_
        row_readAll go
        refine v_mkT (by simp) fun q6 H6 f6 k6 s6 => ?_
        have x6 := x5.k0 k6
        have hI6 := x6.obj
        row_readAll go
        obtain ⟨dxp, nlp, dp, ef, hslt6, _, _, _⟩ := x6.prg.ex
        refine ⟨A.prg, dxp, _, rfl, hslt6, A.prg, m, P, A.pf, b, rfl, x6.prg, e0, fun bv ib => ?_⟩
        have kA : Keep A.fx H H6 := (((((k1.one (by simp [IA.fx])).trans (k2.mono fun b hb => by simp only [List.mem_cons, List.not_mem_nil, or_false] at hb; rcases hb with rfl | rfl <;> simp [IA.fx])).step0 k3).step0 k4).trans (k5.one (by simp [IA.fx]))).step0 k6
        have ph := pre.ph
        have pu := pre.un
        have ge : GoodW ms ns (valA P) (entered m w) := ⟨gw.v, (gw.sts gb.1).1, (gw.sts gb.1).2, gw.sh, gw.evs ⟨gb.1, by simp⟩⟩
        have pp := Go_post gf (n - 3) T m [] b (entered m w) b r2 e0 rfl ge eg
        have pre6 : Pre P (entered m w) (cntL b) T.length := by
          refine ⟨⟨ms, ns, gf, ge⟩, ?_, ?_⟩
          · unfold phi at ph ⊢
            simp only [entered, List.length_append, List.length_cons, List.length_nil]
            have : 3 * cntL b ≤ 180 := by omega
            omega
          · simp only [entered]
            omega
        row_readAll go
        refine ⟨hk, A, P, _, T, (m, []), m, [], b, b, _, bv, r2, rfl, x6, .tup s6 .nil, ib, pre6, e0, rfl, eg, ?_⟩
        have o6 := o.at (Sm.refl A H) kA
        have p1 := pp.ph
        have p2 := pp.good
        have p3 := pre6.ph
        cases r2 with
        | stop t w1 =>
          rintro A7 H7 un7 d pv x7 ⟨z, q, h⟩ s7 k7 fd hd i
          exact ⟨false, T0.sf, (fun z => nomatch z), fun _ => o6 A7 H7 un7 d pv x7 ⟨z :: q, h⟩ s7 k7 fd hd i⟩
        | err kk t w1 =>
          rintro A7 H7 un7 d pv x7 ⟨z, q, h⟩ s7 k7 fd hd i
          refine ⟨true, T0.ff, fun _ a fa => ?_, (fun z => nomatch z)⟩
          have eI : A7.I = A.I := by rw [s7.1]
          have hI7 := x7.obj
          rw [eI] at hI7
          have hW7 := x7.wld.obj
          have pre7 : Pre P w1 0 0 := ⟨⟨ms, ns, gf, p2⟩, by simp only [Rs.w] at p1; omega, by have := pp.le; simp only [Rs.w, entered] at this; omega⟩
          obtain ⟨z1, z2, z3, z4, z5⟩ := pre7.sz
          row_readAll go
          refine v_meth hW7 (by rfl) ?_
          row_readAll go
          refine ⟨A7.w, w1, m, rfl, x7.wld, by omega, by omega, by omega, z4, fun B8 H8 xw8 fB8 k8 => ?_⟩
          row_readAll go
          have hS8 : ∀ b ∈ [A7.w.S, A7.w.W, A7.w.E], b ∈ A7.w.fp := fun b hb => by simp only [List.mem_cons, List.not_mem_nil, or_false] at hb; rcases hb with rfl | rfl | rfl <;> simp [WA.fp]
          have x8 := x7.toWB k8 hS8 fB8 xw8
          obtain ⟨mS, hS, _⟩ := x7.wld.st
          obtain ⟨lE, hE, _⟩ := x7.wld.ev
          have nd : d ∉ [A7.w.S, A7.w.W, A7.w.E] := by
            simp only [List.mem_cons, List.not_mem_nil, or_false, not_or]
            exact ⟨neq_of hd hS (fun z => nomatch z), neq_of hd hW7 (fun z => nomatch z), neq_of hd hE (fun z => nomatch z)⟩
          exact o6 _ H8 un7 d pv x8 ⟨z :: q, h⟩ (s7.trans k7 ⟨rfl, .inr fB8⟩) (k7.sm s7 (k8.mono fun b hb => fp_fx (hS8 b hb))) fd (k8.obj _ _ nd hd) (i.mono k8)
        | ok w1 =>
          rintro A7 H7 un7 x7 ⟨y7, rfl⟩ s7 k7
          have eI : A7.I = A.I := by rw [s7.1]
          have hI7 := x7.obj
          rw [eI] at hI7
          obtain ⟨l6, hU6, rU6⟩ := x7.und
          rw [List.map_append] at rU6
          obtain ⟨l1, l2, rfl, r1, r2⟩ := rU6.split
          obtain ⟨zl, r0, rfl, r2, r0h⟩ := r2.of_cons
          cases r0h.of_nil
          row_readAll go
          refine v_tyL hU6 ?_
          refine v_pop hU6 fun H8 k8 g8 => ?_
          have x8 := x7.toU k8 g8 (r1.mono k8)
          have hI8 := x8.obj
          rw [eI] at hI8
          have hW8 := x8.wld.obj
          row_readAll go
          refine v_meth hW8 (by rfl) ?_
          row_readAll go
          have pre7 : Pre P w1 0 0 := ⟨⟨ms, ns, gf, p2⟩, by simp only [Rs.w] at p1; omega, by have := pp.le; simp only [Rs.w, entered] at this; omega⟩
          obtain ⟨z1, z2, z3, z4, z5⟩ := pre7.sz
          refine ⟨A7.w, w1, m, rfl, x8.wld, by omega, by omega, fun H9 xw9 k9 => ?_⟩
          row_readAll go
          have hS9 : ∀ b ∈ [A7.w.S, A7.w.E], b ∈ A7.w.fp := fun b hb => by simp only [List.mem_cons, List.not_mem_nil, or_false] at hb; rcases hb with rfl | rfl <;> simp [WA.fp]
          exact o6 A7 H9 T (x8.toW k9 hS9 xw9) rfl (s7.trans k7 (Sm.refl A7 H7)) (k7.sm s7 ((k8.one (by simp [IA.fx])).trans (k9.mono fun b hb => fp_fx (hS9 b hb))))
    · rw [if_pos ea] at er
      cases er
      row_readAll go
      exact o A H1 T (xI.toW k1 (fun b hb => by rw [List.mem_singleton.mp hb]; simp [WA.fp]) x1) rfl (Sm.refl A H) (k1.one (by simp [IA.fx]))
end M


namespace M
open PySem L2 L2H
def triR (g : GoFn) (u : List Plc) (m : Str) (path : Pth) (k : Str) (b h : List Stm) (w : Wd) : Option Rs := match g u m (path ++ [0]) b w with
  | some (.err e t w') => if k = "any" ∨ k = e then g u m (path ++ [1]) h w' else some (.err e t w')
  | r => r
theorem q_delF {to te : TE} {D : Ends} {σ : L2.St} {H : Hp} : tDelF to te D σ H = to σ H fun x H1 => te σ H1 fun y H2 => ∃ i, y = .int i ∧ ∃ (l : Addr) (xs : List V) (a : Nat), some i = some (a : Int) ∧ x = .ref l ∧ H2 l = some (.lst xs) ∧ a ≤ xs.length ∧ D.nx σ (upd H2 l (.lst (xs.take a))) := rfl
theorem q_xf {a C : Addr} {cls : Value} {d : Option Addr} {f : Str} {te : TE} {σ : L2.St} {H : Hp} {Q : VK} : tXf a cls d C f te σ H Q = te σ H fun x H1 => x = .ref a ∧ cls = .ref C ∧ ∃ (dd : Addr) (fs : List (Str × V)) (v : V), d = some dd ∧ H1 dd = some (.xd fs) ∧ fs.lookup f = some v ∧ Q v H1 := rfl
def sp_Interpreter_attempt (K : PySem.W.Frag) (c : CA) (n : Nat) : Sp := fun vs H Q E => ∃ A P w u y m base i b0 b k bb hh pv v r, vs = [.ref A.I, .str m, pv, v] ∧ IntAt K H c A P w (u ++ [y]) ∧ Im K H pv (pathD (base ++ [i])) ∧ Im K H v (Stm.d (.tri k bb hh)) ∧ Pre P w (Stm.cnt (.tri k bb hh)) u.length ∧
  valA P m = some b0 ∧ blkIn b0 base = some b ∧ b[i]? = some (.tri k bb hh) ∧ triR (lower (Go (valA P)) n 3) u m (base ++ [i]) k bb hh w = some r ∧ OutN K c A P H (koG u) (keG u) Q E r
def t_Interpreter_attempt (K : PySem.W.Frag) (c : CA) (sp : Sp) (W : WX) : TS := (tSeq (tAsg (tCB (rLen K) (tCons (tFld K (tVar 0) "under") tNil)) (gName 4))
  (tSeq (fun D σ H => (fun W : WX => (tSeq (tDrop (L2H.tMethH c.CI "go" sp (WE W) (tVar 0) (tCons (tVar 1) (tCons (tOp (rAdd K) (tVar 2) (tTupX K (tCons (tC (.int 0)) tNil))) (tCons (tOp (rIx K) (tVar 3) (tC (.int 2))) tNil)))))
  tRetN)) ((wAsR K (.ref c.CF) 5 (fun a cls d => (tIfS (tTest (tOp (rNotInX K) (tOp (rIx K) (tVar 3) (tC (.int 1))) (tTupX K (tCons (tC (.str "any")) (tCons (tXf a cls d c.CF "kind" (tVar 5)) tNil))))) (fun _ σ H => W cls d (σ.set 5 none) H) tNext)) (fun _ => W)) D) D σ H)
  (tSeq (tDelF (tFld K (tVar 0) "under") (tVar 4))
  (tDrop (L2H.tMethH c.CI "go" sp (WE W) (tVar 0) (tCons (tVar 1) (tCons (tOp (rAdd K) (tVar 2) (tTupX K (tCons (tC (.int 1)) tNil))) (tCons (tOp (rIx K) (tVar 3) (tC (.int 3))) tNil))))))))
def n_Interpreter_attempt : List Str := ["self", "module", "path", "statement", "depth", "failure"]
theorem pure_Interpreter_attempt {K : PySem.W.Frag} {c : CA} (T0 : CC K c) {n : Nat} (vs : List V) (H : Hp) (Q : VK) (E : XK) (h : sp_Interpreter_attempt K c n vs H Q E) : t_Interpreter_attempt K c (sp_goL K c n 3) (w0 E) { nx := fun _ H' => Q .non H', rt := Q } (start n_Interpreter_attempt vs) H := by
  obtain ⟨A, P, w, u, y, m, base, i, b0, b, k, bb, hh, pv, v, r, rfl, x, ip, iv, pre, e0, eb, es, er, o⟩ := h
  show t_Interpreter_attempt K c _ _ _ [some (.ref A.I), some (.str m), some pv, some v, none, none] H
  unfold t_Interpreter_attempt
  have TI := T0.i
  have hI := x.obj
  have sl := sl_eq
  obtain ⟨pa, pxs, rfl, _, _⟩ := ip.of_tup
  obtain ⟨va, xs, rfl, hs, hv⟩ := iv.stm
  obtain ⟨v2, v3, rfl, i2, i3⟩ := hv
  obtain ⟨lU, hU, rU⟩ := x.und
  have lu : lU.length = u.length + 1 := by have := rU.length; rw [List.length_map, List.length_append] at this; simpa using this
  obtain ⟨ms, ns, gf, gw⟩ := pre.ex
  obtain ⟨lb1, lb2, _, _⟩ := blkIn_le eb
  have dp := (gf.blk m b0 e0).2.2.2.1
  row_readAll go
  refine v_lenL (SqL.of hU) ?_
  row_readAll go
  refine v_meth hI (by rfl) ?_
  row_readAll go
  refine v_mkT (by row_readAll ln) fun q1 H1 f1 k1 s1 => ?_
  refine v_path (i := 0) (ip.mono k1) s1 (by rw [List.length_append]; simp only [List.length_cons, List.length_nil]; omega) fun q2 H2 k2 j2 => ?_
  have k12 := k1.trans k2
  have x2 := x.k0 k12
  have cn : cntL bb + cntL hh + 1 ≤ (Stm.tri k bb hh).cnt := by simp only [Stm.cnt]; omega
  have bl0 : blkIn b0 (base ++ [i] ++ [0]) = some bb := blkIn_sub eb es (k := 0) rfl
  have bl1 : blkIn b0 (base ++ [i] ++ [1]) = some hh := blkIn_sub eb es (k := 1) rfl
  have ph := pre.ph
  have pu := pre.un
  unfold triR at er
  row_readAll go
  cases eg : lower (Go (valA P)) n 3 u m (base ++ [i] ++ [0]) bb w with
  | none => rw [eg] at er; cases er
  | some r1 =>
    rw [eg] at er
    obtain ⟨hk, eg⟩ := lower_some eg
    have pp := Go_post gf (n - 3) u m _ bb w b0 r1 e0 bl0 gw eg
    have o2 := o.k0 k12
    refine ⟨hk, A, P, w, u, y, m, _, b0, bb, _, v2, r1, rfl, x2, j2, i2.mono k12, ⟨pre.ex, by omega, pu⟩, e0, bl0, eg, ?_⟩
    cases r1 with
    | ok w1 =>
      cases er
      rintro A3 H3 un3 x3 h3 s3 k3
      row_readAll go
      exact o2 A3 H3 un3 x3 h3 s3 k3
    | stop t w1 =>
      cases er
      rintro A3 H3 un3 d pv3 x3 h3 s3 k3 fd hd i3'
      exact ⟨false, T0.sf, (fun z => nomatch z), fun _ => o2 A3 H3 un3 d pv3 x3 h3 s3 k3 fd hd i3'⟩
    | err kk t w1 =>
      rintro A3 H3 un3 d pv3 x3 ⟨y3, q3, rfl⟩ s3 k3 fd hd i3'
      refine ⟨true, T0.ff, fun _ a fa => ?_, (fun z => nomatch z)⟩
      have eI : A3.I = A.I := by rw [s3.1]
      have hs3 := k3.sqT (k12.sqT hs)
      row_readAll go
      rw [q_xf]
      row_readAll go
      refine ⟨d, _, .str kk, rfl, hd, by rfl, ?_⟩
      row_readAll go
      refine v_mkT (by row_readAll ln) fun q4 H4 f4 k4 s4 => ?_
      refine v_ninT (l := [("any" : Str), kk]) s4 ?_
      simp only at er
      by_cases e : k = "any" ∨ k = kk
      · rw [if_pos e] at er
        have em : decide (k ∈ ([("any" : Str), kk] : List Str)) = true := by simpa using e
        rw [em]
        row_readAll go
        rw [q_delF]
        have x4 := x3.k0 k4
        have hI4 := x4.obj
        rw [eI] at hI4
        row_readAll go
        obtain ⟨l4, hU4, rU4⟩ := x4.und
        have eu : u ++ y3 :: q3 = (u ++ [y3]) ++ q3 := by simp
        rw [eu, List.map_append] at rU4
        obtain ⟨l41, l42, rfl, r41, r42⟩ := rU4.split
        have l41l : l41.length = u.length + 1 := by have := r41.length; rw [List.length_map, List.length_append] at this; simpa using this
        refine ⟨_, rfl, A3.U, _, lU.length, rfl, rfl, hU4, by rw [List.length_append]; omega, ?_⟩
        have et : (l41 ++ l42).take lU.length = l41 := by rw [lu, ← l41l]; exact List.take_left
        rw [et]
        have k5 : Keep [A3.U] H4 (upd H4 A3.U (.lst l41)) := Keep.put hU4 True.intro
        have g5 : upd H4 A3.U (.lst l41) A3.U = some (.lst l41) := upd_same
        generalize upd H4 A3.U (.lst l41) = H5 at k5 g5
        have x5 := x4.toU k5 g5 (r41.mono k5)
        have hI5 := x5.obj
        rw [eI] at hI5
        have hs5 := k5.sqT (k4.sqT hs3)
        row_readAll go
        refine v_meth hI5 (by rfl) ?_
        row_readAll go
        refine v_mkT (by row_readAll ln) fun q6 H6 f6 k6 s6 => ?_
        have ip6 := ((((ip.mono k12).mono k3).mono k4).mono k5).mono k6
        refine v_path (i := 1) ip6 s6 (by rw [List.length_append]; simp only [List.length_cons, List.length_nil]; omega) fun q7 H7 k7 j7 => ?_
        have k67 := k6.trans k7
        row_readAll go
        have pp1 := pp.ph
        have pp2 := pp.le
        simp only [Rs.w] at pp1 pp2
        have s4 : Sm A A3 H2 := s3
        have kA : Keep A3.fx H3 H7 := (k4.nil.trans (k5.one (by simp [IA.fx]))).step0 k67
        refine ⟨hk, A3, P, w1, u, y3, m, _, b0, hh, _, v3, r, by rw [eI], x5.k0 k67, j7, ((((i3.mono k12).mono k3).mono k4).mono k5).mono k67, ⟨⟨ms, ns, gf, pp.good⟩, by omega, by omega⟩, e0, bl1, (lower_some er).2, ?_⟩
        have o7 := (o2.at s3 k3).at (Sm.refl A3 H3) kA
        cases r with
        | ok w2 =>
          rintro A8 H8 un8 x8 h8 s8 k8
          row_readAll go
          exact o7 A8 H8 un8 x8 h8 s8 k8
        | err kk2 t2 w2 => exact o7
        | stop t2 w2 => exact o7
      · rw [if_neg e] at er
        cases er
        have em : decide (k ∈ ([("any" : Str), kk] : List Str)) = false := by simpa using e
        rw [em]
        row_readAll go
        exact o2 A3 H4 _ d pv3 (x3.k0 k4) ⟨y3, q3, rfl⟩ (s3.trans k3 (Sm.refl A3 H3)) (k3.step0 k4) fd (k4.obj _ _ List.not_mem_nil hd) (i3'.mono k4)
end M


namespace M
open PySem L2 L2H
theorem RE.of {K : PySem.W.Frag} {c : CA} {un : List Plc} {H : Hp} {Q : VK} {E : XK} {r : Except Str Vl} (h1 : ∀ k, r = .error k → FE K c k un H E) (h2 : ∀ y, r = .ok y → ∀ v H', Im K H' v y.d → Keep [] H H' → Q v H') : RE K c un H Q E r := by
  cases r with
  | error k => exact h1 k rfl
  | ok y => exact h2 y rfl
def tgtL (m : Str) : Stm → Str
  | .imp t _ => t
  | .frm t _ _ => t
  | .star t => t
  | _ => m
/-- the result of a load and what is bound behind it -/
theorem ld_eq {F : Fb} {g : Nat → GoFn} {n : Nat} {u : List Plc} {m : Str} {path : Pth} {s : Stm} {w : Wd} (h : isLd s = true) : stepM F g n u m path s w = thenOk (ldM F (lower g n 3) (u ++ [(m, path)]) (tgtL m s) w) fun w' => (match bndE w'.vs m s with
    | .ok vs' => some (.ok { w' with vs := vs' })
    | .error k => some (.err k (u ++ [(m, path)]) w')) := by
  cases s <;> simp only [isLd] at h <;> (try cases h)
  · rfl
  · simp only [stepM, bndE]
    congr 1
    funext w'
    cases valA w'.vs _ <;> rfl
  · rfl
def t_Interpreter_step (K : PySem.W.Frag) (c : CA) (ld : Addr) (spl spc spg spa : Sp) (W : WX) : TS := (tSeq (tAsg (tOp (rIx K) (tVar 3) (tC (.int 0))) (gName 4))
  (tIfS (tTest (tOp (rInX K) (tVar 4) (tC (.ref ld)))) (tSeq (tDrop (L2H.tMethH c.CI "load" spl (WE W) (tVar 0) (tCons (tOp (rIx K) (tVar 3) (tC (.int 1))) tNil)))
  (tDrop (L2H.tMethH c.CI "bind_loaded" (sp_Interpreter_bind_loaded K c) (WE W) (tVar 0) (tCons (tVar 1) (tCons (tVar 3) tNil))))) (tIfS (tTest (tOp (rEqX K) (tVar 4) (tC (.str "set")))) (tDrop (L2H.tMethH c.CI "bind" (sp_Interpreter_bind K c) (WE W) (tVar 0) (tCons (tVar 1) (tCons (tOp (rIx K) (tVar 3) (tC (.int 1))) (tCons (L2H.tMethH c.CI "value" (sp_Interpreter_value K c 10) (WE W) (tVar 0) (tCons (tVar 1) (tCons (tOp (rIx K) (tVar 3) (tC (.int 2))) tNil))) tNil))))) (tIfS (tTest (tOp (rEqX K) (tVar 4) (tC (.str "del")))) (tSeq (tDrop (L2H.tMethH c.CI "read" (sp_Interpreter_read K c) (WE W) (tVar 0) (tCons (tVar 1) (tCons (tOp (rIx K) (tVar 3) (tC (.int 1))) (tCons (tC (.str "unbound")) tNil)))))
  (tDelT (tFld K (tFld K (tVar 0) "world") "bindings") (tTupN (tCons (tVar 1) (tCons (tOp (rIx K) (tVar 3) (tC (.int 1))) tNil))))) (tIfS (tTest (tOp (rEqX K) (tVar 4) (tC (.str "show")))) (tDrop (tBM K "list" rAppend (tFld K (tFld K (tVar 0) "world") "lines") (tCons (L2H.tMethH c.CI "value" (sp_Interpreter_value K c 10) (WE W) (tVar 0) (tCons (tVar 1) (tCons (tOp (rIx K) (tVar 3) (tC (.int 1))) tNil))) tNil))) (tIfS (tTest (tOp (rEqX K) (tVar 4) (tC (.str "def")))) (tDrop (L2H.tMethH c.CI "bind" (sp_Interpreter_bind K c) (WE W) (tVar 0) (tCons (tVar 1) (tCons (tOp (rIx K) (tVar 3) (tC (.int 1))) (tCons (tTupX K (tCons (tC (.str "function")) (tCons (tVar 1) (tCons (tVar 2) tNil)))) tNil))))) (tIfS (tTest (tOp (rEqX K) (tVar 4) (tC (.str "call")))) (tDrop (L2H.tMethH c.CI "call" spc (WE W) (tVar 0) (tCons (L2H.tMethH c.CI "value" (sp_Interpreter_value K c 10) (WE W) (tVar 0) (tCons (tVar 1) (tCons (tOp (rIx K) (tVar 3) (tC (.int 1))) tNil))) tNil))) (tIfS (tTest (tOp (rEqX K) (tVar 4) (tC (.str "if")))) (tSeq (tAsg (L2H.tMethH c.CI "choice" (sp_Interpreter_choice K c) (WE W) (tVar 0) (tCons (L2H.tMethH c.CI "value" (sp_Interpreter_value K c 10) (WE W) (tVar 0) (tCons (tVar 1) (tCons (tOp (rIx K) (tVar 3) (tC (.int 1))) tNil))) tNil)) (gName 5))
  (tDrop (L2H.tMethH c.CI "go" spg (WE W) (tVar 0) (tCons (tVar 1) (tCons (tOp (rAdd K) (tVar 2) (tTupX K (tCons (tVar 5) tNil))) (tCons (tOp (rIx K) (tVar 3) (tOp (rAdd K) (tC (.int 2)) (tVar 5))) tNil)))))) (tIfS (tTest (tOp (rEqX K) (tVar 4) (tC (.str "try")))) (tDrop (L2H.tMethH c.CI "attempt" spa (WE W) (tVar 0) (tCons (tVar 1) (tCons (tVar 2) (tCons (tVar 3) tNil))))) (tDrop (L2H.tMethH c.CI "refuse" (sp_Interpreter_refuse K c) (WE W) (tVar 0) (tCons (tC (.str "raised")) tNil))))))))))))
def n_Interpreter_step : List Str := ["self", "module", "path", "statement", "word", "which"]
theorem pure_Interpreter_step {K : PySem.W.Frag} {c : CA} (T0 : CC K c) {ld : Addr} (hL : ∀ H, SqT K H ld [.str "\x69mport", .str "from", .str "star"]) {n : Nat} (vs : List V) (H : Hp) (Q : VK) (E : XK) (h : sp_Interpreter_step K c n vs H Q E) :
    t_Interpreter_step K c ld (sp_Interpreter_load K c n) (sp_Interpreter_call K c n) (sp_goL K c n 3) (sp_Interpreter_attempt K c n) (w0 E) { nx := fun _ H' => Q .non H', rt := Q } (start n_Interpreter_step vs) H := by
  obtain ⟨A, P, w, u, m, base, i, b0, b, s, pv, v, r, rfl, x, ip, iv, pre, e0, eb, es, er, o⟩ := h
  show t_Interpreter_step K c _ _ _ _ _ _ _ [some (.ref A.I), some (.str m), some pv, some v, none, none] H
  unfold t_Interpreter_step
  have TI := T0.i
  have TW := T0.w
  have hI := x.obj
  have hW := x.wld.obj
  have sl := sl_eq
  obtain ⟨va, xs, rfl, hs, hv⟩ := iv.stm
  obtain ⟨sz1, sz2, sz3, sz4, sz5⟩ := pre.sz
  obtain ⟨ms, ns, gf, gw⟩ := pre.ex
  obtain ⟨lb1, lb2, lb3, _⟩ := blkIn_le eb
  have gb := gf.blk m b0 e0
  have wf := (wfL_iff b).mp (lb3 gb.2.1) s (List.mem_of_getElem? es)
  have hke : keG u (u ++ [(m, base ++ [i])]) := ⟨_, [], rfl⟩
  unfold St' at er
  by_cases hl : isLd s = true
  · obtain ⟨t, rest, wd, rfl, ht, hw⟩ : ∃ t rest wd, xs = .str wd :: .str t :: rest ∧ tgtL m s = t ∧ (decide (wd = "\x69mport") || decide (wd = "from") || decide (wd = "star")) = true := by
      cases s <;> simp only [isLd] at hl <;> (try cases hl)
      · exact ⟨_, _, _, hv, rfl, by decide +kernel⟩
      · exact ⟨_, _, _, hv, rfl, by decide +kernel⟩
      · exact ⟨_, _, _, hv, rfl, by decide +kernel⟩
    rw [ld_eq hl, ht] at er
    row_readAll go
    refine v_ixT hs (atI_n (j := 0) rfl rfl) ?_
    row_readAll go
    refine v_in3 (hL _) ?_
    rw [hw]
    row_readAll go
    refine v_meth hI (by rfl) ?_
    row_readAll go
    refine v_ixT hs (atI_n (j := 1) rfl rfl) ?_
    row_readAll go
    cases e1 : ldM (valA P) (lower (Go (valA P)) n 3) (u ++ [(m, base ++ [i])]) t w with
    | none => rw [e1] at er; cases er
    | some r1 =>
      rw [e1] at er
      obtain ⟨pp, _⟩ := ldM_post gf (lower_post (fun j _ => Go_post gf j) (by decide)) gw e1
      have cn : 1 ≤ s.cnt := by cases s <;> simp [Stm.cnt]
      have ph := pre.ph
      refine ⟨A, P, w, _, t, u.length, r1, rfl, x, ⟨pre.ex, by omega, pre.un⟩, by simp, e1, ?_⟩
      cases r1 with
      | err kk t1 w1 => cases er; exact fun A' H' un' d pv' x' ⟨q, h⟩ s' k' fd hd i' => o A' H' un' d pv' x' ⟨(m, base ++ [i]), q, h.trans (by simp)⟩ s' k' fd hd i'
      | stop t1 w1 => cases er; exact fun A' H' un' d pv' x' ⟨q, h⟩ s' k' fd hd i' => o A' H' un' d pv' x' ⟨(m, base ++ [i]), q, h.trans (by simp)⟩ s' k' fd hd i'
      | ok w1 =>
        rintro A2 H2 un2 x2 rfl s2 k2
        have eI : A2.I = A.I := by rw [s2.1]
        have hI2 := x2.obj
        rw [eI] at hI2
        have o2 := o.at s2 k2
        have fw := GoodW.few gf pp.good
        simp only [Rs.w] at fw
        simp only [thenOk] at er
        row_readAll go
        refine v_meth hI2 (by rfl) ?_
        row_readAll go
        refine ⟨A2, P, w1, _, m, s, _, by rw [eI], x2, iv.mono k2, hl, by omega, pp.good.v.nd, ?_⟩
        cases e2 : bndE w1.vs m s with
        | error kk => rw [e2] at er; cases er; exact o2.fe x2 hke
        | ok vs' =>
          rw [e2] at er
          cases er
          refine fun H3 x3 k3 => ?_
          row_readAll go
          exact o2 A2 H3 _ x3 ⟨_, rfl⟩ (Sm.refl A2 H2) (k3.one (by simp [IA.fx]))
  cases s with
  | raise =>
    subst hv
    cases er
    row_readAll go
    refine v_in3 (hL _) ?_
    try row_readAll n
    try simp only [Bool.or_false, Bool.or_true, Bool.true_or]
    row_readAll go
    refine v_meth hI (by rfl) ?_
    row_readAll go
    exact ⟨A, P, w, _, _, rfl, x, o.fe x hke⟩
  | set y e =>
    obtain ⟨v2, rfl, i2⟩ := hv
    simp only [stepM] at er
    row_readAll go
    refine v_in3 (hL _) ?_
    try row_readAll n
    try simp only [Bool.or_false, Bool.or_true, Bool.true_or]
    row_readAll go
    refine v_meth hI (by rfl) ?_
    row_readAll go
    refine v_meth hI (by rfl) ?_
    row_readAll go
    have de := wf.2.dep
    refine ⟨A, P, w, _, m, e, v2, rfl, x, i2, by omega, RE.of (fun k e1 => ?_) (fun y1 e1 v1 H1 i1 k1 => ?_)⟩
    · rw [e1] at er; cases er; exact o.fe x hke
    · rw [e1] at er
      cases er
      row_readAll go
      refine ⟨A, P, w, _, m, y, v1, y1, rfl, x.k0 k1, i1, by omega, fun H2 x2 k2 => ?_⟩
      row_readAll go
      exact o A H2 _ x2 ⟨_, rfl⟩ (Sm.refl A H) (k1.nil.trans (k2.one (by simp [IA.fx])))
  | del y =>
    subst hv
    simp only [stepM] at er
    row_readAll go
    refine v_in3 (hL _) ?_
    try row_readAll n
    try simp only [Bool.or_false, Bool.or_true, Bool.true_or]
    row_readAll go
    refine v_meth hI (by rfl) ?_
    row_readAll go
    refine ⟨A, P, w, _, m, y, _, rfl, x, ?_⟩
    cases e1 : valA w.vs (m, y) with
    | none => rw [e1] at er; cases er; exact o.fe x hke
    | some z =>
      rw [e1] at er
      cases er
      refine fun v1 H1 i1 k1 => ?_
      have x1 := x.k0 k1
      have hI1 := x1.obj
      have hW1 := x1.wld.obj
      have hs1 := k1.sqT hs
      row_readAll go
      show (tFld K (tFld K (tVar 0) "world") "bindings") _ H1 _
      row_readAll go
      refine v_mkN (by row_readAll ln) fun p H2 f2 k2 s2 => ?_
      have x2 := x1.k0 k2
      obtain ⟨mB, hB, rB⟩ := x2.wld.vs
      rcases rB.val kT_inj (m, y) with ⟨_, z1⟩ | ⟨v', y', e2, e3, i3⟩
      · rw [e1] at z1; cases z1
      · refine v_delP (k := (m, y)) hB s2 e2 fun H3 k3 g3 => ?_
        row_readAll go
        have x3 := x2.toW k3 (fun b hb => by rw [List.mem_singleton.mp hb]; simp [WA.fp]) (x2.wld.toVs k3 g3 ((rB.drop kT_inj).mono fun v b i => i.mono k3))
        exact o A H3 _ x3 ⟨_, rfl⟩ (Sm.refl A H) ((k1.trans k2).nil.trans (k3.one (by simp [IA.fx])))
  | shw e =>
    obtain ⟨v1, rfl, i1⟩ := hv
    simp only [stepM] at er
    obtain ⟨lL, hL1, rL⟩ := x.wld.sh
    row_readAll go
    refine v_in3 (hL _) ?_
    try row_readAll n
    try simp only [Bool.or_false, Bool.or_true, Bool.true_or]
    row_readAll go
    refine v_tyL hL1 ?_
    row_readAll go
    refine v_meth hI (by rfl) ?_
    row_readAll go
    have de := Ex.wf.dep (show e.wf 3 from wf)
    refine ⟨A, P, w, _, m, e, v1, rfl, x, i1, by omega, RE.of (fun k e1 => ?_) (fun y1 e1 v2 H1 i2 k1 => ?_)⟩
    · rw [e1] at er; cases er; exact o.fe x hke
    · rw [e1] at er
      cases er
      row_readAll go
      have x1 := x.k0 k1
      refine v_append (k1.obj _ _ List.not_mem_nil hL1) (by have := rL.length; rw [List.length_map] at this; omega) fun H2 k2 g2 => ?_
      row_readAll go
      have x2 := x1.toW k2 (fun b hb => by rw [List.mem_singleton.mp hb]; simp [WA.fp]) (x1.wld.toSh k2 g2 (((rL.mono k1).mono k2).add (i2.mono k2)))
      exact o A H2 _ x2 ⟨_, rfl⟩ (Sm.refl A H) (k1.nil.trans (k2.one (by simp [IA.fx])))
  | fn y bd =>
    obtain ⟨v2, rfl, i2⟩ := hv
    simp only [stepM] at er
    cases er
    obtain ⟨pa, pxs, rfl, _, _⟩ := ip.of_tup
    row_readAll go
    refine v_in3 (hL _) ?_
    try row_readAll n
    try simp only [Bool.or_false, Bool.or_true, Bool.true_or]
    row_readAll go
    refine v_meth hI (by rfl) ?_
    row_readAll go
    refine v_mkT (by row_readAll ln) fun p H1 f1 k1 s1 => ?_
    row_readAll go
    refine ⟨A, P, w, _, m, y, _, .fn m (base ++ [i]), rfl, x.k0 k1, .tup s1 (.cons (.str _) (.cons (.str _) (.cons (ip.mono k1) .nil))), by omega, fun H2 x2 k2 => ?_⟩
    row_readAll go
    exact o A H2 _ x2 ⟨_, rfl⟩ (Sm.refl A H) (k1.nil.trans (k2.one (by simp [IA.fx])))
  | call e =>
    obtain ⟨v1, rfl, i1⟩ := hv
    simp only [stepM] at er
    row_readAll go
    refine v_in3 (hL _) ?_
    try row_readAll n
    try simp only [Bool.or_false, Bool.or_true, Bool.true_or]
    row_readAll go
    refine v_meth hI (by rfl) ?_
    row_readAll go
    refine v_meth hI (by rfl) ?_
    row_readAll go
    have de := Ex.wf.dep (show e.wf 3 from wf)
    refine ⟨A, P, w, _, m, e, v1, rfl, x, i1, by omega, RE.of (fun k e1 => ?_) (fun y1 e1 v2 H1 i2 k1 => ?_)⟩
    · rw [e1] at er; cases er; exact o.fe x hke
    · rw [e1] at er
      have er' : callR (valA P) (lower (Go (valA P)) n 3) (u ++ [(m, base ++ [i])]) y1 w = some r := by
        cases y1 <;> exact er
      have o1 := o.k0 k1
      row_readAll go
      refine ⟨A, P, w, _, v2, y1, u.length, r, rfl, x.k0 k1, i2, evl_ok gw.v e1, ⟨pre.ex, by have := pre.ph; omega, pre.un⟩, by simp, er', ?_⟩
      cases r with
      | ok w2 =>
        rintro A8 H8 un8 x8 h8 s8 k8
        row_readAll go
        exact o1 A8 H8 un8 x8 ⟨_, h8⟩ s8 k8
      | err kk2 t2 w2 => exact fun A' H' un' d pv' x' ⟨q, h⟩ s' k' fd hd i' => o1 A' H' un' d pv' x' ⟨(m, base ++ [i]), q, h.trans (by simp)⟩ s' k' fd hd i'
      | stop t2 w2 => exact fun A' H' un' d pv' x' ⟨q, h⟩ s' k' fd hd i' => o1 A' H' un' d pv' x' ⟨(m, base ++ [i]), q, h.trans (by simp)⟩ s' k' fd hd i'
  | ite e bb hh =>
    obtain ⟨v1, v2, v3, rfl, i1, i2, i3⟩ := hv
    simp only [stepM] at er
    obtain ⟨pa, pxs, rfl, _, _⟩ := ip.of_tup
    row_readAll go
    refine v_in3 (hL _) ?_
    try row_readAll n
    try simp only [Bool.or_false, Bool.or_true, Bool.true_or]
    row_readAll go
    refine v_meth hI (by rfl) ?_
    row_readAll go
    refine v_meth hI (by rfl) ?_
    row_readAll go
    have de := wf.1.dep
    have cn : cntL bb + cntL hh + 1 ≤ (Stm.ite e bb hh).cnt := by simp only [Stm.cnt]; omega
    have ph := pre.ph
    refine ⟨A, P, w, _, m, e, v1, rfl, x, i1, by omega, RE.of (fun k e1 => ?_) (fun y1 e1 u1 H1 j1 k1 => ?_)⟩
    · rw [e1] at er; cases er; exact o.fe x hke
    · rw [e1] at er
      have x1 := x.k0 k1
      have hI1 := x1.obj
      have o1 := o.k0 k1
      have hs1 := k1.sqT hs
      cases y1 with
      | md z => cases er; row_readAll go; exact ⟨A, P, w, _, _, _, rfl, x1, j1, o1.fe x1 hke⟩
      | fn z z' => cases er; row_readAll go; exact ⟨A, P, w, _, _, _, rfl, x1, j1, o1.fe x1 hke⟩
      | int j =>
        row_readAll go
        refine ⟨A, P, w, _, _, _, rfl, x1, j1, ?_⟩
        simp only at er ⊢
        by_cases ej : j = 0
        · rw [if_pos ej] at er
          rw [if_pos ej]
          obtain ⟨hk, er⟩ := lower_some er
          row_readAll go
          refine v_meth hI1 (by rfl) ?_
          row_readAll go
          refine v_mkT (by row_readAll ln) fun q2 H2 f2 k2 s2 => ?_
          refine v_path (i := 1) ((ip.mono k1).mono k2) s2 (by rw [List.length_append]; simp only [List.length_cons, List.length_nil]; omega) fun q3 H3 k3 j3 => ?_
          have k13 := (k1.trans k2).trans k3
          row_readAll go
          refine ⟨hk, A, P, w, u, _, m, _, b0, hh, _, v3, r, rfl, x.k0 k13, j3, i3.mono k13, ⟨pre.ex, by omega, pre.un⟩, e0, blkIn_sub eb es (k := 1) rfl, er, ?_⟩
          have o3 := o.k0 k13
          cases r with
          | ok w2 =>
            rintro A8 H8 un8 x8 h8 s8 k8
            row_readAll go
            exact o3 A8 H8 un8 x8 h8 s8 k8
          | err kk2 t2 w2 => exact o3
          | stop t2 w2 => exact o3
        · rw [if_neg ej] at er
          rw [if_neg ej]
          obtain ⟨hk, er⟩ := lower_some er
          row_readAll go
          refine v_meth hI1 (by rfl) ?_
          row_readAll go
          refine v_mkT (by row_readAll ln) fun q2 H2 f2 k2 s2 => ?_
          refine v_path (i := 0) ((ip.mono k1).mono k2) s2 (by rw [List.length_append]; simp only [List.length_cons, List.length_nil]; omega) fun q3 H3 k3 j3 => ?_
          have k13 := (k1.trans k2).trans k3
          row_readAll go
          refine ⟨hk, A, P, w, u, _, m, _, b0, bb, _, v2, r, rfl, x.k0 k13, j3, i2.mono k13, ⟨pre.ex, by omega, pre.un⟩, e0, blkIn_sub eb es (k := 0) rfl, er, ?_⟩
          have o3 := o.k0 k13
          cases r with
          | ok w2 =>
            rintro A8 H8 un8 x8 h8 s8 k8
            row_readAll go
            exact o3 A8 H8 un8 x8 h8 s8 k8
          | err kk2 t2 w2 => exact o3
          | stop t2 w2 => exact o3
  | tri k bb hh =>
    have hv' := hv
    obtain ⟨v2, v3, rfl, i2, i3⟩ := hv
    row_readAll go
    refine v_in3 (hL _) ?_
    try row_readAll n
    try simp only [Bool.or_false, Bool.or_true, Bool.true_or]
    row_readAll go
    refine v_meth hI (by rfl) ?_
    row_readAll go
    have er' : triR (lower (Go (valA P)) n 3) u m (base ++ [i]) k bb hh w = some r := er
    refine ⟨A, P, w, u, _, m, base, i, b0, b, k, bb, hh, _, _, r, rfl, x, ip, iv, pre, e0, eb, es, er', ?_⟩
    cases r with
    | ok w2 =>
      rintro A8 H8 un8 x8 h8 s8 k8
      row_readAll go
      exact o A8 H8 un8 x8 h8 s8 k8
    | err kk2 t2 w2 => exact o
    | stop t2 w2 => exact o
  | imp t y => exact absurd rfl hl
  | frm t y z => exact absurd rfl hl
  | star t => exact absurd rfl hl
end M


namespace M
open PySem L2 L2H SlX
/-! ### a run -/
def wStart (n : Nat) : Wd := ⟨n, [], [], [], []⟩
def ranR (F : Fb) (start : Str) (n : Nat) : Option Rs := ldM F (lower (Go F) 195 3) [] start (wStart n)
def Rs.ending : Rs → Str
  | .ok _ => "done"
  | .err k _ _ => k
  | .stop _ _ => "stopped"
def Rs.trail : Rs → List Plc
  | .ok _ => []
  | .err _ t _ => t
  | .stop t _ => t
theorem good_start {ms ns : List Str} {F : Fb} (n : Nat) : GoodW ms ns F (wStart n) := ⟨⟨fun p hp => (by cases hp), List.nodup_nil⟩, fun p hp => (by cases hp), List.nodup_nil, fun p hp => (by cases hp), fun p hp => (by cases hp)⟩
def sp_run (K : PySem.W.Frag) (c : CA) (CO : Addr) : Sp := fun vs H Q _ => ∃ prg P pf start ms ns b r, ∃ n : Nat, vs = [.ref prg, .str start, .int n] ∧ PrgAt K H c.CP prg P pf ∧ GoodF ms ns (valA P) ∧ n ≤ 30 ∧ valA P start = some b ∧ ranR (valA P) start n = some r ∧
  ∀ a es fp H', OcAt K H' CO a r.ending r.w r.trail es fp → (∀ b ∈ fp ++ es.map (·.2.dd), H b = none) → Keep [] H H' → Q (.ref a) H'
def t_run (K : PySem.W.Frag) (c : CA) (CO : Addr) (W : WX) : TS := (tSeq (tIfS (tTest (tOp (rNotInO c.CP (sp_Program___contains__ K c.CP) E0) (tVar 1) (tVar 0))) tNever tNext)
  (tSeq (tDrop (tCall (sp_check_limit K) [] E0 (tCons (tVar 2) tNil)))
  (tSeq (tAsg (tMake c.CI (sp_Interpreter___init__ K c) [] E0 (tCons (tVar 0) (tCons (tVar 2) tNil))) (gName 3))
  (tSeq (fun D σ H => (fun W : WX => (tDrop (L2H.tMethH c.CI "load" (sp_Interpreter_load K c 195) (WE W) (tVar 3) (tCons (tVar 1) tNil)))) ((wAsR K (.ref c.CF) 4 (fun a cls d => (tRet (tMeth c.CW "outcome" (sp_World_outcome K c.CW CO) [] E0 (tFld K (tVar 3) "world") (tCons (tXf a cls d c.CF "kind" (tVar 4)) (tCons (tXf a cls d c.CF "places" (tVar 4)) tNil))))) (wAsR K (.ref c.CS) 5 (fun a cls d => (tRet (tMeth c.CW "outcome" (sp_World_outcome K c.CW CO) [] E0 (tFld K (tVar 3) "world") (tCons (tC (.str "stopped")) (tCons (tXf a cls d c.CS "places" (tVar 5)) tNil))))) (fun _ => W))) D) D σ H)
  (tRet (tMeth c.CW "outcome" (sp_World_outcome K c.CW CO) [] E0 (tFld K (tVar 3) "world") (tCons (tC (.str "done")) (tCons (tTupX K tNil) tNil))))))))
def n_run : List Str := ["program", "start", "limit", "interpreter", "failure", "stop"]
theorem pure_run {K : PySem.W.Frag} {c : CA} {CO : Addr} (T : CC K c) (vs : List V) (H : Hp) (Q : VK) (E : XK) (h : sp_run K c CO vs H Q E) : t_run K c CO (fun _ _ _ _ => False) { nx := fun _ H' => Q .non H', rt := Q } (start n_run vs) H := by
  obtain ⟨prg, P, pf, st, ms, ns, b, r, n, rfl, xp, gf, hn, eb, er, q⟩ := h
  show t_run K c CO _ _ [some (.ref prg), some (.str st), some (.int n), none, none, none] H
  unfold t_run
  have TI := T.i
  have TW := T.w
  obtain ⟨dxp, nlp, dp, ef, hslt, _, _, _⟩ := xp.ex
  row_readAll go
  refine ⟨prg, dxp, _, rfl, hslt, prg, st, P, pf, rfl, xp, _, rfl, ?_⟩
  rw [eb]
  simp only [Option.isSome_some, Bool.not_true]
  row_readAll go
  refine ⟨n, rfl, hn, ?_⟩
  row_readAll go
  intro I dI fI fdI nId
  have kn : Keep [] H (upd (upd H dI (.own I)) I (.ins c.CI dI [])) := (Keep.new fdI).trans (Keep.new (by rw [upd_ne (Ne.symm nId)]; exact fI))
  have hI1 : upd (upd H dI (.own I)) I (.ins c.CI dI []) I = some (.ins c.CI dI []) := upd_same
  generalize upd (upd H dI (.own I)) I (.ins c.CI dI []) = H1 at kn hI1
  have nIp : I ∉ pf := fun z => by
    obtain ⟨u, hu⟩ := xp.isS I z
    rw [fI] at hu; cases hu
  refine ⟨I, dI, prg, P, pf, n, rfl, hI1, xp.k0 kn, nIp, fun A H2 x2 eI frx k2 => ⟨rfl, ?_⟩⟩
  have hI2 := x2.obj
  rw [eI] at hI2
  have k12 : Keep [] H H2 := kn.step1 k2 fI
  have fxH : ∀ b ∈ A.fx, H b = none := fun b hb => kn.free (frx b hb)
  unfold ranR at er
  obtain ⟨pp, _⟩ := ldM_post gf (lower_post (fun j _ => Go_post gf j) (by decide)) (good_start n) er
  have p1 := pp.good
  have fw := GoodW.few gf p1
  have stl : r.w.st.length < 1000 := by
    have := nodup_len p1.snd fun k hk => by
      obtain ⟨q', hq, rfl⟩ := List.mem_map.mp hk
      exact p1.st q' hq
    rw [List.length_map] at this
    have := gf.fewm
    omega
  have fin : ∀ (A3 : IA) (H3 : Hp) (un : List Plc) (tv : V) (Qx : VK), IntAt K H3 c A3 P r.w un → Sm A A3 H2 → Keep A.fx H2 H3 → Im K H3 tv (.tuple (r.trail.map plcD)) → (∀ a H', Q (.ref a) H' → Qx (.ref a) H') → sp_World_outcome K c.CW CO [.ref A3.w.W, .str r.ending, tv] H3 Qx E0 := by
    intro A3 H3 un tv Qx x3 s3 k3 it hQ
    have k03 : Keep [] H H3 := k12.step k3 fun b hb => .inr (fxH b hb)
    exact ⟨A3.w, r.w, _, r.trail, tv, rfl, x3.wld, it, fw, p1.v.nd, p1.snd, stl, fun a es fp H4 oc fr k4 => hQ a H4 (q a es fp H4 oc (fun b hb => k03.free (fr b hb)) (k03.trans k4))⟩
  row_readAll go
  refine v_meth hI2 (by rfl) ?_
  row_readAll go
  refine ⟨A, P, wStart n, [], st, 0, r, by rw [eI], x2, ⟨⟨ms, ns, gf, good_start n⟩, by simp only [phi, wStart, List.length_nil]; omega, by simp only [wStart]; omega⟩, by simp, er, ?_⟩
  cases r with
  | ok w1 =>
    rintro A3 H3 un3 x3 rfl s3 k3
    have e3 : A3.I = I := by rw [s3.1]; exact eI
    have hI3 := x3.obj
    rw [e3] at hI3
    have hW3 := x3.wld.obj
    row_readAll go
    refine v_meth hW3 (by rfl) ?_
    row_readAll go
    refine v_mkT (by simp) fun p H4 f4 k4 s4 => ?_
    row_readAll go
    exact fin A3 H4 _ (.ref p) _ (x3.k0 k4) (s3.trans k3 (Sm.refl A3 H3)) (k3.step0 k4) (.tup s4 .nil) (fun a H' h => h)
  | err kk t w1 =>
    rintro A3 H3 un3 d pv x3 h3 s3 k3 fd hd i3
    refine ⟨true, T.ff, fun _ a fa => ?_, (fun z => nomatch z)⟩
    have e3 : A3.I = I := by rw [s3.1]; exact eI
    have hI3 := x3.obj
    rw [e3] at hI3
    have hW3 := x3.wld.obj
    row_readAll go
    refine v_meth hW3 (by rfl) ?_
    row_readAll go
    rw [q_xf]
    row_readAll go
    refine ⟨d, _, .str kk, rfl, hd, by rfl, ?_⟩
    row_readAll go
    rw [q_xf]
    row_readAll go
    refine ⟨d, _, pv, rfl, hd, by rfl, ?_⟩
    row_readAll go
    exact fin A3 H3 _ pv _ x3 s3 k3 i3 (fun a H' h => h)
  | stop t w1 =>
    rintro A3 H3 un3 d pv x3 h3 s3 k3 fd hd i3
    refine ⟨false, T.sf, (fun z => nomatch z), fun _ => ⟨true, T.ss, fun _ a fa => ?_, (fun z => nomatch z)⟩⟩
    have e3 : A3.I = I := by rw [s3.1]; exact eI
    have hI3 := x3.obj
    rw [e3] at hI3
    have hW3 := x3.wld.obj
    row_readAll go
    refine v_meth hW3 (by rfl) ?_
    row_readAll go
    rw [q_xf]
    row_readAll go
    refine ⟨d, _, pv, rfl, hd, by rfl, ?_⟩
    row_readAll go
    exact fin A3 H3 _ pv _ x3 s3 k3 i3 (fun a H' h => h)
end M


namespace M
open PySem L2 L2H SlX
/-! ### the small properties of an outcome -/
def sp_Outcome_ending (K : PySem.W.Frag) (C : Addr) : Sp := fun vs H Q _ => ∃ a e w t es fp, vs = [.ref a] ∧ OcAt K H C a e w t es fp ∧ Q (.str e) H
def t_Outcome_ending (K : PySem.W.Frag)  : TS := (tRet (SlX.tSl K (tVar 0) "own_ending"))
def n_Outcome_ending : List Str := ["self"]
theorem pure_Outcome_ending {K : PySem.W.Frag} {C p1 p2 p3 p4 p5 : Addr} (T : OutC K C p1 p2 p3 p4 p5) (vs : List V) (H : Hp) (Q : VK) (E : XK) (h : sp_Outcome_ending K C vs H Q E) : t_Outcome_ending K { nx := fun _ H' => Q .non H', rt := Q } (start n_Outcome_ending vs) H := by
  obtain ⟨a, e, w, t, es, fp, rfl, x, q⟩ := h
  show t_Outcome_ending K _ [some (.ref a)] H
  unfold t_Outcome_ending
  obtain ⟨dx, s1, s2, s3, d, rfl, h1, h2, h3, h4, h5, h6⟩ := x.ex
  row_readAll go
  refine ⟨a, C, dx, p1, _, _, _, rfl, h1, T.c, T.s1, rfl, ?_⟩
  exact q
def sp_Outcome_shown (K : PySem.W.Frag) (C : Addr) : Sp := fun vs H Q _ => ∃ a e w t es fp, vs = [.ref a] ∧ OcAt K H C a e w t es fp ∧ ∀ p, Im K H (.ref p) (.tuple (w.shown.map Vl.d)) → Q (.ref p) H
def t_Outcome_shown (K : PySem.W.Frag)  : TS := (tRet (SlX.tSl K (tVar 0) "own_shown"))
def n_Outcome_shown : List Str := ["self"]
theorem pure_Outcome_shown {K : PySem.W.Frag} {C p1 p2 p3 p4 p5 : Addr} (T : OutC K C p1 p2 p3 p4 p5) (vs : List V) (H : Hp) (Q : VK) (E : XK) (h : sp_Outcome_shown K C vs H Q E) : t_Outcome_shown K { nx := fun _ H' => Q .non H', rt := Q } (start n_Outcome_shown vs) H := by
  obtain ⟨a, e, w, t, es, fp, rfl, x, q⟩ := h
  show t_Outcome_shown K _ [some (.ref a)] H
  unfold t_Outcome_shown
  obtain ⟨dx, s1, s2, s3, d, rfl, h1, h2, h3, h4, h5, h6⟩ := x.ex
  row_readAll go
  refine ⟨a, C, dx, p2, _, _, _, rfl, h1, T.c, T.s2, rfl, ?_⟩
  exact q _ h3
def sp_Outcome_events (K : PySem.W.Frag) (C : Addr) : Sp := fun vs H Q _ => ∃ a e w t es fp, vs = [.ref a] ∧ OcAt K H C a e w t es fp ∧ ∀ p, Im K H (.ref p) (.tuple (w.ev.map evD)) → Q (.ref p) H
def t_Outcome_events (K : PySem.W.Frag)  : TS := (tRet (SlX.tSl K (tVar 0) "own_events"))
def n_Outcome_events : List Str := ["self"]
theorem pure_Outcome_events {K : PySem.W.Frag} {C p1 p2 p3 p4 p5 : Addr} (T : OutC K C p1 p2 p3 p4 p5) (vs : List V) (H : Hp) (Q : VK) (E : XK) (h : sp_Outcome_events K C vs H Q E) : t_Outcome_events K { nx := fun _ H' => Q .non H', rt := Q } (start n_Outcome_events vs) H := by
  obtain ⟨a, e, w, t, es, fp, rfl, x, q⟩ := h
  show t_Outcome_events K _ [some (.ref a)] H
  unfold t_Outcome_events
  obtain ⟨dx, s1, s2, s3, d, rfl, h1, h2, h3, h4, h5, h6⟩ := x.ex
  row_readAll go
  refine ⟨a, C, dx, p3, _, _, _, rfl, h1, T.c, T.s3, rfl, ?_⟩
  exact q _ h4
def sp_Outcome_trail (K : PySem.W.Frag) (C : Addr) : Sp := fun vs H Q _ => ∃ a e w t es fp, vs = [.ref a] ∧ OcAt K H C a e w t es fp ∧ ∀ p, Im K H (.ref p) (.tuple (t.map plcD)) → Q (.ref p) H
def t_Outcome_trail (K : PySem.W.Frag)  : TS := (tRet (SlX.tSl K (tVar 0) "own_trail"))
def n_Outcome_trail : List Str := ["self"]
theorem pure_Outcome_trail {K : PySem.W.Frag} {C p1 p2 p3 p4 p5 : Addr} (T : OutC K C p1 p2 p3 p4 p5) (vs : List V) (H : Hp) (Q : VK) (E : XK) (h : sp_Outcome_trail K C vs H Q E) : t_Outcome_trail K { nx := fun _ H' => Q .non H', rt := Q } (start n_Outcome_trail vs) H := by
  obtain ⟨a, e, w, t, es, fp, rfl, x, q⟩ := h
  show t_Outcome_trail K _ [some (.ref a)] H
  unfold t_Outcome_trail
  obtain ⟨dx, s1, s2, s3, d, rfl, h1, h2, h3, h4, h5, h6⟩ := x.ex
  row_readAll go
  refine ⟨a, C, dx, p4, _, _, _, rfl, h1, T.c, T.s4, rfl, ?_⟩
  exact q _ h5
end M


namespace M
open PySem L2
/-! ### what a run keeps, told with the list of the modules under way -/
structure RunI (F : Fb) (I : List Str → Wd → Prop) : Prop where
  vs : ∀ run w x, I run w → I run { w with vs := x }
  sh : ∀ run w x, I run w → I run { w with shown := x }
  lf : ∀ run w, w.left ≠ 0 → I run w → I run { w with left := w.left - 1 }
  met : ∀ run w m b, F m = some b → told w m ≠ "absent" → I run w → I run { w with ev := w.ev ++ [((if told w m = "running" then "half" else "again" : Str), m)] }
  ent : ∀ run w m b, F m = some b → told w m = "absent" → w.left ≠ 0 → I run w → m ∉ run ∧ I (run ++ [m]) (entered m w)
  fin : ∀ run w m b, F m = some b → m ∉ run → I (run ++ [m]) w → I run (endOk m w)
  bad : ∀ run w m b, F m = some b → m ∉ run → I (run ++ [m]) w → I run (endFail m w)
def RP (I : List Str → Wd → Prop) (run : List Str) : Rs → Prop
  | .ok w => I run w
  | .err k _ w => k ∈ kindsR ∧ I run w
  | .stop _ w => ∃ x, I (run ++ x) w
def HypI (I : List Str → Wd → Prop) (g : GoFn) : Prop := ∀ u m base b w run r, I run w → g u m base b w = some r → RP I run r
section
variable {F : Fb} {I : List Str → Wd → Prop}
theorem ld_I (R : RunI F I) {g : GoFn} (hg : HypI I g) {T : List Plc} {m : Str} {w : Wd} {run : List Str} {r : Rs} (i : I run w) (h : ldM F g T m w = some r) : RP I run r := by
  unfold ldM at h
  cases e : F m with
  | none =>
    rw [e] at h
    cases h
    exact ⟨by decide +kernel, i⟩
  | some b =>
    rw [e] at h
    simp only at h
    split at h
    · rename_i ha
      cases h
      exact R.met run w m b e ha i
    · rename_i ha
      have ha : told w m = "absent" := Classical.not_not.mp ha
      split at h
      · cases h
        exact ⟨[], by rw [List.append_nil]; exact i⟩
      · rename_i hl
        cases e2 : g T m [] b (entered m w) with
        | none => rw [e2] at h; cases h
        | some r2 =>
          rw [e2] at h
          obtain rfl : ldEnd m r2 = r := Option.some.inj h
          obtain ⟨nm, i2⟩ := R.ent run w m b e ha hl i
          have p := hg T m [] b (entered m w) (run ++ [m]) r2 i2 e2
          cases r2 with
          | ok w2 => exact R.fin run w2 m b e nm p
          | err k t w2 => exact ⟨p.1, R.bad run w2 m b e nm p.2⟩
          | stop t w2 =>
            obtain ⟨x, p⟩ := p
            exact ⟨[m] ++ x, by rw [← List.append_assoc]; exact p⟩
theorem lower_I {g : Nat → GoFn} {n k : Nat} (h : ∀ j, j < n → HypI I (g j)) (hk : 0 < k) : HypI I (lower g n k) := by
  intro u m base b w run r i e
  unfold lower at e
  split at e
  · exact h (n - k) (by omega) u m base b w run r i e
  · cases e
theorem step_I (R : RunI F I) {g : Nat → GoFn} {n : Nat} (hg : ∀ j, j < n → HypI I (g j)) {u : List Plc} {m : Str} {path : Pth} {s : Stm} {w : Wd} {run : List Str} {r : Rs} (i : I run w) (h : stepM F g n u m path s w = some r) : RP I run r := by
  have g3 := lower_I (k := 3) hg (by decide)
  have g4 := lower_I (k := 3) hg (by decide)
  have g5 := lower_I (k := 3) hg (by decide)
  have same : ∀ {k : Str} {t : List Plc}, k ∈ kindsR → RP I run (.err k t w) := fun hk => ⟨hk, i⟩
  have stp : ∀ {t : List Plc}, RP I run (.stop t w) := ⟨[], by rw [List.append_nil]; exact i⟩
  have ldc : ∀ {t : Str} {f : Wd → Option Rs}, (∀ w1 r1, I run w1 → f w1 = some r1 → RP I run r1) → thenOk (ldM F (lower g n 3) (u ++ [(m, path)]) t w) f = some r → RP I run r := by
    intro t f hf h
    cases e1 : ldM F (lower g n 3) (u ++ [(m, path)]) t w with
    | none => rw [e1] at h; cases h
    | some r1 =>
      rw [e1] at h
      have p := ld_I R g5 i e1
      cases r1 with
      | err k tt w1 => cases h; exact p
      | stop tt w1 => cases h; exact p
      | ok w1 => exact hf w1 r p h
  cases s with
  | set x e =>
    simp only [stepM] at h
    cases e1 : evl w.vs m e with
    | error k => rw [e1] at h; cases h; exact same (evl_err e1)
    | ok v => rw [e1] at h; cases h; exact R.vs _ _ _ i
  | del x =>
    simp only [stepM] at h
    cases e1 : valA w.vs (m, x) with
    | none => rw [e1] at h; cases h; exact same (by decide +kernel)
    | some v => rw [e1] at h; cases h; exact R.vs _ _ _ i
  | shw e =>
    simp only [stepM] at h
    cases e1 : evl w.vs m e with
    | error k => rw [e1] at h; cases h; exact same (evl_err e1)
    | ok v => rw [e1] at h; cases h; exact R.sh _ _ _ i
  | call e =>
    simp only [stepM] at h
    cases e1 : evl w.vs m e with
    | error k => rw [e1] at h; cases h; exact same (evl_err e1)
    | ok v =>
      rw [e1] at h
      cases v with
      | int i => cases h; exact same (by decide +kernel)
      | md i => cases h; exact same (by decide +kernel)
      | fn fm fp =>
        simp only at h
        split at h
        · cases h; exact stp
        · rename_i hl
          cases e2 : F fm with
          | none => rw [e2] at h; cases h
          | some b0 =>
            rw [e2] at h
            simp only at h
            cases e3 : blkAt b0 fp with
            | none => rw [e3] at h; cases h
            | some b =>
              rw [e3] at h
              exact g4 _ _ _ _ _ _ _ (R.lf _ _ hl i) h
  | raise => simp only [stepM] at h; cases h; exact same (by decide +kernel)
  | imp t x =>
    refine ldc (fun w1 r1 i1 e => ?_) h
    cases e; exact R.vs _ _ _ i1
  | frm t y x =>
    refine ldc (fun w1 r1 i1 e => ?_) h
    cases e2 : valA w1.vs (t, y) with
    | none => rw [e2] at e; cases e; exact ⟨by decide +kernel, i1⟩
    | some v => rw [e2] at e; cases e; exact R.vs _ _ _ i1
  | star t =>
    refine ldc (fun w1 r1 i1 e => ?_) h
    cases e; exact R.vs _ _ _ i1
  | fn x body => simp only [stepM] at h; cases h; exact R.vs _ _ _ i
  | ite e c d =>
    simp only [stepM] at h
    cases e1 : evl w.vs m e with
    | error k => rw [e1] at h; cases h; exact same (evl_err e1)
    | ok v =>
      rw [e1] at h
      cases v with
      | md i => cases h; exact same (by decide +kernel)
      | fn i j => cases h; exact same (by decide +kernel)
      | int j =>
        simp only at h
        split at h
        · exact g3 _ _ _ _ _ _ _ i h
        · exact g3 _ _ _ _ _ _ _ i h
  | tri k c d =>
    simp only [stepM] at h
    cases e1 : lower g n 3 u m (path ++ [0]) c w with
    | none => rw [e1] at h; cases h
    | some r1 =>
      rw [e1] at h
      have p := g3 _ _ _ _ _ _ _ i e1
      cases r1 with
      | ok w1 => cases h; exact p
      | stop tt w1 => cases h; exact p
      | err kk tt w1 =>
        simp only at h
        split at h
        · exact g3 _ _ _ _ w1 _ _ p.2 h
        · cases h; exact p
theorem goM_I {st : Pth → Stm → Wd → Option Rs} {base : Pth} (hs : ∀ p s w run r, I run w → st p s w = some r → RP I run r) :
    ∀ (l : List Stm) (j : Nat) (w : Wd) (run : List Str) (r : Rs), I run w → goM st base j l w = some r → RP I run r
  | [], j, w, run, r, i, h => by cases h; exact i
  | s :: l, j, w, run, r, i, h => by
    simp only [goM] at h
    cases e1 : st (base ++ [j]) s w with
    | none => rw [e1] at h; cases h
    | some r1 =>
      rw [e1] at h
      have p := hs _ s w run r1 i e1
      cases r1 with
      | err k t w1 => cases h; exact p
      | stop t w1 => cases h; exact p
      | ok w1 => exact goM_I hs l (j + 1) w1 run r p h
theorem Go_I (R : RunI F I) : ∀ n, HypI I (Go F n) := by
  intro n
  induction n using Nat.strongRecOn with
  | ind n ih =>
    intro u m base b w run r i h
    rw [Go_eq] at h
    exact goM_I (fun p s w run r i h => step_I R ih i h) b 0 w run r i h
end
/-! ### events, walked -/
abbrev Wk7 := List (Str × Str) × List Str × Nat
def now7 (s : Wk7) (m : Str) : Str := (valA s.1 m).getD "absent"
def wlk1 (s : Wk7) (e : Str × Str) : Option Wk7 :=
  if e.1 = "begin" ∧ now7 s e.2 = "absent" then some (putA s.1 e.2 "running", s.2.1 ++ [e.2], s.2.2 + 1)
  else if (e.1 = "end" ∨ e.1 = "fail") ∧ s.2.1.getLast? = some e.2 then some (putA s.1 e.2 (if e.1 = "end" then ("done" : Str) else "absent"), s.2.1.dropLast, s.2.2)
  else if (e.1 = "half" ∨ e.1 = "again") ∧ now7 s e.2 = (if e.1 = "half" then ("running" : Str) else "done") then some s else none
def wlk (s : Wk7) : List (Str × Str) → Option Wk7
  | [] => some s
  | e :: r => (wlk1 s e).bind fun s' => wlk s' r
theorem wlk_app : ∀ (l l' : List (Str × Str)) (s : Wk7), wlk s (l ++ l') = (wlk s l).bind fun s' => wlk s' l'
  | [], l', s => rfl
  | e :: r, l', s => by
    show (wlk1 s e).bind _ = ((wlk1 s e).bind _).bind _
    cases wlk1 s e with
    | none => rfl
    | some s' => exact wlk_app r l' s'
theorem wlk_snoc {l : List (Str × Str)} {e : Str × Str} {s s1 s2 : Wk7} (h : wlk s l = some s1) (h2 : wlk1 s1 e = some s2) : wlk s (l ++ [e]) = some s2 := by
  rw [wlk_app, h]
  show (wlk1 s1 e).bind _ = _
  rw [h2] <;> rfl
theorem no2 {a b c : Str} {P : Prop} (h1 : a ≠ b) (h2 : a ≠ c) : ¬ ((a = b ∨ a = c) ∧ P) := fun z => z.1.elim h1 h2
theorem wlk1_half {s : Wk7} {m : Str} (h : now7 s m = "running") : wlk1 s ("half", m) = some s := by
  unfold wlk1
  rw [if_neg (fun z => absurd z.1 (by dsimp only; decide +kernel)), if_neg (no2 (by dsimp only; decide +kernel) (by dsimp only; decide +kernel)), if_pos ⟨.inl rfl, by rw [if_pos rfl]; exact h⟩]
theorem wlk1_again {s : Wk7} {m : Str} (h : now7 s m = "done") : wlk1 s ("again", m) = some s := by
  unfold wlk1
  rw [if_neg (fun z => absurd z.1 (by dsimp only; decide +kernel)), if_neg (no2 (by dsimp only; decide +kernel) (by dsimp only; decide +kernel)), if_pos ⟨.inr rfl, by rw [if_neg (by dsimp only; decide +kernel)]; exact h⟩]
theorem wlk1_begin {s : Wk7} {m : Str} (h : now7 s m = "absent") : wlk1 s ("begin", m) = some (putA s.1 m "running", s.2.1 ++ [m], s.2.2 + 1) := by
  unfold wlk1
  rw [if_pos ⟨rfl, h⟩]
theorem wlk1_end {s : Wk7} {m : Str} (h : s.2.1.getLast? = some m) : wlk1 s ("end", m) = some (putA s.1 m "done", s.2.1.dropLast, s.2.2) := by
  unfold wlk1
  rw [if_neg (fun z => absurd z.1 (by dsimp only; decide +kernel)), if_pos ⟨.inl rfl, h⟩, if_pos rfl]
theorem wlk1_fail {s : Wk7} {m : Str} (h : s.2.1.getLast? = some m) : wlk1 s ("fail", m) = some (putA s.1 m "absent", s.2.1.dropLast, s.2.2) := by
  unfold wlk1
  rw [if_neg (fun z => absurd z.1 (by dsimp only; decide +kernel)), if_pos ⟨.inr rfl, h⟩, if_neg (by dsimp only; decide +kernel)]
structure EvI (cap : Nat) (run : List Str) (w : Wd) : Prop where
  wk : ∃ b, wlk ([], [], 0) w.ev = some (w.st, run, b) ∧ b + w.left ≤ cap
  st : ∀ p ∈ w.st, p.2 = "absent" ∨ p.2 = "running" ∨ p.2 = "done"
  rn : ∀ m ∈ run, told w m = "running"
theorem told_put {w : Wd} {m m' x : Str} {st' : List (Str × Str)} (e : st' = putA w.st m x) : (valA st' m').getD "absent" = if m = m' then x else told w m' := by
  rw [e, valA_put]
  by_cases h : m = m'
  · rw [if_pos h, if_pos h]; rfl
  · rw [if_neg h, if_neg h]; rfl
theorem st_put {st : List (Str × Str)} {m x : Str} (h : ∀ p ∈ st, p.2 = "absent" ∨ p.2 = "running" ∨ p.2 = "done") (hx : x = "absent" ∨ x = "running" ∨ x = "done") : ∀ p ∈ putA st m x, p.2 = "absent" ∨ p.2 = "running" ∨ p.2 = "done" := fun p hp => by
  rcases mem_putA hp with rfl | hp
  · exact hx
  · exact h p hp
theorem told_cases {w : Wd} (h : ∀ p ∈ w.st, p.2 = "absent" ∨ p.2 = "running" ∨ p.2 = "done") (m : Str) : told w m = "absent" ∨ told w m = "running" ∨ told w m = "done" := by
  unfold told
  cases e : valA w.st m with
  | none => exact .inl rfl
  | some x => exact h _ (valA_some e)
theorem evI_runI (F : Fb) (cap : Nat) : RunI F (EvI cap) := by
  refine ⟨fun run w x i => ⟨i.wk, i.st, i.rn⟩, fun run w x i => ⟨i.wk, i.st, i.rn⟩, fun run w hl i => ⟨?_, i.st, i.rn⟩, fun run w m b _ ha i => ⟨?_, i.st, i.rn⟩, fun run w m b _ ha hl i => ?_, fun run w m b _ nm i => ?_, fun run w m b _ nm i => ?_⟩
  · obtain ⟨b, h1, h2⟩ := i.wk
    exact ⟨b, h1, by show b + (w.left - 1) ≤ cap; omega⟩
  · obtain ⟨b, h1, h2⟩ := i.wk
    refine ⟨b, wlk_snoc h1 ?_, h2⟩
    rcases told_cases i.st m with e | e | e
    · exact absurd e ha
    · rw [if_pos e]
      exact wlk1_half e
    · rw [if_neg (by rw [e]; decide +kernel)]
      exact wlk1_again e
  · obtain ⟨b, h1, h2⟩ := i.wk
    have nm : m ∉ run := fun z => by
      have := i.rn m z
      rw [ha] at this
      exact absurd this (by decide +kernel)
    refine ⟨nm, ⟨b + 1, wlk_snoc h1 ?_, ?_⟩, st_put i.st (.inr (.inl rfl)), fun m' hm' => ?_⟩
    · exact wlk1_begin ha
    · show b + 1 + (w.left - 1) ≤ cap
      omega
    · show (valA (putA w.st m "running") m').getD "absent" = _
      rw [told_put rfl]
      by_cases e : m = m'
      · rw [if_pos e]
      · rw [if_neg e]
        rcases List.mem_append.mp hm' with z | z
        · exact i.rn _ z
        · exact absurd (List.mem_singleton.mp z).symm e
  · obtain ⟨b, h1, h2⟩ := i.wk
    refine ⟨⟨b, wlk_snoc h1 ?_, h2⟩, st_put i.st (.inr (.inr rfl)), fun m' hm' => ?_⟩
    · rw [wlk1_end (by simp)]
      simp [endOk]
    · show (valA (putA w.st m "done") m').getD "absent" = _
      rw [told_put rfl, if_neg (fun e => nm (by rw [e]; exact hm'))]
      exact i.rn _ (List.mem_append_left _ hm')
  · obtain ⟨b, h1, h2⟩ := i.wk
    refine ⟨⟨b, wlk_snoc h1 ?_, h2⟩, st_put i.st (.inl rfl), fun m' hm' => ?_⟩
    · rw [wlk1_fail (by simp)]
      simp [endFail]
    · show (valA (putA w.st m "absent") m').getD "absent" = _
      rw [told_put rfl, if_neg (fun e => nm (by rw [e]; exact hm'))]
      exact i.rn _ (List.mem_append_left _ hm')
end M


namespace M
open PySem PySem.Spec PyProof.Rows L2
/-! ### == of all kinds of data, dicts too -/
def rEqDT (K : PySem.W.Frag) : R2 := fun x y H Q => ∃ a b ks ls, x = .ref a ∧ y = .ref b ∧ H a = some (.dK ks) ∧ H b = some (.dK ls) ∧ ks.length = ls.length ∧ (∀ p ∈ ks, ∃ u d, valV ls p.1 = some u ∧ Dp K H p.2 d ∧ Dp K H u d ∧ SeqAt.shaped d = true ∧ PyData.eqv d d = true) ∧ Q (.bl true) H
theorem op_eqDT {X : Cx} (hu : X.A.units + 80 < cLine) : OpR X (compareOp .Eq) (rEqDT X.K) := by
  intro pins s σ H x y v u Q I rx ry h
  obtain ⟨a, b, ks, ls, rfl, rfl, ha, hb, hl, hp, q⟩ := h
  cases (show v = Value.ref a from rx)
  cases (show u = Value.ref b from ry)
  obtain ⟨_, ya, va, ra, da⟩ := (show ObjOk X.prog X.w H s.heap a (.dK ks) from I.hok a _ ha)
  obtain ⟨_, yb, vb, rb, db⟩ := (show ObjOk X.prog X.w H s.heap b (.dK ls) from I.hok b _ hb)
  refine PySem.W.rcP_dicts (knd := mixKind X.prog X.w) (r := true) ya yb da db (by omega) (fun _ => hits_run (F := fun x y => ∃ d, Dp X.K H x d ∧ Dp X.K H y d ∧ SeqAt.shaped d = true ∧ PyData.eqv d d = true) (fun x y v u h rx ry => ?_) rb ra (fun p hm => ?_)) _ _ ?_
  · obtain ⟨d, h1, h2, h3, h4⟩ := h
    obtain ⟨as, r1⟩ := Dp.reads I d x v h1 rx
    obtain ⟨bs, r2⟩ := Dp.reads I d y u h2 ry
    have k := PySem.W.keq_at (A := X.A) r1 r2 h3 h3 (by show X.A.units + 1 + 64 < cLine; omega)
    rw [h4] at k
    exact k.eqP
  · obtain ⟨u, d, e, h1, h2, h3, h4⟩ := hp p hm
    exact ⟨u, e, d, h1, h2, h3, h4⟩
  · have e : va.length = vb.length := by rw [← ra.length, ← rb.length]; exact hl
    rw [show (va.length == vb.length && true) = true from by rw [e]; simp]
    exact ⟨.bl true, H, I, rfl, q⟩
def rEqA (K : PySem.W.Frag) : R2 := fun x y H Q => rEqX K x y H Q ∨ rEqDT K x y H Q
theorem op_eqA {X : Cx} (hu : X.A.units + 80 < cLine) : OpR X (compareOp .Eq) (rEqA X.K) := OpR.or (op_eqX (by omega)) (op_eqDT hu)
end M


namespace M
open PySem L2 L2H SlX
theorem wlk_at {s0 s1 : Wk7} {ev : List (Str × Str)} {i : Nat} {e : Str × Str} (h : wlk s0 ev = some s1) (hi : ev[i]? = some e) : ∃ s s', wlk s0 (ev.take i) = some s ∧ wlk1 s e = some s' ∧ wlk s0 (ev.take (i + 1)) = some s' := by
  have hs : ev = ev.take i ++ e :: ev.drop (i + 1) := split_at hi
  have h2 := h
  rw [hs, wlk_app] at h2
  cases q : wlk s0 (ev.take i) with
  | none => rw [q] at h2; cases h2
  | some s =>
    rw [q] at h2
    have h3 : (wlk1 s e).bind (fun s' => wlk s' (ev.drop (i + 1))) = some s1 := h2
    cases q2 : wlk1 s e with
    | none => rw [q2] at h3; cases h3
    | some s' =>
      refine ⟨s, s', rfl, q2, ?_⟩
      have e2 : ev.take (i + 1) = ev.take i ++ [e] := by rw [List.take_succ, hi]; rfl
      rw [e2]
      exact wlk_snoc q q2
theorem wlk1_cases {s s' : Wk7} {e : Str × Str} (h : wlk1 s e = some s') :
    (e.1 = "begin" ∧ now7 s e.2 = "absent" ∧ s' = (putA s.1 e.2 "running", s.2.1 ++ [e.2], s.2.2 + 1)) ∨
    (e.1 = "end" ∧ (∃ r, s.2.1 = r ++ [e.2] ∧ s' = (putA s.1 e.2 "done", r, s.2.2))) ∨
    (e.1 = "fail" ∧ (∃ r, s.2.1 = r ++ [e.2] ∧ s' = (putA s.1 e.2 "absent", r, s.2.2))) ∨
    (e.1 = "half" ∧ now7 s e.2 = "running" ∧ s' = s) ∨ (e.1 = "again" ∧ now7 s e.2 = "done" ∧ s' = s) := by
  unfold wlk1 at h
  split at h
  · rename_i z
    exact .inl ⟨z.1, z.2, (Option.some.inj h).symm⟩
  · split at h
    · rename_i z1 z
      obtain ⟨z2, z3⟩ := z
      have hr : s.2.1 = s.2.1.dropLast ++ [e.2] := by
        rcases List.eq_nil_or_concat s.2.1 with q | ⟨l, a, q⟩
        · rw [q] at z3; cases z3
        · rw [List.concat_eq_append] at q
          rw [q] at z3 ⊢
          simp at z3
          rw [z3]; simp
      rcases z2 with z2 | z2
      · refine .inr (.inl ⟨z2, s.2.1.dropLast, hr, ?_⟩)
        rw [if_pos z2] at h
        exact (Option.some.inj h).symm
      · refine .inr (.inr (.inl ⟨z2, s.2.1.dropLast, hr, ?_⟩))
        rw [if_neg (by rw [z2]; decide +kernel)] at h
        exact (Option.some.inj h).symm
    · rename_i z1 z4
      by_cases z : (e.1 = "half" ∨ e.1 = "again") ∧ now7 s e.2 = (if e.1 = "half" then ("running" : Str) else "done")
      · rw [if_pos z] at h
        obtain ⟨z2, z3⟩ := z
        rcases z2 with z2 | z2
        · refine .inr (.inr (.inr (.inl ⟨z2, ?_, (Option.some.inj h).symm⟩)))
          rw [if_pos z2] at z3; exact z3
        · refine .inr (.inr (.inr (.inr ⟨z2, ?_, (Option.some.inj h).symm⟩)))
          rw [if_neg (by rw [z2]; decide +kernel)] at z3; exact z3
      · rw [if_neg z] at h
        cases h
theorem get_str {m : List (Key × V)} {st : List (Str × Str)} (r : MapR kS (fun v s => v = .str s) m st) (n z : Str) : (valV m (.inr n)).getD (.str z) = .str ((valA st n).getD z) := by
  rcases r.val kS_inj n with ⟨e1, e2⟩ | ⟨v, b, e1, e2, e3⟩
  · rw [show valV m (.inr n) = none from e1, e2]; rfl
  · rw [show valV m (.inr n) = some v from e1, e2, e3]; rfl
theorem putA_len {st : List (Str × Str)} {m x : Str} {i : Nat} (h : st.length ≤ i) : (putA st m x).length ≤ i + 1 := by
  unfold putA
  split
  · rw [List.length_map]; omega
  · rw [List.length_append]; simp; omega
theorem dp_strs {K : PySem.W.Frag} {H : Hp} (l : List Str) : DpAll K H (l.map V.str) (l.map PyData.str) := by
  induction l with
  | nil => exact .nil
  | cons x r ih => exact .cons (.str x) ih
theorem shaped_strs {l : List Str} (h : ∀ x ∈ l, PyData.strOk x = true) : SeqAt.shaped (.list (l.map PyData.str)) = true := (shaped_list _).mpr fun d m => by
  obtain ⟨x, hx, rfl⟩ := List.mem_map.mp m
  exact ⟨by simp only [PyData.canLay0]; exact h x hx, by simp [PyData.depth]⟩
def sp_law_walked (K : PySem.W.Frag) : Sp := fun vs H Q _ => ∃ a ev s1, vs = [.ref a] ∧ Im K H (.ref a) (.tuple (ev.map evD)) ∧ wlk ([], [], 0) ev = some s1 ∧ ev.length ≤ 10000 ∧ (∀ e ∈ ev, PyData.strOk e.2 = true) ∧
  ∀ p d l m H', SqT K H' p [.ref d, .ref l, .int (s1.2.2 : Nat)] → H' d = some (.dK m) → MapR kS (fun v s => v = .str s) m s1.1 → H' l = some (.lst (s1.2.1.map V.str)) → Keep [] H H' → Q (.ref p) H'
def t_law_walked (K : PySem.W.Frag)  : TS := (tSeq (tPar3 2 3 4 (tCons tDNew (tCons (tLstX tNil) (tCons (tC (.int 0)) tNil))))
  (tSeq (tFor (iSeq K (tVar 0)) (gName 1) (tSeq (tIfS (tOr (tNot (tB (tCB (rIsi K) (tCons (tVar 1) (tCons (tC (.ty "tuple")) tNil))))) (tTest (tOp (rNeX K) (tCB (rLen K) (tCons (tVar 1) tNil)) (tC (.int 2))))) (tRet (tC .non)) tNext)
  (tSeq (tAsg (tVar 1) (gTup K 2 (gCons (gName 6) (gCons (gName 7) gNil))))
  (tSeq (tAsg (tBM K "dict" rGet2 (tVar 2) (tCons (tVar 7) (tCons (tC (.str "absent")) tNil))) (gName 5))
  (tIfS (tAnd (tTest (tOp (rEqX K) (tVar 6) (tC (.str "begin")))) (tTest (tOp (rEqX K) (tVar 5) (tC (.str "absent"))))) (tSeq (tAsg (tC (.str "running")) (gSub (tVar 2) (tVar 7) rSetD))
  (tSeq (tDrop (tBM K "list" rAppend (tVar 3) (tCons (tVar 7) tNil)))
  (tAsg (tOp (rAdd K) (tVar 4) (tC (.int 1))) (gName 4)))) (tIfS (tAnd (tTest (tOp (rInX K) (tVar 6) (tTupX K (tCons (tC (.str "end")) (tCons (tC (.str "fail")) tNil))))) (tAnd (tTest (tOp (rNeX K) (tVar 3) (tLstX tNil))) (tTest (tOp (rEqX K) (tOp (rIx K) (tVar 3) (tUn rNegI (tC (.int 1)))) (tVar 7))))) (tSeq (tAsg (tIf (tTest (tOp (rEqX K) (tVar 6) (tC (.str "end")))) (tC (.str "done")) (tC (.str "absent"))) (gSub (tVar 2) (tVar 7) rSetD))
  (tDrop (tBM0 K "list" rPop (tVar 3)))) (tIfS (tOr (tTest (tOp (rNotInX K) (tVar 6) (tTupX K (tCons (tC (.str "half")) (tCons (tC (.str "again")) tNil))))) (tTest (tOp (rNeX K) (tVar 5) (tIf (tTest (tOp (rEqX K) (tVar 6) (tC (.str "half")))) (tC (.str "running")) (tC (.str "done")))))) (tRet (tC .non)) tNext)))))))
  (tRet (tTupX K (tCons (tVar 2) (tCons (tVar 3) (tCons (tVar 4) tNil)))))))
def n_law_walked : List Str := ["_law_events", "_law_event", "_law_status", "_law_running", "_law_begins", "_law_now", "_law_word", "_law_module"]
theorem pure_law_walked {K : PySem.W.Frag} (vs : List V) (H : Hp) (Q : VK) (E : XK) (h : sp_law_walked K vs H Q E) : t_law_walked K { nx := fun _ H' => Q .non H', rt := Q } (start n_law_walked vs) H := by
  obtain ⟨a, ev, s1, rfl, ia, hw, hl, hok, q⟩ := h
  show t_law_walked K _ [some (.ref a), none, none, none, none, none, none, none] H
  unfold t_law_walked
  have sl := sl_eq
  row_readAll go
  refine v_dnew fun d H1 f1 k1 g1 => ?_
  refine v_mkL (by simp) fun l H2 f2 k2 g2 => ?_
  row_readAll go
  obtain ⟨a', xs, e, sa, ha⟩ := ia.of_tup
  cases e
  have k12 : Keep [] H H2 := k1.trans k2
  have nld : l ≠ d := fun z => by rw [z, g1] at f2; cases f2
  have gd2 := k2.obj _ _ List.not_mem_nil g1
  refine .inr ⟨⟨_, k12.sqT sa⟩, ?_⟩
  obtain ⟨Pv, hPv⟩ : ∃ Pv : Nat → L2.St → Hp → Prop, ∀ i σ' H', Pv i σ' H' ↔ (∃ s o1 o5 o6 o7 m, σ' = [some (.ref a), o1, some (.ref d), some (.ref l), some (.int (s.2.2 : Nat)), o5, o6, o7] ∧ wlk ([], [], 0) (ev.take i) = some s ∧ s.1.length ≤ i ∧ s.2.1.length ≤ i ∧ (∀ x ∈ s.2.1, PyData.strOk x = true) ∧
      H' d = some (.dK m) ∧ MapR kS (fun v s => v = .str s) m s.1 ∧ H' l = some (.lst (s.2.1.map V.str)) ∧ Keep [d, l] H2 H') := ⟨_, fun _ _ _ => Iff.rfl⟩
  refine loop_W (S := [d, l]) (Wk.tup (k12.sqT sa)) Pv
    (fun i σ' H' p => by obtain ⟨_, _, _, _, _, _, _, _, _, _, _, _, _, _, k⟩ := (hPv _ _ _).mp p; exact k)
    ((hPv _ _ _).mpr ⟨([], [], 0), none, none, none, none, [], rfl, rfl, by simp, by simp, by simp, gd2, .nil, g2, Keep.refl _ _⟩) ?_ ?_
  · intro i x σ' H3 H4 hx hp k4
    obtain ⟨s, o1, o5, o6, o7, m, rfl, w3, l1, l2, ok3, hd3, rm, hl3, k3⟩ := (hPv _ _ _).mp hp
    clear hp
    obtain ⟨dd, hdd, ix⟩ := ha.get hx
    rw [List.getElem?_map, Option.map_eq_some_iff] at hdd
    obtain ⟨e, he, rfl⟩ := hdd
    obtain ⟨s9, s', z1, z2, z3⟩ := wlk_at hw he
    rw [w3] at z1
    cases z1
    have hi := get_lt he
    have he2 := hok e (List.mem_of_getElem? he)
    have kk : Keep [d, l] H2 H4 := k3.step0 k4
    have kh : Keep [] H H4 := k12.step kk (sub_cons (.inr f1) (sub_cons (.inr (k1.free f2)) sub_nil))
    obtain ⟨ax, xs3, rfl, sx, hxs⟩ := ix.of_tup
    obtain ⟨v0, r, rfl, i0, hxs⟩ := hxs.of_cons
    obtain ⟨v1, r, rfl, i1, hxs⟩ := hxs.of_cons
    cases hxs.of_nil
    cases i0.of_str
    cases i1.of_str
    have sx4 := kh.sqT sx
    have hd4 := k4.obj _ _ List.not_mem_nil hd3
    have hl4 := k4.obj _ _ List.not_mem_nil hl3
    have lm := rm.length
    row_readAll go
    refine v_lenT sx4 ?_
    row_readAll go
    rw [show (!decide (((2 : Nat) : Int) = 2)) = false from rfl]
    row_readAll go
    refine v_tup2 sx4 ?_
    row_readAll go
    refine v_tyD hd4 (v_get2 (.inl hd4) ?_)
    rw [get_str rm]
    have ndl : d ≠ l := Ne.symm nld
    obtain ⟨ew, em⟩ := e
    rcases wlk1_cases z2 with ⟨h1, h2, rfl⟩ | ⟨h1, r, h2, rfl⟩ | ⟨h1, r, h2, rfl⟩ | ⟨h1, h2, rfl⟩ | ⟨h1, h2, rfl⟩
    · replace h1 : ew = "begin" := h1
      subst h1
      rw [show (valA s.1 em).getD "absent" = "absent" from h2]
      row_readAll go
      refine v_setD hd4 (by omega) fun H5 k5 g5 => ?_
      have hl5 := k5.obj _ _ (by simpa using nld) hl4
      row_readAll go
      refine v_tyL hl5 ?_
      refine v_append hl5 (by simp; omega) fun H6 k6 g6 => ?_
      row_readAll go
      rw [show ((s.2.2 : Nat) : Int) + 1 = ((s.2.2 + 1 : Nat) : Int) from by omega]
      refine (hPv _ _ _).mpr ⟨(putA s.1 em "running", s.2.1 ++ [em], s.2.2 + 1), _, _, _, _, _, rfl, z3, ?_, ?_, ?_, k6.obj _ _ (by simpa using ndl) g5, rm.put kS_inj rfl, ?_, ?_⟩
      · exact putA_len l1
      · simp; omega
      · intro x hx
        rcases List.mem_append.mp hx with hx | hx
        · exact ok3 x hx
        · rw [List.mem_singleton.mp hx]; exact he2
      · rw [g6]; simp
      · exact (kk.trans (k5.mono (by simp))).trans (k6.mono (by simp))
    · replace h1 : ew = "end" := h1
      subst h1
      have hl4' : H4 l = some (.lst (r.map V.str ++ [.str em])) := by rw [hl4, h2]; simp
      row_readAll go
      refine v_mkT (by row_readAll ln) fun t5 H5 f5 k5 g5 => ?_
      refine v_in2 g5 ?_
      rw [show (decide ((Str.ofString "end") = Str.ofString "end") || decide ((Str.ofString "end") = Str.ofString "fail")) = true from by decide +kernel]
      row_readAll go
      refine v_mkL (by simp) fun l6 H6 f6 k6 g6 => ?_
      have k46 := k5.trans k6
      refine v_neNil (k46.obj _ _ List.not_mem_nil hl4') (by rw [show r.map V.str ++ [V.str em] = (r ++ [em]).map V.str from by simp]; exact dp_strs (r ++ [em])) g6 (shaped_strs fun x hx => ok3 x (by rw [h2]; exact hx)) ?_
      rw [show (r.map V.str ++ [V.str em]).isEmpty = false from by simp]
      row_readAll go
      refine v_ixL (SqL.of (k46.obj _ _ List.not_mem_nil hl4')) (atI_last (v := .str em) (by simp)) ?_
      row_readAll go
      refine v_setD (k46.obj _ _ List.not_mem_nil hd4) (by omega) fun H7 k7 g7 => ?_
      have hl7 := k7.obj _ _ (by simpa using nld) (k46.obj _ _ List.not_mem_nil hl4')
      row_readAll go
      refine v_tyL hl7 (v_pop hl7 fun H8 k8 g8 => ?_)
      row_readAll go
      refine (hPv _ _ _).mpr ⟨(putA s.1 em "done", r, s.2.2), _, _, _, _, _, rfl, z3, putA_len l1, ?_, fun x hx => ok3 x (by rw [h2]; exact List.mem_append_left _ hx), k8.obj _ _ (by simpa using ndl) g7, rm.put kS_inj rfl, g8, ?_⟩
      · rw [h2] at l2; simp at l2; show r.length ≤ i + 1; omega
      · exact ((kk.step0 k46).trans (k7.mono (by simp))).trans (k8.mono (by simp))
    · replace h1 : ew = "fail" := h1
      subst h1
      have hl4' : H4 l = some (.lst (r.map V.str ++ [.str em])) := by rw [hl4, h2]; simp
      row_readAll go
      refine v_mkT (by row_readAll ln) fun t5 H5 f5 k5 g5 => ?_
      refine v_in2 g5 ?_
      rw [show (decide ((Str.ofString "fail") = Str.ofString "end") || decide ((Str.ofString "fail") = Str.ofString "fail")) = true from by decide +kernel]
      row_readAll go
      refine v_mkL (by simp) fun l6 H6 f6 k6 g6 => ?_
      have k46 := k5.trans k6
      refine v_neNil (k46.obj _ _ List.not_mem_nil hl4') (by rw [show r.map V.str ++ [V.str em] = (r ++ [em]).map V.str from by simp]; exact dp_strs (r ++ [em])) g6 (shaped_strs fun x hx => ok3 x (by rw [h2]; exact hx)) ?_
      rw [show (r.map V.str ++ [V.str em]).isEmpty = false from by simp]
      row_readAll go
      refine v_ixL (SqL.of (k46.obj _ _ List.not_mem_nil hl4')) (atI_last (v := .str em) (by simp)) ?_
      row_readAll go
      refine v_setD (k46.obj _ _ List.not_mem_nil hd4) (by omega) fun H7 k7 g7 => ?_
      have hl7 := k7.obj _ _ (by simpa using nld) (k46.obj _ _ List.not_mem_nil hl4')
      row_readAll go
      refine v_tyL hl7 (v_pop hl7 fun H8 k8 g8 => ?_)
      row_readAll go
      refine (hPv _ _ _).mpr ⟨(putA s.1 em "absent", r, s.2.2), _, _, _, _, _, rfl, z3, putA_len l1, ?_, fun x hx => ok3 x (by rw [h2]; exact List.mem_append_left _ hx), k8.obj _ _ (by simpa using ndl) g7, rm.put kS_inj rfl, g8, ?_⟩
      · rw [h2] at l2; simp at l2; show r.length ≤ i + 1; omega
      · exact ((kk.step0 k46).trans (k7.mono (by simp))).trans (k8.mono (by simp))
    · replace h1 : ew = "half" := h1
      subst h1
      rw [show (valA s'.1 em).getD "absent" = "running" from h2]
      row_readAll go
      refine v_mkT (by row_readAll ln) fun t5 H5 f5 k5 g5 => ?_
      refine v_in2 g5 ?_
      rw [show (decide ((Str.ofString "half") = Str.ofString "end") || decide ((Str.ofString "half") = Str.ofString "fail")) = false from by decide +kernel]
      row_readAll go
      refine v_mkT (by row_readAll ln) fun t6 H6 f6 k6 g6 => ?_
      refine v_ninT (l := ["half", "again"]) g6 ?_
      rw [show (!decide ((Str.ofString "half") ∈ [Str.ofString "half", Str.ofString "again"])) = false from by decide +kernel]
      row_readAll go
      have k46 := k5.trans k6
      exact (hPv _ _ _).mpr ⟨s', _, _, _, _, _, rfl, z3, by omega, by omega, ok3, k46.obj _ _ List.not_mem_nil hd4, rm, k46.obj _ _ List.not_mem_nil hl4, kk.step0 k46⟩
    · replace h1 : ew = "again" := h1
      subst h1
      rw [show (valA s'.1 em).getD "absent" = "done" from h2]
      row_readAll go
      refine v_mkT (by row_readAll ln) fun t5 H5 f5 k5 g5 => ?_
      refine v_in2 g5 ?_
      rw [show (decide ((Str.ofString "again") = Str.ofString "end") || decide ((Str.ofString "again") = Str.ofString "fail")) = false from by decide +kernel]
      row_readAll go
      refine v_mkT (by row_readAll ln) fun t6 H6 f6 k6 g6 => ?_
      refine v_ninT (l := ["half", "again"]) g6 ?_
      rw [show (!decide ((Str.ofString "again") ∈ [Str.ofString "half", Str.ofString "again"])) = false from by decide +kernel]
      row_readAll go
      have k46 := k5.trans k6
      exact (hPv _ _ _).mpr ⟨s', _, _, _, _, _, rfl, z3, by omega, by omega, ok3, k46.obj _ _ List.not_mem_nil hd4, rm, k46.obj _ _ List.not_mem_nil hl4, kk.step0 k46⟩
  · intro σ' H3 hp
    obtain ⟨s, o1, o5, o6, o7, m, rfl, w3, l1, l2, ok3, hd3, rm, hl3, k3⟩ := (hPv _ _ _).mp hp
    have le : xs.length = ev.length := by rw [ha.length, List.length_map]
    rw [le, List.take_length, hw] at w3
    cases w3
    row_readAll go
    refine v_mkT (by row_readAll ln) fun t5 H5 f5 k5 g5 => ?_
    exact q t5 d l m H5 g5 (k5.obj _ _ List.not_mem_nil hd3) rm (k5.obj _ _ List.not_mem_nil hl3) ((k12.step k3 (sub_cons (.inr f1) (sub_cons (.inr (k1.free f2)) sub_nil))).trans k5)
end M


namespace M
open PySem L2
/-! ### a run's events, as the law asks -/
structure EvJ (cap : Nat) (pre : List (Str × Str)) (run : List Str) (w : Wd) : Prop where
  i : EvI cap run w
  p : ∃ l, w.ev = pre ++ l
theorem evJ_runI (F : Fb) (cap : Nat) (pre : List (Str × Str)) : RunI F (EvJ cap pre) := by
  have R := evI_runI F cap
  have sn : ∀ {w : Wd} {e : Str × Str}, (∃ l, w.ev = pre ++ l) → ∃ l, w.ev ++ [e] = pre ++ l := fun {w e} ⟨l, h⟩ => ⟨l ++ [e], by rw [h, List.append_assoc]⟩
  exact ⟨fun run w x j => ⟨R.vs run w x j.i, j.p⟩, fun run w x j => ⟨R.sh run w x j.i, j.p⟩, fun run w h j => ⟨R.lf run w h j.i, j.p⟩, fun run w m b h1 h2 j => ⟨R.met run w m b h1 h2 j.i, sn j.p⟩,
    fun run w m b h1 h2 h3 j => ⟨(R.ent run w m b h1 h2 h3 j.i).1, (R.ent run w m b h1 h2 h3 j.i).2, sn j.p⟩, fun run w m b h1 h2 j => ⟨R.fin run w m b h1 h2 j.i, sn j.p⟩, fun run w m b h1 h2 j => ⟨R.bad run w m b h1 h2 j.i, sn j.p⟩⟩
structure Law7 (n : Nat) (start : Str) (r : Rs) (run : List Str) (b : Nat) : Prop where
  wk : wlk ([], [], 0) r.w.ev = some (r.w.st, run, b)
  le : b ≤ n
  stp : r.ending ≠ "stopped" → run = []
  fst : 0 < n → ∃ l, r.w.ev = [(("begin" : Str), start)] ++ l
  bad : r.ending ≠ "done" → r.ending ≠ "stopped" → ∃ l, r.w.ev = l ++ [(("fail" : Str), start)]
  fin : 0 < n → (r.ending = "done" ↔ ∃ l, r.w.ev = l ++ [(("end" : Str), start)])
theorem law7 {F : Fb} {start : Str} {n : Nat} {b0 : List Stm} {r : Rs} (e0 : F start = some b0) (er : ranR F start n = some r) : ∃ run b, Law7 n start r run b := by
  unfold ranR ldM at er
  rw [e0] at er
  simp only at er
  have ta : told (wStart n) start = "absent" := rfl
  rw [if_neg (by rw [ta]; simp)] at er
  have i0 : EvI n [] (wStart n) := ⟨⟨0, rfl, by show 0 + n ≤ n; omega⟩, fun p hp => (by cases hp), fun m hm => (by cases hm)⟩
  split at er
  · rename_i hn
    have hn : n = 0 := hn
    cases er
    subst hn
    exact ⟨[], 0, rfl, Nat.le_refl _, fun _ => rfl, fun h => absurd h (by decide), fun h1 h2 => absurd rfl h2, fun h => absurd h (by decide)⟩
  · rename_i hn
    have hn : n ≠ 0 := hn
    cases e2 : lower (Go F) 195 3 [] start [] b0 (entered start (wStart n)) with
    | none => rw [e2] at er; cases er
    | some r2 =>
      rw [e2] at er
      obtain rfl : ldEnd start r2 = r := Option.some.inj er
      have R := evI_runI F n
      have RJ := evJ_runI F n [("begin", start)]
      have i1 := (R.ent [] (wStart n) start b0 e0 ta hn i0).2
      have j1 : EvJ n [("begin", start)] ([] ++ [start]) (entered start (wStart n)) := ⟨i1, [], rfl⟩
      have p := lower_I (k := 3) (n := 195) (I := EvJ n [("begin", start)]) (g := Go F) (fun j _ => Go_I RJ j) (by decide) _ _ _ _ _ _ _ j1 e2
      have nok : ∀ (l l' : List (Str × Str)) {a c : Str}, a ≠ c → l ++ [(a, start)] ≠ l' ++ [(c, start)] := fun l l' a c h z => by
        have := List.append_inj' z rfl
        have e := this.2
        simp at e
        exact h e
      cases r2 with
      | ok w2 =>
        have j2 := RJ.fin [] w2 start b0 e0 (by simp) p
        obtain ⟨b, h1, h2⟩ := j2.i.wk
        refine ⟨[], b, h1, by omega, fun _ => rfl, fun _ => j2.p, fun h => absurd rfl h, fun _ => ⟨fun _ => ⟨w2.ev, rfl⟩, fun _ => rfl⟩⟩
      | err k t w2 =>
        obtain ⟨hk, p⟩ := p
        have j2 := RJ.bad [] w2 start b0 e0 (by simp) p
        obtain ⟨b, h1, h2⟩ := j2.i.wk
        refine ⟨[], b, h1, by omega, fun _ => rfl, fun _ => j2.p, fun _ _ => ⟨w2.ev, rfl⟩, fun _ => ⟨fun h => ?_, fun ⟨l, h⟩ => ?_⟩⟩
        · have h : k = "done" := h
          rw [h] at hk
          exact absurd hk (by decide +kernel)
        · exact absurd (show w2.ev ++ [(("fail" : Str), start)] = l ++ [(("end" : Str), start)] from h) (nok _ _ (by decide +kernel))
      | stop t w2 =>
        obtain ⟨x, j2⟩ := p
        obtain ⟨b, h1, h2⟩ := j2.i.wk
        refine ⟨[] ++ [start] ++ x, b, h1, by omega, fun h => absurd rfl h, fun _ => j2.p, fun _ h => absurd rfl h, fun _ => ⟨fun h => absurd (show ("stopped" : Str) = "done" from h) (by decide +kernel), fun ⟨l, h⟩ => ?_⟩⟩
        exfalso
        have h : w2.ev = l ++ [(("end" : Str), start)] := h
        have rn := j2.i.rn start (by simp)
        rw [h, wlk_app] at h1
        cases q : wlk ([], [], 0) l with
        | none => rw [q] at h1; cases h1
        | some s =>
          rw [q] at h1
          have h3 : (wlk1 s ("end", start)).bind (fun s' => wlk s' []) = some (w2.st, [] ++ [start] ++ x, b) := h1
          cases q2 : wlk1 s ("end", start) with
          | none => rw [q2] at h3; cases h3
          | some s' =>
            rw [q2] at h3
            have h4 : s' = (w2.st, [] ++ [start] ++ x, b) := Option.some.inj h3
            rcases wlk1_cases q2 with ⟨z, _⟩ | ⟨_, r, _, z⟩ | ⟨z, _⟩ | ⟨z, _⟩ | ⟨z, _⟩
            · exact absurd z (by dsimp only; decide +kernel)
            · rw [z] at h4
              have h5 : putA s.1 start "done" = w2.st := congrArg (fun y : Wk7 => y.1) h4
              unfold told at rn
              rw [← h5, valA_put, if_pos rfl] at rn
              exact absurd rn (by decide +kernel)
            · exact absurd z (by dsimp only; decide +kernel)
            · exact absurd z (by dsimp only; decide +kernel)
            · exact absurd z (by dsimp only; decide +kernel)
end M


namespace M
open PySem L2 L2H SlX
/-! ### _law_alike of two equal strings -/
def sp_no : Sp := fun _ _ _ _ => False
def sp_law_alike (K : PySem.W.Frag) : Sp := fun vs H Q _ => ∃ x, vs = [.str x, .str x] ∧ ∀ H', Keep [] H H' → Q (.bl true) H'
def t_law_alike (K : PySem.W.Frag) (sp : Sp) : TS := (tSeq (tIfS (tB (tCB (rIsi K) (tCons (tVar 1) (tCons (tC (.ty "dict")) tNil)))) (tRet (tAndV (tCB (rIsi K) (tCons (tVar 0) (tCons (tC (.ty "dict")) tNil))) (tAndV (tCall sp [] E0 (tCons (tCB rListD (tCons (tVar 0) tNil)) (tCons (tCB rListD (tCons (tVar 1) tNil)) tNil))) (tOp (rEqA K) (tVar 0) (tVar 1))))) tNext)
  (tSeq (tIfS (tB (tCB (rIsiT K) (tCons (tVar 1) (tCons (tTupN (tCons (tC (.ty "tuple")) (tCons (tC (.ty "list")) tNil))) tNil)))) (tSeq (tIfS (tOr (tNot (tB (tCB (rIsiT K) (tCons (tVar 0) (tCons (tTupN (tCons (tC (.ty "tuple")) (tCons (tC (.ty "list")) tNil))) tNil))))) (tTest (tOp (rNeX K) (tCB (rIsi K) (tCons (tVar 0) (tCons (tC (.ty "list")) tNil))) (tCB (rIsi K) (tCons (tVar 1) (tCons (tC (.ty "list")) tNil)))))) (tRet (tC (.bl false))) tNext)
  (tSeq (tIfS (tTest (tOp (rNeX K) (tCB (rLen K) (tCons (tVar 0) tNil)) (tCB (rLen K) (tCons (tVar 1) tNil)))) (tRet (tC (.bl false))) tNext)
  (tRet (tOp (rEqX K) (tLc (iRng1 (tCons (tCB (rLen K) (tCons (tVar 1) tNil)) tNil)) (gName 2) (tNot (tB (tCall sp [] E0 (tCons (tOp (rIx K) (tVar 0) (tVar 2)) (tCons (tOp (rIx K) (tVar 1) (tVar 2)) tNil))))) (tVar 2) [2]) (tLstX tNil))))) tNext)
  (tSeq (tIfS (tOr (tTest (tOp rIsN (tVar 1) (tC .non))) (tB (tCB (rIsi K) (tCons (tVar 1) (tCons (tC (.ty "str")) tNil))))) (tRet (tAndV (tOp (rEqA K) (tVar 0) (tVar 1)) (tOp (rEqX K) (tCB (rIsi K) (tCons (tVar 0) (tCons (tC (.ty "str")) tNil))) (tCB (rIsi K) (tCons (tVar 1) (tCons (tC (.ty "str")) tNil)))))) tNext)
  (tRet (tAndV (tCB (rIsi K) (tCons (tVar 0) (tCons (tC (.ty "int")) tNil))) (tAndV (tOp (rEqX K) (tCB (rIsi K) (tCons (tVar 0) (tCons (tC (.ty "bool")) tNil))) (tCB (rIsi K) (tCons (tVar 1) (tCons (tC (.ty "bool")) tNil)))) (tOp (rEqA K) (tVar 0) (tVar 1))))))))
def n_law_alike : List Str := ["_law_found", "_law_due", "_law_k"]
theorem pure_law_alike {K : PySem.W.Frag} (vs : List V) (H : Hp) (Q : VK) (E : XK) (h : sp_law_alike K vs H Q E) : t_law_alike K sp_no { nx := fun _ H' => Q .non H', rt := Q } (start n_law_alike vs) H := by
  obtain ⟨x, rfl, q⟩ := h
  show t_law_alike K _ _ [some (.str x), some (.str x), none] H
  unfold t_law_alike
  row_readAll go
  refine v_mkN (by row_readAll ln) fun p H1 f1 k1 g1 => ?_
  refine ⟨.str x, p, _, .type "str", [.type "tuple", .type "list"], false, rfl, g1, .cons (.ty "tuple") (.cons (.ty "list") .nil), .base (.str x), by rfl, ?_⟩
  row_readAll go
  refine .inl (v_eqS ?_)
  rw [show decide (x = x) = true from decide_eq_true rfl]
  row_readAll go
  exact v_eqD (Im.bl true).dp (Im.bl true).dp (by rfl) (by rfl) (q H1 k1)
end M


namespace M
open PySem L2
/-! ### drawn programs run -/
theorem sortP_val {P : Prg} (nd : (P.map (·.1)).Nodup) (n : Str) : valA (sortP P) n = valA P n := by
  cases e : valA P n with
  | none =>
    refine valA_none.mpr ?_
    rw [sortP_keys, sortN_mem]
    exact valA_none.mp e
  | some b =>
    refine valA_mem (by rw [sortP_keys]; exact sortN_nodup nd) ?_
    unfold sortP
    refine List.mem_map.mpr ⟨n, ?_, by rw [e]; rfl⟩
    rw [sortN_mem]
    exact List.mem_map_of_mem (f := (·.1)) (valA_some e)
theorem DrawnP.good {ms ns : List Str} {P : Prg} (h : DrawnP ms ns P) : GoodF ms ns (valA (sortP P)) := by
  have nd : (P.map (·.1)).Nodup := by rw [h.keys]; exact h.ndm
  have l1 := h.lm
  have l2 := h.ln
  have l3 : ms.length * ns.length ≤ 4 * 3 := Nat.mul_le_mul l1 l2
  refine ⟨fun m b e => ?_, h.okm, h.okn, by omega, by omega⟩
  rw [sortP_val nd] at e
  have mm := valA_some e
  have d := h.blk _ mm
  exact ⟨by rw [← h.keys]; exact List.mem_map_of_mem (f := (·.1)) mm, d.wf, ⟨_, d.over⟩, d.dep, Nat.le_trans d.cnt (by decide)⟩
theorem DrawnP.has {ms ns : List Str} {P : Prg} (h : DrawnP ms ns P) {s : Str} (m : s ∈ ms) : ∃ b, valA (sortP P) s = some b := by
  have nd : (P.map (·.1)).Nodup := by rw [h.keys]; exact h.ndm
  rw [sortP_val nd]
  cases e : valA P s with
  | none => exact absurd (by rw [h.keys]; exact m) (valA_none.mp e)
  | some b => exact ⟨b, rfl⟩
theorem DrawnP.runs {ms ns : List Str} {P : Prg} (h : DrawnP ms ns P) (s : Str) {n : Nat} (hn : n ≤ 30) : ∃ r, ranR (valA (sortP P)) s n = some r :=
  run_T h.good (by have := h.lm; omega) (good_start n) hn (Nat.le_refl _)
theorem ran_post {ms ns : List Str} {F : Fb} (gf : GoodF ms ns F) {s : Str} {n : Nat} {r : Rs} (e : ranR F s n = some r) : Post ms ns F (wStart n) 3 r :=
  (ldM_post gf (lower_post (fun j _ => Go_post gf j) (by decide)) (good_start n) e).1
theorem ran_ev {ms ns : List Str} {F : Fb} (gf : GoodF ms ns F) {s : Str} {n : Nat} {r : Rs} (hn : n ≤ 30) (e : ranR F s n = some r) : r.w.ev.length ≤ 10000 ∧ ∀ x ∈ r.w.ev, PyData.strOk x.1 = true ∧ PyData.strOk x.2 = true := by
  have p := ran_post gf e
  refine ⟨?_, fun x m => ?_⟩
  · have := p.ph
    simp only [phi, wStart, List.length_nil] at this
    omega
  · obtain ⟨h1, h2⟩ := p.good.ev x m
    refine ⟨?_, (gf.okm _ h1).ok⟩
    rw [List.mem_cons, List.mem_cons, List.mem_cons, List.mem_cons, List.mem_singleton] at h2
    rcases h2 with h | h | h | h | h <;> rw [h] <;> decide +kernel
/-! ### events cut and compared -/
theorem evs_shaped {l : List (Str × Str)} (h : ∀ x ∈ l, PyData.strOk x.1 = true ∧ PyData.strOk x.2 = true) : SeqAt.shaped (.tuple (l.map evD)) = true := (lay_tup _).mpr fun d m => by
  obtain ⟨e, he, rfl⟩ := List.mem_map.mp m
  obtain ⟨h1, h2⟩ := h e he
  refine ⟨?_, ?_⟩
  · simp [evD, PyData.canLay0, PyData.canLayAll0, h1, h2]
  · simp [evD, PyData.depth, PyData.depthAll]
theorem eqv_ev1 (l : List (Str × Str)) (e : Str × Str) : PyData.eqv (.tuple (l.map evD)) (.tuple [evD e]) = decide (l = [e]) := by
  cases l with
  | nil => simp [PyData.eqv, PyData.eqvAll]
  | cons a t =>
    cases t with
    | nil =>
      obtain ⟨a1, a2⟩ := a
      obtain ⟨e1, e2⟩ := e
      have z : ∀ x y : Str, PyData.eqv (.str x) (.str y) = decide (x = y) := fun x y => by simp [PyData.eqv]; rfl
      by_cases h1 : a1 = e1 <;> by_cases h2 : a2 = e2 <;> simp [evD, PyData.eqv, PyData.eqvAll, h1, h2]
    | cons b t => simp [PyData.eqv, PyData.eqvAll]
section
variable {K : PySem.W.Frag} {H : Hp} {Q : VK}
theorem v_slA {a : Addr} {xs : List V} {lo hi : Option Int} (h : SqT K H a xs) (q : ∀ p H', Keep [] H H' → SqT K H' p (cutV xs lo hi) → Q (.ref p) H') : rSlA K (.ref a) lo hi H Q :=
  ⟨a, xs, rfl, h, fun e => q a H (Keep.refl _ _) (by unfold cutV; rw [e.1, e.2]; simpa using h), fun _ p f => q p _ (Keep.new f) (SqT.of upd_same)⟩
theorem ImAll.drop : ∀ {vs : List V} {ds : List PyData} (n : Nat), ImAll K H vs ds → ImAll K H (vs.drop n) (ds.drop n)
  | _, _, 0, h => h
  | _, _, _ + 1, .nil => .nil
  | _, _, n + 1, .cons _ t => ImAll.drop n t
theorem ImAll.take : ∀ {vs : List V} {ds : List PyData} (n : Nat), ImAll K H vs ds → ImAll K H (vs.take n) (ds.take n)
  | _, _, 0, _ => .nil
  | _, _, _ + 1, .nil => .nil
  | _, _, n + 1, .cons h t => .cons h (ImAll.take n t)
theorem v_cutF {a : Addr} {ds : List PyData} (i : Im K H (.ref a) (.tuple ds)) (q : ∀ p H', Keep [] H H' → Im K H' (.ref p) (.tuple (ds.take 1)) → Q (.ref p) H') : rSlA K (.ref a) none (some 1) H Q := by
  obtain ⟨b, xs, e, s, al⟩ := i.of_tup
  cases e
  refine v_slA s fun p H' k s' => q p H' k ?_
  have e : cutV xs none (some 1) = xs.take 1 := by
    unfold cutV
    rw [show HT.sIx xs.length xs.length (some 1) = min 1 xs.length from HT.sIx_nat _ _ 1, HT.sIx_none, List.drop_zero, Nat.sub_zero]
    cases xs <;> simp
  rw [e] at s'
  exact .tup s' ((al.take 1).mono k)
theorem v_cutL {a : Addr} {ds : List PyData} (i : Im K H (.ref a) (.tuple ds)) (q : ∀ p H', Keep [] H H' → Im K H' (.ref p) (.tuple (ds.drop (ds.length - 1))) → Q (.ref p) H') : rSlA K (.ref a) (some (-1)) none H Q := by
  obtain ⟨b, xs, e, s, al⟩ := i.of_tup
  cases e
  refine v_slA s fun p H' k s' => q p H' k ?_
  have e : cutV xs (some (-1)) none = xs.drop (xs.length - 1) := by
    unfold cutV
    have e2 : HT.sIx xs.length 0 (some (-1)) = xs.length - 1 := by
      show (if (-1 : Int) < 0 then ((-1 : Int) + (xs.length : Int)).toNat else min (-1 : Int).toNat xs.length) = xs.length - 1
      rw [if_pos (by decide)]; omega
    rw [e2, HT.sIx_none, List.take_of_length_le (by rw [List.length_drop]; omega)]
  rw [e, al.length] at s'
  exact .tup s' ((al.drop _).mono k)
end
theorem last_one {l : List (Str × Str)} {e : Str × Str} : (l.drop (l.length - 1) = [e]) ↔ ∃ m, l = m ++ [e] := by
  constructor
  · intro h
    exact ⟨l.take (l.length - 1), by rw [← h, List.take_append_drop]⟩
  · rintro ⟨m, rfl⟩
    simp
end M


namespace M
open PySem PySem.Spec PyProof.Rows L2 L2H SlX
section
variable {P : Program} {w : World} {K : PySem.W.Frag} {mg : Str → Option Value} {base : Heap}
theorem sc_is_integer : FnScope ["value"] ["value"] (defScope s_is_integer) := ⟨rfl, rfl, rfl, by decide +kernel, rfl, by decide +kernel, by decide +kernel⟩
theorem ok_is_integer  {f : Addr} {fd : FuncData} (F : FunD K "is_integer" "is_integer" (defArgs s_is_integer) (defBody s_is_integer) (defScope s_is_integer) [] [] f fd) (B : Blt mg)  : FnOk P w K mg base CX0 (0 + 1) f fd ["value"] (sp_is_integer K) := by
  refine F.ok sc_is_integer (fun vs H Q E h => by obtain ⟨_, _, rfl, _⟩ := h; rfl) (fun cdv A outer s H vs Q E hr h => ⟨t_is_integer K , PSs.nox (?_), pure_is_integer vs H Q E h⟩)
  exact (pss_one (ps_ret (pe_and (pe_callB call_isi rfl B.isinstance bt_isinstance (pa_cons (pv 0) (pa_cons (pe_bltn rfl B.int bt_int rfl) pa_nil))) (pe_one (pe_not (pe_callB call_isi rfl B.isinstance bt_isinstance (pa_cons (pv 0) (pa_cons (pe_bltn rfl B.bool bt_bool rfl) pa_nil))))))))
theorem sc_is_name : FnScope ["text", "sign"] ["text"] (defScope s_is_name) := ⟨rfl, rfl, rfl, by decide +kernel, rfl, by decide +kernel, by decide +kernel⟩
theorem ok_is_name  {f : Addr} {fd : FuncData} (F : FunD K "is_name" "is_name" (defArgs s_is_name) (defBody s_is_name) (defScope s_is_name) [] [] f fd) (B : Blt mg) (gk_LETTERS : GS mg "LETTERS" "abcdefghijklmnopqrstuvwxyz") (gk_MAX_LETTERS : GI mg "MAX_LETTERS" 8) : FnOk P w K mg base CX0 (0 + 1) f fd ["text"] (sp_is_name K) := by
  refine F.ok sc_is_name (fun vs H Q E h => by obtain ⟨_, rfl, _⟩ := h; rfl) (fun cdv A outer s H vs Q E hr h => ⟨t_is_name K , PSs.nox (?_), pure_is_name vs H Q E h⟩)
  exact (pss_one (ps_ret (pe_and (pe_chain op_le op_le pe_int (pe_callB cb_len rfl B.len bt_len (pa_cons (pv 0) pa_nil)) (C8.pe_gc rfl gk_MAX_LETTERS)) (pe_one (pe_cmpR (op_eqX hr.units) (pe_lc (own := [("sign", 1)]) (g := (gName 1)) (tt := (tTest (tOp (rNotInX K) (tVar 1) (tC (.str "abcdefghijklmnopqrstuvwxyz"))))) rfl sc_is_name.nd (pi_str (pv 0)) (blkOk_by (N := ["text", "sign"]) (sc := defScope s_is_name) (by decide +kernel)) (fun _ _ _ _ _ => (gN 1 sc_is_name.nd)) (fun _ _ _ _ _ => (pts_one (pt_cmpR op_notInX (pv 1) (C8.pe_gc rfl gk_LETTERS) rfl))) (fun _ _ _ _ _ => (pv 1))) (pe_lstX pa_nil) (nomark _))))))
theorem sc_blocks_of : FnScope ["statement"] ["statement"] (defScope s_blocks_of) := ⟨rfl, rfl, rfl, by decide +kernel, rfl, by decide +kernel, by decide +kernel⟩
theorem ok_blocks_of  {f : Addr} {fd : FuncData} (F : FunD K "blocks_of" "blocks_of" (defArgs s_blocks_of) (defBody s_blocks_of) (defScope s_blocks_of) [] [] f fd) (B : Blt mg)  : FnOk P w K mg base CX0 (0 + 1) f fd ["statement"] (sp_blocks_of K) := by
  refine F.ok sc_blocks_of (fun vs H Q E h => by obtain ⟨_, _, rfl, _⟩ := h; rfl) (fun cdv A outer s H vs Q E hr h => ⟨t_blocks_of K , PSs.nox (?_), pure_blocks_of vs H Q E h⟩)
  exact (pss_cons (ps_if (pt_cmpR (op_eqX hr.units) (pe_ix ix_seq (pv 0) pe_int (fun _ _ => rfl)) pe_str (nomark _)) (pss_one (ps_ret (pe_tupX (pa_cons (pe_ix ix_seq (pv 0) pe_int (fun _ _ => rfl)) pa_nil)))) pss_nil)
  (pss_cons (ps_if (pt_cmpR op_inX (pe_ix ix_seq (pv 0) pe_int (fun _ _ => rfl)) (pe_tupX (pa_cons pe_str (pa_cons pe_str pa_nil))) rfl) (pss_one (ps_ret (pe_tupX (pa_cons (pe_ix ix_seq (pv 0) pe_int (fun _ _ => rfl)) (pa_cons (pe_ix ix_seq (pv 0) pe_int (fun _ _ => rfl)) pa_nil))))) pss_nil)
  (pss_one (ps_ret (pe_tupX pa_nil)))))
theorem sc_names_of : FnScope ["statement", "module", "name", "wanted", "expr", "block"] ["statement"] (defScope s_names_of) := ⟨rfl, rfl, rfl, by decide +kernel, rfl, by decide +kernel, by decide +kernel⟩
theorem ok_names_of  {f : Addr} {fd : FuncData} (F : FunD K "names_of" "names_of" (defArgs s_names_of) (defBody s_names_of) (defScope s_names_of) [] [] f fd) (B : Blt mg)  : FnOk P w K mg base CX0 (0 + 1) f fd ["statement"] (sp_names_of K) := by
  refine F.ok sc_names_of (fun vs H Q E h => by obtain ⟨_, _, rfl, _⟩ := h; rfl) (fun cdv A outer s H vs Q E hr h => ⟨t_names_of K , PSs.nox (?_), pure_names_of vs H Q E h⟩)
  exact (pss_cons (ps_match rfl sc_names_of.nd (pv 0) (pcs_cons (ppt_lit (cN 1 (cN 2 ppt_nil))) (pss_one (ps_ret (pe_tupX (pa_cons (pv 1) (pa_cons (pv 2) pa_nil))))) (pcs_cons (ppt_lit (cN 1 (cN 3 (cN 2 ppt_nil)))) (pss_one (ps_ret (pe_tupX (pa_cons (pv 1) (pa_cons (pv 3) (pa_cons (pv 2) pa_nil)))))) (pcs_cons (ppt_lit (cN 2 (cN 4 ppt_nil))) (pss_one (ps_ret (pe_tupX (pa_cons (pv 2) pa_nil)))) (pcs_cons (ppt_lit (cN 2 (cN 5 ppt_nil))) (pss_one (ps_ret (pe_tupX (pa_cons (pv 2) pa_nil)))) (pcs_cons (ppt_lit (cN 2 ppt_nil)) (pss_one (ps_ret (pe_tupX (pa_cons (pv 2) pa_nil)))) (pcs_cons (ppt_lit (cN 1 ppt_nil)) (pss_one (ps_ret (pe_tupX (pa_cons (pv 1) pa_nil)))) pcs_nil)))))))
  (pss_one (ps_ret (pe_tupX pa_nil))))
theorem sc_expressions_of : FnScope ["statement", "name", "expr", "block", "other"] ["statement"] (defScope s_expressions_of) := ⟨rfl, rfl, rfl, by decide +kernel, rfl, by decide +kernel, by decide +kernel⟩
theorem ok_expressions_of  {f : Addr} {fd : FuncData} (F : FunD K "expressions_of" "expressions_of" (defArgs s_expressions_of) (defBody s_expressions_of) (defScope s_expressions_of) [] [] f fd) (B : Blt mg)  : FnOk P w K mg base CX0 (0 + 1) f fd ["statement"] (sp_expressions_of K) := by
  refine F.ok sc_expressions_of (fun vs H Q E h => by obtain ⟨_, _, rfl, _⟩ := h; rfl) (fun cdv A outer s H vs Q E hr h => ⟨t_expressions_of K , PSs.nox (?_), pure_expressions_of vs H Q E h⟩)
  exact (pss_cons (ps_match rfl sc_expressions_of.nd (pv 0) (pcs_cons (ppt_lit (cN 1 (cN 2 ppt_nil))) (pss_one (ps_ret (pe_tupX (pa_cons (pv 2) pa_nil)))) (pcs_cons (ppt_lit (cN 2 (cN 3 (cN 4 ppt_nil)))) (pss_one (ps_ret (pe_tupX (pa_cons (pv 2) pa_nil)))) (pcs_cons (ppt_lit (cN 2 ppt_nil)) (pss_one (ps_ret (pe_tupX (pa_cons (pv 2) pa_nil)))) (pcs_cons (ppt_lit (cN 2 ppt_nil)) (pss_one (ps_ret (pe_tupX (pa_cons (pv 2) pa_nil)))) pcs_nil)))))
  (pss_one (ps_ret (pe_tupX pa_nil))))
theorem sc_depth_of : FnScope ["path"] ["path"] (defScope s_depth_of) := ⟨rfl, rfl, rfl, by decide +kernel, rfl, by decide +kernel, by decide +kernel⟩
theorem ok_depth_of  {f : Addr} {fd : FuncData} (F : FunD K "depth_of" "depth_of" (defArgs s_depth_of) (defBody s_depth_of) (defScope s_depth_of) [] [] f fd) (B : Blt mg)  : FnOk P w K mg base CX0 (0 + 1) f fd ["path"] (sp_depth_of K) := by
  refine F.ok sc_depth_of (fun vs H Q E h => by obtain ⟨_, _, rfl, _⟩ := h; rfl) (fun cdv A outer s H vs Q E hr h => ⟨t_depth_of K , PSs.nox (?_), pure_depth_of vs H Q E h⟩)
  exact (pss_one (ps_ret (pe_op op_fdivW (pe_callB cb_len rfl B.len bt_len (pa_cons (pv 0) pa_nil)) pe_int)))
theorem sc_is_valid_expression : FnScope ["expr", "operators"] ["expr", "operators"] (defScope s_is_valid_expression) := ⟨rfl, rfl, rfl, by decide +kernel, rfl, by decide +kernel, by decide +kernel⟩
theorem ok_is_valid_expression {n : Nat} {f : Addr} {fd : FuncData} (F : FunD K "is_valid_expression" "is_valid_expression" (defArgs s_is_valid_expression) (defBody s_is_valid_expression) (defScope s_is_valid_expression) [] [] f fd) (B : Blt mg) (c_is_valid_expression : C8.Cal P w K mg base (n + 2) "is_valid_expression" (sp_is_valid_expression K n) []) (c_is_name : C8.Cal P w K mg base 1 "is_name" (sp_is_name K) []) (c_is_integer : C8.Cal P w K mg base 1 "is_integer" (sp_is_integer K) []) (gk_MAX_OPERATORS : GI mg "MAX_OPERATORS" 3) (gk_TOO_LARGE : GI mg "TOO_LARGE" 1000000000000000000000000000000000000000000000000000000000000) : FnOk P w K mg base CX0 ((n + 2) + 1) f fd ["expr", "operators"] (sp_is_valid_expression K (n + 1)) := by
  refine F.ok sc_is_valid_expression (fun vs H Q E h => by obtain ⟨_, _, _, rfl, _⟩ := h; rfl) (fun cdv A outer s H vs Q E hr h => ⟨t_is_valid_expression K (sp_is_valid_expression K n), PSs.nox (?_), pure_is_valid_expression vs H Q E h⟩)
  exact (pss_cons (ps_if (pt_val (C8.pe_c c_is_integer hr (by omega) rfl (pa_cons (pv 0) pa_nil))) (pss_one (ps_ret (pe_chain op_lt op_lt (pe_un un_neg (C8.pe_gc rfl gk_TOO_LARGE)) (pv 0) (C8.pe_gc rfl gk_TOO_LARGE)))) pss_nil)
  (pss_cons (ps_if (pt_cmpR (op_eqX hr.units) (pe_ix ix_seq (pv 0) pe_int (fun _ _ => rfl)) pe_str (nomark _)) (pss_one (ps_ret (C8.pe_c c_is_name hr (by omega) rfl (pa_cons (pe_ix ix_seq (pv 0) pe_int (fun _ _ => rfl)) pa_nil)))) pss_nil)
  (pss_cons (ps_if (pt_cmpR (op_eqX hr.units) (pe_ix ix_seq (pv 0) pe_int (fun _ _ => rfl)) pe_str (nomark _)) (pss_one (ps_ret (pe_and (C8.pe_c c_is_name hr (by omega) rfl (pa_cons (pe_ix ix_seq (pv 0) pe_int (fun _ _ => rfl)) pa_nil)) (pe_one (C8.pe_c c_is_name hr (by omega) rfl (pa_cons (pe_ix ix_seq (pv 0) pe_int (fun _ _ => rfl)) pa_nil)))))) pss_nil)
  (pss_cons (ps_if (pt_cmpR (op_eqX hr.units) (pv 1) (C8.pe_gc rfl gk_MAX_OPERATORS) (nomark _)) (pss_one (ps_ret pe_bl)) pss_nil)
  (pss_one (ps_ret (pe_and (C8.pe_c c_is_valid_expression hr (by omega) rfl (pa_cons (pe_ix ix_seq (pv 0) pe_int (fun _ _ => rfl)) (pa_cons (pe_op op_addX (pv 1) pe_int) pa_nil))) (pe_one (C8.pe_c c_is_valid_expression hr (by omega) rfl (pa_cons (pe_ix ix_seq (pv 0) pe_int (fun _ _ => rfl)) (pa_cons (pe_op op_addX (pv 1) pe_int) pa_nil)))))))))))
theorem sc_is_valid_statement : FnScope ["path", "statement", "expr", "name"] ["path", "statement"] (defScope s_is_valid_statement) := ⟨rfl, rfl, rfl, by decide +kernel, rfl, by decide +kernel, by decide +kernel⟩
theorem ok_is_valid_statement  {f : Addr} {fd : FuncData} (F : FunD K "is_valid_statement" "is_valid_statement" (defArgs s_is_valid_statement) (defBody s_is_valid_statement) (defScope s_is_valid_statement) [] [] f fd) (B : Blt mg) (c_expressions_of : C8.Cal P w K mg base 1 "expressions_of" (sp_expressions_of K) []) (c_is_valid_expression : C8.Cal P w K mg base 7 "is_valid_expression" (sp_is_valid_expression K 5) []) (c_names_of : C8.Cal P w K mg base 1 "names_of" (sp_names_of K) []) (c_is_name : C8.Cal P w K mg base 1 "is_name" (sp_is_name K) []) (c_depth_of : C8.Cal P w K mg base 1 "depth_of" (sp_depth_of K) []) (gk_MAX_DEPTH : GI mg "MAX_DEPTH" 3) : FnOk P w K mg base CX0 (8 + 1) f fd ["path", "statement"] (sp_is_valid_statement K) := by
  refine F.ok sc_is_valid_statement (fun vs H Q E h => by obtain ⟨_, _, _, _, rfl, _⟩ := h; rfl) (fun cdv A outer s H vs Q E hr h => ⟨t_is_valid_statement K , PSs.nox (?_), pure_is_valid_statement vs H Q E h⟩)
  exact (pss_cons (ps_if (PW.pt (pw_or (pt_cmpR op_gt (C8.pe_c c_depth_of hr (by omega) rfl (pa_cons (pv 0) pa_nil)) (C8.pe_gc rfl gk_MAX_DEPTH) (nomark _)) (pw_or1 (pt_cmpR (op_neX hr.units) (pe_lc (own := [("name", 3)]) (g := (gName 3)) (tt := (tNot (tB (tCall (sp_is_name K) [] E0 (tCons (tVar 3) tNil))))) rfl sc_is_valid_statement.nd (pi_seq (C8.pe_c c_names_of hr (by omega) rfl (pa_cons (pv 1) pa_nil))) (blkOk_by (N := ["path", "statement", "expr", "name"]) (sc := defScope s_is_valid_statement) (by decide +kernel)) (fun _ _ _ _ _ => (gN 3 sc_is_valid_statement.nd)) (fun _ _ _ _ _ => (pts_one (pt_not (pt_val (C8.pe_c c_is_name hr (by omega) rfl (pa_cons (pv 3) pa_nil)))))) (fun _ _ _ _ _ => (pv 3))) (pe_lstX pa_nil) (nomark _))))) (pss_one (ps_ret pe_bl)) pss_nil)
  (pss_one (ps_ret (pe_cmpR (op_eqX hr.units) (pe_lc (own := [("expr", 2)]) (g := (gName 2)) (tt := (tNot (tB (tCall (sp_is_valid_expression K 5) [] E0 (tCons (tVar 2) (tCons (tC (.int 0)) tNil)))))) rfl sc_is_valid_statement.nd (pi_seq (C8.pe_c c_expressions_of hr (by omega) rfl (pa_cons (pv 1) pa_nil))) (blkOk_by (N := ["path", "statement", "expr", "name"]) (sc := defScope s_is_valid_statement) (by decide +kernel)) (fun _ _ _ _ _ => (gN 2 sc_is_valid_statement.nd)) (fun _ _ _ _ _ => (pts_one (pt_not (pt_val (C8.pe_c c_is_valid_expression hr (by omega) rfl (pa_cons (pv 2) (pa_cons pe_int pa_nil))))))) (fun _ _ _ _ _ => (pv 2))) (pe_lstX pa_nil) (nomark _)))))
theorem sc_statements_in : FnScope ["block", "base", "found", "index", "statement", "path", "number", "inner"] ["block", "base"] (defScope s_statements_in) := ⟨rfl, rfl, rfl, by decide +kernel, rfl, by decide +kernel, by decide +kernel⟩
theorem ok_statements_in {n : Nat} {f : Addr} {fd : FuncData} (F : FunD K "statements_in" "statements_in" (defArgs s_statements_in) (defBody s_statements_in) (defScope s_statements_in) [] [] f fd) (B : Blt mg) (c_blocks_of : C8.Cal P w K mg base 1 "blocks_of" (sp_blocks_of K) []) (c_statements_in : C8.Cal P w K mg base (n + 1) "statements_in" (sp_statements_in K n) []) : FnOk P w K mg base CX0 ((n + 1) + 1) f fd ["block", "base"] (sp_statements_in K (n + 1)) := by
  refine F.ok sc_statements_in (fun vs H Q E h => by obtain ⟨_, _, _, _, rfl, _⟩ := h; rfl) (fun cdv A outer s H vs Q E hr h => ⟨t_statements_in K (sp_statements_in K n), PSs.nox (?_), pure_statements_in vs H Q E h⟩)
  exact (pss_cons (sN 2 sc_statements_in.nd (pe_lstX pa_nil))
  (pss_cons (ps_for PassesOwn.never rfl (pi_enumX rfl B.enumerate (pa_cons (pv 0) pa_nil)) (pg_tup rfl (pgs_cons (gN 3 sc_statements_in.nd) (pgs_cons (gN 4 sc_statements_in.nd) pgs_nil))) (pss_cons (sN 5 sc_statements_in.nd (pe_op op_addX (pv 1) (pe_tupX (pa_cons (pv 3) pa_nil))))
  (pss_cons (ps_expr (pe_bm PySem.F.plainAttrs_list PySem.F.slot_list_append PySem.F.type_list_append mt_append (pv 2) (pa_cons (pe_tupX (pa_cons (pv 5) (pa_cons (pv 4) pa_nil))) pa_nil)))
  (pss_one (ps_for PassesOwn.never rfl (pi_enumX rfl B.enumerate (pa_cons (C8.pe_c c_blocks_of hr (by omega) rfl (pa_cons (pv 4) pa_nil)) pa_nil)) (pg_tup rfl (pgs_cons (gN 6 sc_statements_in.nd) (pgs_cons (gN 7 sc_statements_in.nd) pgs_nil))) (pss_one (ps_expr (pe_bm PySem.F.plainAttrs_list PySem.F.slot_list_extend PySem.F.type_list_extend mt_extend (pv 2) (pa_cons (C8.pe_c c_statements_in hr (by omega) rfl (pa_cons (pv 7) (pa_cons (pe_op op_addX (pv 5) (pe_tupX (pa_cons (pv 6) pa_nil))) pa_nil))) pa_nil)))))))))
  (pss_one (ps_ret (pv 2)))))
theorem sc_first_fault : FnScope ["index", "name", "block", "statements", "path", "statement"] ["index", "name", "block"] (defScope s_first_fault) := ⟨rfl, rfl, rfl, by decide +kernel, rfl, by decide +kernel, by decide +kernel⟩
theorem ok_first_fault  {f : Addr} {fd : FuncData} (F : FunD K "first_fault" "first_fault" (defArgs s_first_fault) (defBody s_first_fault) (defScope s_first_fault) [] [] f fd) (B : Blt mg) (c_is_valid_statement : C8.Cal P w K mg base 9 "is_valid_statement" (sp_is_valid_statement K) []) (c_is_name : C8.Cal P w K mg base 1 "is_name" (sp_is_name K) []) (c_statements_in : C8.Cal P w K mg base 11 "statements_in" (sp_statements_in K 10) []) (gk_MAX_STATEMENTS : GI mg "MAX_STATEMENTS" 60) (gk_MAX_MODULES : GI mg "MAX_MODULES" 8) : FnOk P w K mg base CX0 (12 + 1) f fd ["index", "name", "block"] (sp_first_fault K) := by
  refine F.ok sc_first_fault (fun vs H Q E h => by obtain ⟨_, _, _, _, rfl, _⟩ := h; rfl) (fun cdv A outer s H vs Q E hr h => ⟨t_first_fault K , PSs.nox (?_), pure_first_fault vs H Q E h⟩)
  exact (pss_cons (sN 3 sc_first_fault.nd (C8.pe_c c_statements_in hr (by omega) rfl (pa_cons (pv 2) (pa_cons (pe_tupX pa_nil) pa_nil))))
  (pss_cons (ps_if (PW.pt (pw_or (pt_cmpR op_ge (pv 0) (C8.pe_gc rfl gk_MAX_MODULES) (nomark _)) (pw_or (pt_not (pt_val (C8.pe_c c_is_name hr (by omega) rfl (pa_cons (pv 1) pa_nil)))) (pw_or1 (pt_cmpR op_gt (pe_callB cb_len rfl B.len bt_len (pa_cons (pv 3) pa_nil)) (C8.pe_gc rfl gk_MAX_STATEMENTS) (nomark _)))))) (pss_one (ps_ret (pe_tupX pa_nil))) pss_nil)
  (pss_cons (ps_for PassesOwn.never rfl (pi_seq (pv 3)) (pg_tup rfl (pgs_cons (gN 4 sc_first_fault.nd) (pgs_cons (gN 5 sc_first_fault.nd) pgs_nil))) (pss_one (ps_if (pt_not (pt_val (C8.pe_c c_is_valid_statement hr (by omega) rfl (pa_cons (pv 4) (pa_cons (pv 5) pa_nil))))) (pss_one (ps_ret (pv 4))) pss_nil)))
  (pss_one (ps_ret pe_non)))))
theorem sc_Program___init__ : FnScope ["self", "modules", "index", "name", "path"] ["self", "modules"] (defScope s_Program___init__) := ⟨rfl, rfl, rfl, by decide +kernel, rfl, by decide +kernel, by decide +kernel⟩
theorem ok_Program___init__ {C p1 p2 : Addr} (T : PrgC K C p1 p2) {f : Addr} {fd : FuncData} (F : FunD K "__init__" "Program.__init__" (defArgs s_Program___init__) (defBody s_Program___init__) (defScope s_Program___init__) [] [] f fd) (B : Blt mg) (c_first_fault : C8.Cal P w K mg base 13 "first_fault" (sp_first_fault K) []) : FnOk P w K mg base CX0 (13 + 1) f fd ["self", "modules"] (sp_Program___init__ K C) := by
  refine F.ok sc_Program___init__ (fun vs H Q E h => by obtain ⟨_, _, _, _, rfl, _⟩ := h; rfl) (fun cdv A outer s H vs Q E hr h => ⟨t_Program___init__ K , PSs.nox (?_), pure_Program___init__ T vs H Q E h⟩)
  exact (pss_cons (ps_for PassesOwn.never rfl (pi_enumX rfl B.enumerate (pa_cons (pe_callB (cb_sortD rfl) rfl B.sorted bt_sorted (pa_cons (pv 1) pa_nil)) pa_nil)) (pg_tup rfl (pgs_cons (gN 2 sc_Program___init__.nd) (pgs_cons (gN 3 sc_Program___init__.nd) pgs_nil))) (pss_cons (sN 4 sc_Program___init__.nd (C8.pe_c c_first_fault hr (by omega) rfl (pa_cons (pv 2) (pa_cons (pv 3) (pa_cons (pe_dix hr.units (pv 1) (pv 3) (fun _ _ => rfl)) pa_nil)))))
  (pss_one (ps_if (pt_cmpR op_notN1 (pv 4) pe_non (nomark _)) (pss_one ps_never) pss_nil))))
  (pss_cons (SlX.ps_sl (pv 0) (pe_callB (cb_sortD rfl) rfl B.sorted bt_sorted (pa_cons (pv 1) pa_nil)))
  (pss_one (SlX.ps_sl (pv 0) (pe_dc (own := [("name", 3)]) (g := (gName 3)) (tt := tYes) rfl sc_Program___init__.nd (pi_seq (pe_callB (cb_sortD rfl) rfl B.sorted bt_sorted (pa_cons (pv 1) pa_nil))) (blkOk_by (N := ["self", "modules", "index", "name", "path"]) (sc := defScope s_Program___init__) (by decide +kernel)) (fun _ _ _ _ _ => (gN 3 sc_Program___init__.nd)) (fun _ _ _ _ _ => pts_nil) (fun _ _ _ _ _ => (pv 3)) (fun _ _ _ _ _ => (pe_dix hr.units (pv 1) (pv 3) (fun _ _ => rfl))))))))
theorem sc_Program___contains__ : FnScope ["self", "x"] ["self", "x"] (defScope s_Program___contains__) := ⟨rfl, rfl, rfl, by decide +kernel, rfl, by decide +kernel, by decide +kernel⟩
theorem ok_Program___contains__ {C p1 p2 : Addr} (T : PrgC K C p1 p2) {f : Addr} {fd : FuncData} (F : FunD K "__contains__" "Program.__contains__" (defArgs s_Program___contains__) (defBody s_Program___contains__) (defScope s_Program___contains__) [] [] f fd) (B : Blt mg)  : FnOk P w K mg base CX0 (0 + 1) f fd ["self", "x"] (sp_Program___contains__ K C) := by
  refine F.ok sc_Program___contains__ (fun vs H Q E h => by obtain ⟨_, _, _, _, rfl, _⟩ := h; rfl) (fun cdv A outer s H vs Q E hr h => ⟨t_Program___contains__ K , PSs.nox (?_), pure_Program___contains__ T vs H Q E h⟩)
  exact (pss_one (ps_ret (pe_cmp (pc_dinX hr.units (pv 1) (SlX.pe_sl (pv 0))))))
theorem sc_Program___getitem__ : FnScope ["self", "at"] ["self", "at"] (defScope s_Program___getitem__) := ⟨rfl, rfl, rfl, by decide +kernel, rfl, by decide +kernel, by decide +kernel⟩
theorem ok_Program___getitem__ {C p1 p2 : Addr} (T : PrgC K C p1 p2) {f : Addr} {fd : FuncData} (F : FunD K "__getitem__" "Program.__getitem__" (defArgs s_Program___getitem__) (defBody s_Program___getitem__) (defScope s_Program___getitem__) [] [] f fd) (B : Blt mg)  : FnOk P w K mg base CX0 (0 + 1) f fd ["self", "at"] (sp_Program___getitem__ K C) := by
  refine F.ok sc_Program___getitem__ (fun vs H Q E h => by obtain ⟨_, _, _, _, _, rfl, _⟩ := h; rfl) (fun cdv A outer s H vs Q E hr h => ⟨t_Program___getitem__ K , PSs.nox (?_), pure_Program___getitem__ T vs H Q E h⟩)
  exact (pss_cons (ps_if (pt_cmp (pc_dninX hr.units (pv 1) (SlX.pe_sl (pv 0)))) (pss_one ps_never) pss_nil)
  (pss_one (ps_ret (pe_dix hr.units (SlX.pe_sl (pv 0)) (pv 1) (fun _ _ => rfl)))))
end
end M


namespace M
open PySem PySem.Spec PyProof.Rows L2 L2H SlX
section
variable {P : Program} {w : World} {K : PySem.W.Frag} {mg : Str → Option Value} {base : Heap}
theorem sc_law_mix : FnScope ["_law_script", "_law_seed", "_law_state", "_law_cell"] ["_law_script", "_law_seed"] (defScope s_law_mix) := ⟨rfl, rfl, rfl, by decide +kernel, rfl, by decide +kernel, by decide +kernel⟩
theorem ok_law_mix  {f : Addr} {fd : FuncData} (F : FunD K "_law_mix" "_law_mix" (defArgs s_law_mix) (defBody s_law_mix) (defScope s_law_mix) [] [] f fd) (B : Blt mg)  : FnOk P w K mg base CX0 (0 + 1) f fd ["_law_script", "_law_seed"] (sp_law_mix K) := by
  refine F.ok sc_law_mix (fun vs H Q E h => by obtain ⟨_, _, _, rfl, _⟩ := h; rfl) (fun cdv A outer s H vs Q E hr h => ⟨t_law_mix K , PSs.nox (?_), pure_law_mix vs H Q E h⟩)
  exact (pss_cons (sN 2 sc_law_mix.nd (pv 1))
  (pss_cons (ps_for PassesOwn.never rfl (pi_seq (pv 0)) (gN 3 sc_law_mix.nd) (pss_one (sN 2 sc_law_mix.nd (pe_op op_mod (pe_callTy cb_int rfl B.int bt_int (pa_cons (pe_op op_addX (pe_op op_addX (pe_op op_mul (pv 2) pe_int) (pe_op op_mod (pe_callTy cb_int rfl B.int bt_int (pa_cons (pv 3) pa_nil)) pe_int)) pe_int) pa_nil)) pe_int))))
  (pss_one (ps_ret (pe_lstX (pa_cons (pv 2) (pa_cons (pe_callTy cb_list rfl B.list bt_list (pa_cons (pv 0) pa_nil)) (pa_cons pe_int pa_nil))))))))
theorem sc_law_next : FnScope ["_law_h", "_law_cap", "_law_cell"] ["_law_h", "_law_cap"] (defScope s_law_next) := ⟨rfl, rfl, rfl, by decide +kernel, rfl, by decide +kernel, by decide +kernel⟩
theorem ok_law_next  {f : Addr} {fd : FuncData} (F : FunD K "_law_next" "_law_next" (defArgs s_law_next) (defBody s_law_next) (defScope s_law_next) [] [] f fd) (B : Blt mg)  : FnOk P w K mg base CX0 (0 + 1) f fd ["_law_h", "_law_cap"] (sp_law_next K) := by
  refine F.ok sc_law_next (fun vs H Q E h => by obtain ⟨_, _, _, rfl, _⟩ := h; rfl) (fun cdv A outer s H vs Q E hr h => ⟨t_law_next K , PSs.nox (?_), pure_law_next vs H Q E h⟩)
  exact (pss_cons (sN 2 sc_law_next.nd (pe_ix ix_seq (pe_op op_addX (pe_ix ix_seq (pv 0) pe_int (fun _ _ => rfl)) (pe_lstX (pa_cons pe_int pa_nil))) (pe_op op_mod (pe_callTy cb_int rfl B.int bt_int (pa_cons (pe_ix ix_seq (pv 0) pe_int (fun _ _ => rfl)) pa_nil)) (pe_callB (cb_max rfl) rfl B.max bt_max (pa_cons pe_int (pa_cons (pe_callB cb_len rfl B.len bt_len (pa_cons (pe_ix ix_seq (pv 0) pe_int (fun _ _ => rfl)) pa_nil)) pa_nil)))) (fun _ _ => rfl)))
  (pss_cons (ps_if (pt_cmpR op_ge (pv 2) (pe_op op_pow pe_int pe_int) (nomark _)) (pss_cons (ps_asg (pe_op op_fdivW (pv 2) (pv 1)) (pg_sub (pe_ix ix_seq (pv 0) pe_int (fun _ _ => rfl)) (pe_op op_mod (pe_callTy cb_int rfl B.int bt_int (pa_cons (pe_ix ix_seq (pv 0) pe_int (fun _ _ => rfl)) pa_nil)) (pe_callB cb_len rfl B.len bt_len (pa_cons (pe_ix ix_seq (pv 0) pe_int (fun _ _ => rfl)) pa_nil))) set_list))
  (pss_one (ps_ret (pe_op op_mod (pe_callTy cb_int rfl B.int bt_int (pa_cons (pv 2) pa_nil)) (pv 1))))) pss_nil)
  (pss_cons (ps_asg (pe_op op_mod (pe_callTy cb_int rfl B.int bt_int (pa_cons (pe_op op_addX (pe_op op_addX (pe_op op_mul (pe_ix ix_seq (pv 0) pe_int (fun _ _ => rfl)) pe_int) (pe_op op_mul (pv 2) pe_int)) pe_int) pa_nil)) pe_int) (pg_sub (pv 0) pe_int set_list))
  (pss_cons (ps_asg (pe_op op_addX (pe_ix ix_seq (pv 0) pe_int (fun _ _ => rfl)) pe_int) (pg_sub (pv 0) pe_int set_list))
  (pss_one (ps_ret (pe_op op_mod (pe_callTy cb_int rfl B.int bt_int (pa_cons (pe_op op_fdivW (pe_ix ix_seq (pv 0) pe_int (fun _ _ => rfl)) pe_int) pa_nil)) (pv 1))))))))
theorem sc_law_name : FnScope ["_law_h", "_law_words", "_law_letters", "_law_k"] ["_law_h"] (defScope s_law_name) := ⟨rfl, rfl, rfl, by decide +kernel, rfl, by decide +kernel, by decide +kernel⟩
theorem ok_law_name  {f : Addr} {fd : FuncData} (F : FunD K "_law_name" "_law_name" (defArgs s_law_name) (defBody s_law_name) (defScope s_law_name) [] [] f fd) (B : Blt mg) (c_law_next : C8.Cal P w K mg base 1 "_law_next" (sp_law_next K) []) : FnOk P w K mg base CX0 (1 + 1) f fd ["_law_h"] (sp_law_name K) := by
  refine F.ok sc_law_name (fun vs H Q E h => by obtain ⟨_, _, rfl, _⟩ := h; rfl) (fun cdv A outer s H vs Q E hr h => ⟨t_law_name K , PSs.nox (?_), pure_law_name vs H Q E h⟩)
  exact (pss_cons (sN 1 sc_law_name.nd (pe_lstX (pa_cons pe_str (pa_cons pe_str (pa_cons pe_str (pa_cons pe_str (pa_cons pe_str (pa_cons pe_str (pa_cons pe_str (pa_cons pe_str (pa_cons pe_str (pa_cons pe_str (pa_cons pe_str (pa_cons pe_str (pa_cons pe_str (pa_cons pe_str pa_nil))))))))))))))))
  (pss_cons (sN 2 sc_law_name.nd pe_str)
  (pss_cons (ps_if (pt_cmpR (op_eqX hr.units) (C8.pe_c c_law_next hr (by omega) rfl (pa_cons (pv 0) (pa_cons pe_int pa_nil))) pe_int (nomark _)) (pss_one (ps_ret (pe_ix ix_seq (pv 1) (C8.pe_c c_law_next hr (by omega) rfl (pa_cons (pv 0) (pa_cons pe_int pa_nil))) (fun _ _ => rfl)))) pss_nil)
  (pss_one (ps_ret (pe_joinX pe_str (pe_lc (own := [("_law_k", 3)]) (g := (gName 3)) (tt := tYes) rfl sc_law_name.nd (pi_range1 rfl B.range (pa_cons (pe_op op_addX pe_int (C8.pe_c c_law_next hr (by omega) rfl (pa_cons (pv 0) (pa_cons (pe_ix ix_seq (pe_lstX (pa_cons pe_int (pa_cons pe_int pa_nil))) (C8.pe_c c_law_next hr (by omega) rfl (pa_cons (pv 0) (pa_cons pe_int pa_nil))) (fun _ _ => rfl)) pa_nil)))) pa_nil)) (blkOk_by (N := ["_law_h", "_law_words", "_law_letters", "_law_k"]) (sc := defScope s_law_name) (by decide +kernel)) (fun _ _ _ _ _ => (gN 3 sc_law_name.nd)) (fun _ _ _ _ _ => pts_nil) (fun _ _ _ _ _ => (pe_ix ix_seq (pv 2) (C8.pe_c c_law_next hr (by omega) rfl (pa_cons (pv 0) (pa_cons pe_int pa_nil))) (fun _ _ => rfl))))))))))
theorem sc_law_names : FnScope ["_law_h", "_law_many", "_law_found", "_law_k", "_law_name_here"] ["_law_h", "_law_many"] (defScope s_law_names) := ⟨rfl, rfl, rfl, by decide +kernel, rfl, by decide +kernel, by decide +kernel⟩
theorem ok_law_names  {f : Addr} {fd : FuncData} (F : FunD K "_law_names" "_law_names" (defArgs s_law_names) (defBody s_law_names) (defScope s_law_names) [] [] f fd) (B : Blt mg) (c_law_next : C8.Cal P w K mg base 1 "_law_next" (sp_law_next K) []) (c_law_name : C8.Cal P w K mg base 2 "_law_name" (sp_law_name K) []) : FnOk P w K mg base CX0 (2 + 1) f fd ["_law_h", "_law_many"] (sp_law_names K) := by
  refine F.ok sc_law_names (fun vs H Q E h => by obtain ⟨_, _, _, rfl, _⟩ := h; rfl) (fun cdv A outer s H vs Q E hr h => ⟨t_law_names K , PSs.nox (?_), pure_law_names vs H Q E h⟩)
  exact (pss_cons (sN 2 sc_law_names.nd (pe_lstX pa_nil))
  (pss_cons (ps_for PassesOwn.never rfl (pi_range1 rfl B.range (pa_cons (pe_op op_addX pe_int (C8.pe_c c_law_next hr (by omega) rfl (pa_cons (pv 0) (pa_cons (pv 1) pa_nil)))) pa_nil)) (gN 3 sc_law_names.nd) (pss_cons (sN 4 sc_law_names.nd (C8.pe_c c_law_name hr (by omega) rfl (pa_cons (pv 0) pa_nil)))
  (pss_one (ps_if (pt_cmpR op_notInX (pv 4) (pv 2) rfl) (pss_one (ps_expr (pe_bm PySem.F.plainAttrs_list PySem.F.slot_list_append PySem.F.type_list_append mt_append (pv 2) (pa_cons (pv 4) pa_nil)))) pss_nil))))
  (pss_one (ps_ret (pv 2)))))
theorem sc_law_integer : FnScope ["_law_h", "_law_kind"] ["_law_h"] (defScope s_law_integer) := ⟨rfl, rfl, rfl, by decide +kernel, rfl, by decide +kernel, by decide +kernel⟩
theorem ok_law_integer  {f : Addr} {fd : FuncData} (F : FunD K "_law_integer" "_law_integer" (defArgs s_law_integer) (defBody s_law_integer) (defScope s_law_integer) [] [] f fd) (B : Blt mg) (c_law_next : C8.Cal P w K mg base 1 "_law_next" (sp_law_next K) []) : FnOk P w K mg base CX0 (1 + 1) f fd ["_law_h"] (sp_law_integer K) := by
  refine F.ok sc_law_integer (fun vs H Q E h => by obtain ⟨_, _, rfl, _⟩ := h; rfl) (fun cdv A outer s H vs Q E hr h => ⟨t_law_integer K , PSs.nox (?_), pure_law_integer vs H Q E h⟩)
  exact (pss_cons (sN 1 sc_law_integer.nd (C8.pe_c c_law_next hr (by omega) rfl (pa_cons (pv 0) (pa_cons pe_int pa_nil))))
  (pss_cons (ps_if (pt_cmpR op_lt (pv 1) pe_int (nomark _)) (pss_one (ps_ret (pv 1))) pss_nil)
  (pss_cons (ps_if (pt_cmpR (op_eqX hr.units) (pv 1) pe_int (nomark _)) (pss_one (ps_ret (pe_op op_sub (pe_op op_sub (pe_op op_pow pe_int pe_int) pe_int) (C8.pe_c c_law_next hr (by omega) rfl (pa_cons (pv 0) (pa_cons pe_int pa_nil)))))) pss_nil)
  (pss_one (ps_ret (pe_op op_mul (pe_ix ix_seq (pe_lstX (pa_cons pe_int (pa_cons (pe_un un_neg pe_int) pa_nil))) (C8.pe_c c_law_next hr (by omega) rfl (pa_cons (pv 0) (pa_cons pe_int pa_nil))) (fun _ _ => rfl)) (C8.pe_c c_law_next hr (by omega) rfl (pa_cons (pv 0) (pa_cons (pe_ix ix_seq (pe_lstX (pa_cons pe_int (pa_cons pe_int (pa_cons (pe_op op_pow pe_int pe_int) pa_nil)))) (pe_op op_sub (pv 1) pe_int) (fun _ _ => rfl)) pa_nil)))))))))
theorem sc_law_expr : FnScope ["_law_h", "_law_names_here", "_law_depth", "_law_kind", "_law_name_here"] ["_law_h", "_law_names_here", "_law_depth"] (defScope s_law_expr) := ⟨rfl, rfl, rfl, by decide +kernel, rfl, by decide +kernel, by decide +kernel⟩
theorem ok_law_expr {n : Nat} {f : Addr} {fd : FuncData} (F : FunD K "_law_expr" "_law_expr" (defArgs s_law_expr) (defBody s_law_expr) (defScope s_law_expr) [] [] f fd) (B : Blt mg) (c_law_integer : C8.Cal P w K mg base 2 "_law_integer" (sp_law_integer K) []) (c_law_next : C8.Cal P w K mg base 1 "_law_next" (sp_law_next K) []) (c_law_expr : C8.Cal P w K mg base (n + 2) "_law_expr" (sp_law_expr K n) []) : FnOk P w K mg base CX0 ((n + 2) + 1) f fd ["_law_h", "_law_names_here", "_law_depth"] (sp_law_expr K (n + 1)) := by
  refine F.ok sc_law_expr (fun vs H Q E h => by obtain ⟨_, _, _, _, _, rfl, _⟩ := h; rfl) (fun cdv A outer s H vs Q E hr h => ⟨t_law_expr K (sp_law_expr K n), PSs.nox (?_), pure_law_expr vs H Q E h⟩)
  exact (pss_cons (ps_par rfl sc_law_expr.nd rfl rfl (by decide) rfl rfl (pa_cons (C8.pe_c c_law_next hr (by omega) rfl (pa_cons (pv 0) (pa_cons pe_int pa_nil))) (pa_cons (pe_ix ix_seq (pv 1) (C8.pe_c c_law_next hr (by omega) rfl (pa_cons (pv 0) (pa_cons (pe_callB cb_len rfl B.len bt_len (pa_cons (pv 1) pa_nil)) pa_nil))) (fun _ _ => rfl)) pa_nil)) (by rfl))
  (pss_cons (ps_if (PW.pt (pw_and (pt_cmpR op_gt (pv 3) pe_int (nomark _)) (pw_and1 (pt_cmpR op_gt (pv 2) pe_int (nomark _))))) (pss_one (ps_ret (pe_tupX (pa_cons (pe_ix ix_seq (pe_lstX (pa_cons pe_str (pa_cons pe_str pa_nil))) (pe_op op_sub (pv 3) pe_int) (fun _ _ => rfl)) (pa_cons (C8.pe_c c_law_expr hr (by omega) rfl (pa_cons (pv 0) (pa_cons (pv 1) (pa_cons (pe_op op_sub (pv 2) pe_int) pa_nil)))) (pa_cons (C8.pe_c c_law_expr hr (by omega) rfl (pa_cons (pv 0) (pa_cons (pv 1) (pa_cons (pe_op op_sub (pv 2) pe_int) pa_nil)))) pa_nil)))))) pss_nil)
  (pss_cons (ps_if (pt_cmpR (op_eqX hr.units) (pv 3) pe_int (nomark _)) (pss_one (ps_ret (pe_tupX (pa_cons pe_str (pa_cons (pv 4) (pa_cons (pe_ix ix_seq (pv 1) (C8.pe_c c_law_next hr (by omega) rfl (pa_cons (pv 0) (pa_cons (pe_callB cb_len rfl B.len bt_len (pa_cons (pv 1) pa_nil)) pa_nil))) (fun _ _ => rfl)) pa_nil)))))) pss_nil)
  (pss_one (ps_ret (pe_ifExp (pt_cmpR op_gt (pv 3) pe_int (nomark _)) (pe_tupX (pa_cons pe_str (pa_cons (pv 4) pa_nil))) (C8.pe_c c_law_integer hr (by omega) rfl (pa_cons (pv 0) pa_nil))))))))
theorem sc_law_load : FnScope ["_law_h", "_law_modules", "_law_names_here", "_law_target", "_law_name_here", "_law_wanted", "_law_kind"] ["_law_h", "_law_modules", "_law_names_here"] (defScope s_law_load) := ⟨rfl, rfl, rfl, by decide +kernel, rfl, by decide +kernel, by decide +kernel⟩
theorem ok_law_load  {f : Addr} {fd : FuncData} (F : FunD K "_law_load" "_law_load" (defArgs s_law_load) (defBody s_law_load) (defScope s_law_load) [] [] f fd) (B : Blt mg) (c_law_next : C8.Cal P w K mg base 1 "_law_next" (sp_law_next K) []) : FnOk P w K mg base CX0 (1 + 1) f fd ["_law_h", "_law_modules", "_law_names_here"] (sp_law_load K) := by
  refine F.ok sc_law_load (fun vs H Q E h => by obtain ⟨_, _, _, _, _, _, rfl, _⟩ := h; rfl) (fun cdv A outer s H vs Q E hr h => ⟨t_law_load K , PSs.nox (?_), pure_law_load vs H Q E h⟩)
  exact (pss_cons (sN 3 sc_law_load.nd (pe_ifExp (pt_cmpR op_gt (C8.pe_c c_law_next hr (by omega) rfl (pa_cons (pv 0) (pa_cons pe_int pa_nil))) pe_int (nomark _)) (pe_ix ix_seq (pv 1) (C8.pe_c c_law_next hr (by omega) rfl (pa_cons (pv 0) (pa_cons (pe_callB cb_len rfl B.len bt_len (pa_cons (pv 1) pa_nil)) pa_nil))) (fun _ _ => rfl)) pe_str))
  (pss_cons (ps_par3 rfl sc_law_load.nd rfl rfl rfl (by decide) (by decide) (by decide) rfl rfl rfl (pa_cons (pe_ix ix_seq (pv 2) (C8.pe_c c_law_next hr (by omega) rfl (pa_cons (pv 0) (pa_cons (pe_callB cb_len rfl B.len bt_len (pa_cons (pv 2) pa_nil)) pa_nil))) (fun _ _ => rfl)) (pa_cons (pe_ix ix_seq (pv 2) (C8.pe_c c_law_next hr (by omega) rfl (pa_cons (pv 0) (pa_cons (pe_callB cb_len rfl B.len bt_len (pa_cons (pv 2) pa_nil)) pa_nil))) (fun _ _ => rfl)) (pa_cons (C8.pe_c c_law_next hr (by omega) rfl (pa_cons (pv 0) (pa_cons pe_int pa_nil))) pa_nil))) (by rfl))
  (pss_cons (ps_if (pt_cmpR op_lt (pv 6) pe_int (nomark _)) (pss_one (ps_ret (pe_tupX (pa_cons pe_str (pa_cons (pv 3) (pa_cons (pv 4) pa_nil)))))) pss_nil)
  (pss_one (ps_ret (pe_ifExp (pt_cmpR op_lt (pv 6) pe_int (nomark _)) (pe_tupX (pa_cons pe_str (pa_cons (pv 3) (pa_cons (pv 5) (pa_cons (pv 4) pa_nil))))) (pe_tupX (pa_cons pe_str (pa_cons (pv 3) pa_nil)))))))))
theorem sc_law_statement : FnScope ["_law_h", "_law_modules", "_law_names_here", "_law_depth", "_law_block", "_law_other", "_law_kinds", "_law_kind", "_law_name_here"] ["_law_h", "_law_modules", "_law_names_here", "_law_depth"] (defScope s_law_statement) := ⟨rfl, rfl, rfl, by decide +kernel, rfl, by decide +kernel, by decide +kernel⟩
theorem ok_law_statement {n : Nat} {f : Addr} {fd : FuncData} (F : FunD K "_law_statement" "_law_statement" (defArgs s_law_statement) (defBody s_law_statement) (defScope s_law_statement) [] [] f fd) (B : Blt mg) (c_law_next : C8.Cal P w K mg base 1 "_law_next" (sp_law_next K) []) (c_law_expr : C8.Cal P w K mg base 7 "_law_expr" (sp_law_expr K 5) []) (c_law_rows : C8.Cal P w K mg base (2 * n + 11) "_law_rows" (sp_law_rows K n) []) (c_law_integer : C8.Cal P w K mg base 2 "_law_integer" (sp_law_integer K) []) (c_law_load : C8.Cal P w K mg base 2 "_law_load" (sp_law_load K) []) : FnOk P w K mg base CX0 ((2 * n + 11) + 1) f fd ["_law_h", "_law_modules", "_law_names_here", "_law_depth"] (sp_law_statement K (n + 1)) := by
  refine F.ok sc_law_statement (fun vs H Q E h => by obtain ⟨_, _, _, _, _, _, _, rfl, _⟩ := h; rfl) (fun cdv A outer s H vs Q E hr h => ⟨t_law_statement K (sp_law_rows K n), PSs.nox (?_), pure_law_statement vs H Q E h⟩)
  exact (pss_cons (ps_par rfl sc_law_statement.nd rfl rfl (by decide) rfl rfl (pa_cons (C8.pe_c c_law_next hr (by omega) rfl (pa_cons (pv 0) (pa_cons pe_int pa_nil))) (pa_cons (pe_ix ix_seq (pv 2) (C8.pe_c c_law_next hr (by omega) rfl (pa_cons (pv 0) (pa_cons (pe_callB cb_len rfl B.len bt_len (pa_cons (pv 2) pa_nil)) pa_nil))) (fun _ _ => rfl)) pa_nil)) (by rfl))
  (pss_cons (ps_if (pt_cmpR op_lt (pv 7) pe_int (nomark _)) (pss_one (ps_ret (C8.pe_c c_law_load hr (by omega) rfl (pa_cons (pv 0) (pa_cons (pv 1) (pa_cons (pv 2) pa_nil)))))) pss_nil)
  (pss_cons (ps_if (PW.pt (pw_or (pt_cmpR op_lt (pv 7) pe_int (nomark _)) (pw_or1 (PW.pt (pw_and (pt_cmpR op_gt (pv 7) pe_int (nomark _)) (pw_and1 (pt_cmpR op_gt (pv 3) pe_int (nomark _)))))))) (pss_one (ps_ret (pe_tupX (pa_cons pe_str (pa_cons (pv 8) (pa_cons (C8.pe_c c_law_expr hr (by omega) rfl (pa_cons (pv 0) (pa_cons (pv 2) (pa_cons pe_int pa_nil)))) pa_nil)))))) pss_nil)
  (pss_cons (ps_if (pt_cmpR op_lt (pv 7) pe_int (nomark _)) (pss_one (ps_ret (pe_ix ix_seq (pe_lstX (pa_cons (pe_tupX (pa_cons pe_str (pa_cons (pv 8) pa_nil))) (pa_cons (pe_tupX (pa_cons pe_str (pa_cons (C8.pe_c c_law_expr hr (by omega) rfl (pa_cons (pv 0) (pa_cons (pv 2) (pa_cons pe_int pa_nil)))) pa_nil))) (pa_cons (pe_tupX (pa_cons pe_str (pa_cons (pe_tupX (pa_cons pe_str (pa_cons (pv 8) pa_nil))) pa_nil))) pa_nil)))) (pe_op op_sub (pv 7) pe_int) (fun _ _ => rfl)))) pss_nil)
  (pss_cons (ps_if (pt_cmpR (op_eqX hr.units) (pv 7) pe_int (nomark _)) (pss_one (ps_ret (pe_tupX (pa_cons pe_str (pa_cons (pe_ifExp (pt_cmpR op_gt (C8.pe_c c_law_next hr (by omega) rfl (pa_cons (pv 0) (pa_cons pe_int pa_nil))) pe_int (nomark _)) (pe_tupX (pa_cons pe_str (pa_cons (pv 8) pa_nil))) (C8.pe_c c_law_expr hr (by omega) rfl (pa_cons (pv 0) (pa_cons (pv 2) (pa_cons pe_int pa_nil))))) pa_nil))))) pss_nil)
  (pss_cons (ps_if (pt_cmpR (op_eqX hr.units) (pv 7) pe_int (nomark _)) (pss_one (ps_ret (pe_ifExp (pt_cmpR (op_eqX hr.units) (C8.pe_c c_law_next hr (by omega) rfl (pa_cons (pv 0) (pa_cons pe_int pa_nil))) pe_int (nomark _)) (pe_tupX (pa_cons pe_str pa_nil)) (pe_tupX (pa_cons pe_str (pa_cons (C8.pe_c c_law_integer hr (by omega) rfl (pa_cons (pv 0) pa_nil)) pa_nil)))))) pss_nil)
  (pss_cons (sN 4 sc_law_statement.nd (C8.pe_c c_law_rows hr (by omega) rfl (pa_cons (pv 0) (pa_cons (pv 1) (pa_cons (pv 2) (pa_cons (pe_op op_addX (pv 3) pe_int) (pa_cons (pe_op op_sub pe_int (pv 3)) pa_nil)))))))
  (pss_cons (sN 5 sc_law_statement.nd (C8.pe_c c_law_rows hr (by omega) rfl (pa_cons (pv 0) (pa_cons (pv 1) (pa_cons (pv 2) (pa_cons (pe_op op_addX (pv 3) pe_int) (pa_cons (pe_op op_sub pe_int (pv 3)) pa_nil)))))))
  (pss_cons (ps_if (pt_cmpR (op_eqX hr.units) (pv 7) pe_int (nomark _)) (pss_one (ps_ret (pe_tupX (pa_cons pe_str (pa_cons (pv 8) (pa_cons (pv 4) pa_nil)))))) pss_nil)
  (pss_cons (ps_if (pt_cmpR (op_eqX hr.units) (pv 7) pe_int (nomark _)) (pss_one (ps_ret (pe_tupX (pa_cons pe_str (pa_cons (C8.pe_c c_law_expr hr (by omega) rfl (pa_cons (pv 0) (pa_cons (pv 2) (pa_cons pe_int pa_nil)))) (pa_cons (pv 4) (pa_cons (pv 5) pa_nil))))))) pss_nil)
  (pss_cons (sN 6 sc_law_statement.nd (pe_lstX (pa_cons pe_str (pa_cons pe_str (pa_cons pe_str (pa_cons pe_str (pa_cons pe_str (pa_cons pe_str (pa_cons pe_str (pa_cons pe_str pa_nil))))))))))
  (pss_one (ps_ret (pe_tupX (pa_cons pe_str (pa_cons (pe_ix ix_seq (pv 6) (C8.pe_c c_law_next hr (by omega) rfl (pa_cons (pv 0) (pa_cons pe_int pa_nil))) (fun _ _ => rfl)) (pa_cons (pv 4) (pa_cons (pv 5) pa_nil))))))))))))))))))
theorem sc_law_rows : FnScope ["_law_h", "_law_modules", "_law_names_here", "_law_depth", "_law_most", "_law_k"] ["_law_h", "_law_modules", "_law_names_here", "_law_depth", "_law_most"] (defScope s_law_rows) := ⟨rfl, rfl, rfl, by decide +kernel, rfl, by decide +kernel, by decide +kernel⟩
theorem ok_law_rows {n : Nat} {f : Addr} {fd : FuncData} (F : FunD K "_law_rows" "_law_rows" (defArgs s_law_rows) (defBody s_law_rows) (defScope s_law_rows) [] [] f fd) (B : Blt mg) (c_law_next : C8.Cal P w K mg base 1 "_law_next" (sp_law_next K) []) (c_law_statement : C8.Cal P w K mg base (2 * n + 10) "_law_statement" (sp_law_statement K n) []) : FnOk P w K mg base CX0 ((2 * n + 10) + 1) f fd ["_law_h", "_law_modules", "_law_names_here", "_law_depth", "_law_most"] (sp_law_rows K n) := by
  refine F.ok sc_law_rows (fun vs H Q E h => by obtain ⟨_, _, _, _, _, _, _, _, rfl, _⟩ := h; rfl) (fun cdv A outer s H vs Q E hr h => ⟨t_law_rows K (sp_law_statement K n), PSs.nox (?_), pure_law_rows vs H Q E h⟩)
  exact (pss_one (ps_ret (pe_tupleOf rfl B.tuple (pe_lc (own := [("_law_k", 5)]) (g := (gName 5)) (tt := tYes) rfl sc_law_rows.nd (pi_range1 rfl B.range (pa_cons (C8.pe_c c_law_next hr (by omega) rfl (pa_cons (pv 0) (pa_cons (pe_op op_addX (pv 4) pe_int) pa_nil))) pa_nil)) (blkOk_by (N := ["_law_h", "_law_modules", "_law_names_here", "_law_depth", "_law_most", "_law_k"]) (sc := defScope s_law_rows) (by decide +kernel)) (fun _ _ _ _ _ => (gN 5 sc_law_rows.nd)) (fun _ _ _ _ _ => pts_nil) (fun _ _ _ _ _ => (C8.pe_c c_law_statement hr (by omega) rfl (pa_cons (pv 0) (pa_cons (pv 1) (pa_cons (pv 2) (pa_cons (pv 3) pa_nil))))))))))
theorem sc_law_first_rows : FnScope ["_law_h", "_law_modules", "_law_names_here", "_law_found", "_law_name_here", "_law_kind"] ["_law_h", "_law_modules", "_law_names_here"] (defScope s_law_first_rows) := ⟨rfl, rfl, rfl, by decide +kernel, rfl, by decide +kernel, by decide +kernel⟩
theorem ok_law_first_rows  {f : Addr} {fd : FuncData} (F : FunD K "_law_first_rows" "_law_first_rows" (defArgs s_law_first_rows) (defBody s_law_first_rows) (defScope s_law_first_rows) [] [] f fd) (B : Blt mg) (c_law_rows : C8.Cal P w K mg base 17 "_law_rows" (sp_law_rows K 3) []) (c_law_integer : C8.Cal P w K mg base 2 "_law_integer" (sp_law_integer K) []) (c_law_next : C8.Cal P w K mg base 1 "_law_next" (sp_law_next K) []) : FnOk P w K mg base CX0 (17 + 1) f fd ["_law_h", "_law_modules", "_law_names_here"] (sp_law_first_rows K) := by
  refine F.ok sc_law_first_rows (fun vs H Q E h => by obtain ⟨_, _, _, _, _, _, rfl, _⟩ := h; rfl) (fun cdv A outer s H vs Q E hr h => ⟨t_law_first_rows K , PSs.nox (?_), pure_law_first_rows vs H Q E h⟩)
  exact (pss_cons (sN 3 sc_law_first_rows.nd (pe_lstX pa_nil))
  (pss_cons (ps_for PassesOwn.never rfl (pi_seq (pv 2)) (gN 4 sc_law_first_rows.nd) (pss_cons (sN 5 sc_law_first_rows.nd (C8.pe_c c_law_next hr (by omega) rfl (pa_cons (pv 0) (pa_cons pe_int pa_nil))))
  (pss_cons (ps_if (pt_cmpR (op_eqX hr.units) (pv 5) pe_int (nomark _)) (pss_one (ps_expr (pe_bm PySem.F.plainAttrs_list PySem.F.slot_list_append PySem.F.type_list_append mt_append (pv 3) (pa_cons (pe_tupX (pa_cons pe_str (pa_cons (pv 4) (pa_cons (C8.pe_c c_law_integer hr (by omega) rfl (pa_cons (pv 0) pa_nil)) pa_nil)))) pa_nil)))) pss_nil)
  (pss_one (ps_if (pt_cmpR (op_eqX hr.units) (pv 5) pe_int (nomark _)) (pss_one (ps_expr (pe_bm PySem.F.plainAttrs_list PySem.F.slot_list_append PySem.F.type_list_append mt_append (pv 3) (pa_cons (pe_tupX (pa_cons pe_str (pa_cons (pv 4) (pa_cons (C8.pe_c c_law_rows hr (by omega) rfl (pa_cons (pv 0) (pa_cons (pv 1) (pa_cons (pv 2) (pa_cons pe_int (pa_cons pe_int pa_nil)))))) pa_nil)))) pa_nil)))) pss_nil)))))
  (pss_one (ps_ret (pe_tupleOf rfl B.tuple (pv 3))))))
theorem sc_law_program : FnScope ["_law_h", "_law_most", "_law_found", "_law_module", "_law_modules", "_law_names_here"] ["_law_h", "_law_most"] (defScope s_law_program) := ⟨rfl, rfl, rfl, by decide +kernel, rfl, by decide +kernel, by decide +kernel⟩
theorem ok_law_program  {f : Addr} {fd : FuncData} (F : FunD K "_law_program" "_law_program" (defArgs s_law_program) (defBody s_law_program) (defScope s_law_program) [] [] f fd) (B : Blt mg) (c_law_first_rows : C8.Cal P w K mg base 18 "_law_first_rows" (sp_law_first_rows K) []) (c_law_rows : C8.Cal P w K mg base 17 "_law_rows" (sp_law_rows K 3) []) (c_law_names : C8.Cal P w K mg base 3 "_law_names" (sp_law_names K) []) : FnOk P w K mg base CX0 (18 + 1) f fd ["_law_h", "_law_most"] (sp_law_program K) := by
  refine F.ok sc_law_program (fun vs H Q E h => by obtain ⟨_, _, _, rfl, _⟩ := h; rfl) (fun cdv A outer s H vs Q E hr h => ⟨t_law_program K , PSs.nox (?_), pure_law_program vs H Q E h⟩)
  exact (pss_cons (ps_par rfl sc_law_program.nd rfl rfl (by decide) rfl rfl (pa_cons (C8.pe_c c_law_names hr (by omega) rfl (pa_cons (pv 0) (pa_cons pe_int pa_nil))) (pa_cons (C8.pe_c c_law_names hr (by omega) rfl (pa_cons (pv 0) (pa_cons pe_int pa_nil))) pa_nil)) (by rfl))
  (pss_cons (sN 2 sc_law_program.nd pe_dnew)
  (pss_cons (ps_for PassesOwn.never rfl (pi_seq (pv 4)) (gN 3 sc_law_program.nd) (pss_one (ps_asg (pe_op op_addX (C8.pe_c c_law_first_rows hr (by omega) rfl (pa_cons (pv 0) (pa_cons (pv 4) (pa_cons (pv 5) pa_nil)))) (C8.pe_c c_law_rows hr (by omega) rfl (pa_cons (pv 0) (pa_cons (pv 4) (pa_cons (pv 5) (pa_cons pe_int (pa_cons (pv 1) pa_nil))))))) (pg_sub (pv 2) (pv 3) (set_dictX hr.units)))))
  (pss_one (ps_ret (pe_tupX (pa_cons (pv 4) (pa_cons (pv 5) (pa_cons (pv 2) pa_nil)))))))))
end
end M


namespace M
open PySem L2 L2H SlX
def sp_law (K : PySem.W.Frag) : Sp := fun vs H Q _ => ∃ (a : Addr) (ns : List Int), vs = [.ref a] ∧ SqL K H a (ns.map V.int) ∧ ns.length ≤ 63 ∧ ∀ H', Q (.bl true) H'
def t_law (K : PySem.W.Frag) (c : CA) (CO : Addr) : TS := (tSeq (tAsg (tCall (sp_law_mix K) [] E0 (tCons (tVar 0) (tCons (tC (.int 17)) tNil))) (gName 1))
  (tSeq (tFor (iRng1 (tCons (tC (.int 5)) tNil)) (gName 2) (tSeq (tAsg (tCall (sp_law_program K) [] E0 (tCons (tVar 1) (tCons (tC (.int 4)) tNil))) (gTup K 3 (gCons (gName 4) (gCons (gName 5) (gCons (gName 6) gNil)))))
  (tFor (iSeq K (tVar 4)) (gName 3) (tSeq (tAsg (tCall (sp_law_next K) [] E0 (tCons (tVar 1) (tCons (tC (.int 31)) tNil))) (gName 7))
  (tSeq (tAsg (tCallN 2 1 (sp_run K c CO) (fun vs zs => vs ++ zs) E0 (tCons (tMake c.CP (sp_Program___init__ K c.CP) [] E0 (tCons (tCB rDictOf (tCons (tVar 6) tNil)) tNil)) (tCons (tVar 3) tNil)) (tCons (tVar 7) tNil)) (gName 8))
  (tSeq (tAsg (tIf (tB (tCB (rIsi K) (tCons (tPropSl CO (sp_Outcome_events K CO) E0 (tVar 8)) (tCons (tC (.ty "tuple")) tNil)))) (tCall (sp_law_walked K) [] E0 (tCons (tPropSl CO (sp_Outcome_events K CO) E0 (tVar 8)) tNil)) (tC .non)) (gName 9))
  (tSeq (tIfS (tOr (tTest (tOp rIsN (tVar 9) (tC .non))) (tTest (tOp rGtI (tOp (rIx K) (tVar 9) (tC (.int 2))) (tVar 7)))) (tRet (tC (.bl false))) tNext)
  (tSeq (tIfS (tAnd (tTest (tOp (rNeX K) (tPropSl CO (sp_Outcome_ending K CO) E0 (tVar 8)) (tC (.str "stopped")))) (tTest (tOp (rNeX K) (tOp (rIx K) (tVar 9) (tC (.int 1))) (tLstX tNil)))) (tRet (tC (.bl false))) tNext)
  (tSeq (tIfS (tAnd (tTest (tOp rGtI (tVar 7) (tC (.int 0)))) (tTest (tOp (rNeX K) (L2.tSl (rSlA K) (tPropSl CO (sp_Outcome_events K CO) E0 (tVar 8)) tNoPart (tPart (tC (.int 1)))) (tTupX K (tCons (tTupX K (tCons (tC (.str "begin")) (tCons (tVar 3) tNil))) tNil))))) (tRet (tC (.bl false))) tNext)
  (tSeq (tIfS (tAnd (tTest (tOp (rNotInX K) (tPropSl CO (sp_Outcome_ending K CO) E0 (tVar 8)) (tTupX K (tCons (tC (.str "done")) (tCons (tC (.str "stopped")) tNil))))) (tTest (tOp (rNeX K) (L2.tSl (rSlA K) (tPropSl CO (sp_Outcome_events K CO) E0 (tVar 8)) (tPart (tUn rNegI (tC (.int 1)))) tNoPart) (tTupX K (tCons (tTupX K (tCons (tC (.str "fail")) (tCons (tVar 3) tNil))) tNil))))) (tRet (tC (.bl false))) tNext)
  (tSeq (tIfS (tAnd (tTest (tOp (rNeX K) (tOp (rEqX K) (tPropSl CO (sp_Outcome_ending K CO) E0 (tVar 8)) (tC (.str "done"))) (tOp (rEqX K) (L2.tSl (rSlA K) (tPropSl CO (sp_Outcome_events K CO) E0 (tVar 8)) (tPart (tUn rNegI (tC (.int 1)))) tNoPart) (tTupX K (tCons (tTupX K (tCons (tC (.str "end")) (tCons (tVar 3) tNil))) tNil))))) (tTest (tOp rGtI (tVar 7) (tC (.int 0))))) (tRet (tC (.bl false))) tNext)
  (tFor (iSeq K (tVar 4)) (gName 10) (tIfS (tNot (tB (tCall (sp_law_alike K) [] E0 (tCons (tMethSl CO (sp_Outcome_status K CO) E0 (tVar 8) (tCons (tVar 10) tNil)) (tCons (tBM K "dict" rGet2 (tOp (rIx K) (tVar 9) (tC (.int 0))) (tCons (tVar 10) (tCons (tC (.str "absent")) tNil))) tNil))))) (tRet (tC (.bl false))) tNext)))))))))))))
  (tRet (tC (.bl true)))))
def n_law : List Str := ["_law_script", "_law_h", "_law_turn", "_law_start", "_law_modules", "_law_names_here", "_law_program_here", "_law_cap", "_law_outcome", "_law_walked_here", "_law_module"]
theorem OcAt.slt {K : PySem.W.Frag} {H : Hp} {C a : Addr} {e : Str} {w : Wd} {t : List Plc} {es : List (Str × SpE)} {fp : List Addr} (x : OcAt K H C a e w t es fp) : ∃ dx vs, Slt H a C dx vs := by
  obtain ⟨dx, s1, s2, s3, d, _, h, _⟩ := x.ex
  exact ⟨dx, _, h⟩
theorem q_propSl {C : Addr} {sp : Sp} {E : XK} {ta : TE} {σ : L2.St} {H : Hp} {Q : VK} : tPropSl C sp E ta σ H Q = ta σ H fun x H1 => ∃ a dx vs, x = .ref a ∧ Slt H1 a C dx vs ∧ sp [.ref a] H1 Q E := rfl
theorem q_methSl {C : Addr} {sp : Sp} {E : XK} {ta : TE} {t : TA} {σ : L2.St} {H : Hp} {Q : VK} : tMethSl C sp E ta t σ H Q = ta σ H fun x H1 => ∃ a dx vs, x = .ref a ∧ Slt H1 a C dx vs ∧ t σ H1 fun ws H2 => sp (x :: ws) H2 Q E := rfl
theorem q_callN {n m : Nat} {sp : Sp} {gV : List V → List V → List V} {E : XK} {t tk : TA} {σ : L2.St} {H : Hp} {Q : VK} : tCallN n m sp gV E t tk σ H Q = t σ H fun vs H1 => tk σ H1 fun zs H2 => vs.length = n ∧ zs.length = m ∧ sp (gV vs zs) H2 Q E := rfl
theorem q_sl2 {r : V → Option Int → Option Int → Hp → VK → Prop} {te : TE} {tl th : TO} {σ : L2.St} {H : Hp} {Q : VK} : L2.tSl r te tl th σ H Q = te σ H fun x H1 => tl σ H1 fun l H2 => th σ H2 fun u H3 => r x l u H3 Q := rfl
theorem q_noPart {σ : L2.St} {H : Hp} {R : Option Int → Hp → Prop} : tNoPart σ H R = R none H := rfl
theorem q_part {t : TE} {σ : L2.St} {H : Hp} {R : Option Int → Hp → Prop} : tPart t σ H R = t σ H fun x H1 => ∃ i, x = .int i ∧ R (some i) H1 := rfl
theorem q_partI {i : Int} {P : Int → Prop} : (∃ j, V.int i = .int j ∧ P j) = P i := propext ⟨fun ⟨j, e, h⟩ => by cases e; exact h, fun h => ⟨i, rfl, h⟩⟩
local macro_rules | `(tactic| row_readAll n4) => `(tactic| simp only [q_propSl, q_methSl, q_callN, q_sl2, q_noPart, q_part, q_partI, q_isN])
section
variable {K : PySem.W.Frag} {C : Addr}
theorem v_ending {H : Hp} {Q : VK} {a : Addr} {e : Str} {w : Wd} {t : List Plc} {es : List (Str × SpE)} {fp : List Addr} (x : OcAt K H C a e w t es fp) (q : Q (.str e) H) :
    ∃ b dx vs, V.ref a = .ref b ∧ Slt H b C dx vs ∧ sp_Outcome_ending K C [.ref b] H Q E0 := by
  obtain ⟨dx, vs, h⟩ := x.slt
  exact ⟨a, dx, vs, rfl, h, a, e, w, t, es, fp, rfl, x, q⟩
theorem v_events {H : Hp} {Q : VK} {a : Addr} {e : Str} {w : Wd} {t : List Plc} {es : List (Str × SpE)} {fp : List Addr} (x : OcAt K H C a e w t es fp) (q : ∀ p, Im K H (.ref p) (.tuple (w.ev.map evD)) → Q (.ref p) H) :
    ∃ b dx vs, V.ref a = .ref b ∧ Slt H b C dx vs ∧ sp_Outcome_events K C [.ref b] H Q E0 := by
  obtain ⟨dx, vs, h⟩ := x.slt
  exact ⟨a, dx, vs, rfl, h, a, e, w, t, es, fp, rfl, x, q⟩
end
theorem s_ifK {C : TT} {t u : TS} {D : Ends} {σ : L2.St} {H : Hp} (h : ∀ R : Bool → Hp → Prop, (∀ H1, Keep [] H H1 → R false H1) → C σ H R) (rest : ∀ H1, Keep [] H H1 → u D σ H1) : tSeq (tIfS C t tNext) u D σ H :=
  h (fun b H1 => if b = true then t { D with nx := Nx u D } σ H1 else tNext { D with nx := Nx u D } σ H1) fun H1 k => rest H1 k
structure C7 (K : PySem.W.Frag) (CO : Addr) (H : Hp) (n : Nat) (st : Str) (r : Rs) (run : List Str) (b : Nat) (o pw dw lw : Addr) (mw : List (Key × V)) (es : List (Str × SpE)) (fp : List Addr) : Prop where
  oc : OcAt K H CO o r.ending r.w r.trail es fp
  s : SqT K H pw [.ref dw, .ref lw, .int (b : Nat)]
  gd : H dw = some (.dK mw)
  gl : H lw = some (.lst (run.map V.str))
  rm : MapR kS (fun v s => v = .str s) mw r.w.st
  l7 : Law7 n st r run b
  ev : ∀ x ∈ r.w.ev, PyData.strOk x.1 = true ∧ PyData.strOk x.2 = true
  sok : PyData.strOk st = true
local macro_rules | `(tactic| row_readAll gg) => `(tactic| ((try row_readAll go); (try row_readAll n4); (try row_readAll go); (try row_readAll n4); (try row_readAll go)))
section
variable {K : PySem.W.Frag} {CO : Addr} {H : Hp} {n : Nat} {st : Str} {r : Rs} {run : List Str} {b : Nat} {o pw dw lw : Addr} {mw : List (Key × V)} {es : List (Str × SpE)} {fp : List Addr} {v0 v1 v2 v4 v5 v6 v10 : Option V}
theorem C7.k0 {H' : Hp} (x : C7 K CO H n st r run b o pw dw lw mw es fp) (k : Keep [] H H') : C7 K CO H' n st r run b o pw dw lw mw es fp := ⟨x.oc.k0 k, k.sqT x.s, k.obj _ _ List.not_mem_nil x.gd, k.obj _ _ List.not_mem_nil x.gl, x.rm, x.l7, x.ev, x.sok⟩
theorem tt1 (x : C7 K CO H n st r run b o pw dw lw mw es fp) (R : Bool → Hp → Prop) (q : ∀ H1, Keep [] H H1 → R false H1) : (tOr (tTest (tOp rIsN (tVar 9) (tC .non))) (tTest (tOp rGtI (tOp (rIx K) (tVar 9) (tC (.int 2))) (tVar 7)))) [v0, v1, v2, some (V.str st), v4, v5, v6, some (V.int (n : Nat)), some (V.ref o), some (V.ref pw), v10] H R := by
  row_readAll gg
  refine v_ixT x.s (by rfl) ?_
  row_readAll gg
  rw [show decide (((n : Nat) : Int) < ((b : Nat) : Int)) = false from decide_eq_false (by have := x.l7.le; omega)]
  row_readAll gg
  exact q H (Keep.refl _ _)
theorem tt2 (x : C7 K CO H n st r run b o pw dw lw mw es fp) (R : Bool → Hp → Prop) (q : ∀ H1, Keep [] H H1 → R false H1) : (tAnd (tTest (tOp (rNeX K) (tPropSl CO (sp_Outcome_ending K CO) E0 (tVar 8)) (tC (.str "stopped")))) (tTest (tOp (rNeX K) (tOp (rIx K) (tVar 9) (tC (.int 1))) (tLstX tNil)))) [v0, v1, v2, some (V.str st), v4, v5, v6, some (V.int (n : Nat)), some (V.ref o), some (V.ref pw), v10] H R := by
  row_readAll gg
  refine v_ending x.oc ?_
  row_readAll gg
  by_cases e : r.ending = "stopped"
  · rw [show decide (r.ending = Str.ofString "stopped") = true from decide_eq_true e]
    row_readAll gg
    exact q H (Keep.refl _ _)
  · rw [show decide (r.ending = Str.ofString "stopped") = false from decide_eq_false e]
    have er := x.l7.stp e
    have gl := x.gl
    rw [er] at gl
    row_readAll gg
    refine v_ixT x.s (by rfl) ?_
    row_readAll gg
    refine v_mkL (by simp) fun p H1 f1 k1 g1 => ?_
    refine v_neNil (ds := []) (k1.obj _ _ List.not_mem_nil gl) .nil g1 (by rfl) ?_
    row_readAll gg
    exact q H1 k1
theorem mk_ev {e : Str × Str} {H : Hp} {Q : VK} (q : ∀ p H1, Keep [] H H1 → Im K H1 (.ref p) (.tuple [evD e]) → Q (.ref p) H1) : mkT K [.str e.1, .str e.2] H fun x H1 => mkT K [x] H1 Q := by
  refine v_mkT (by row_readAll ln) fun p H1 f1 k1 s1 => ?_
  refine v_mkT (by row_readAll ln) fun p2 H2 f2 k2 s2 => ?_
  exact q p2 H2 (k1.trans k2) (.tup s2 (.cons (.tup (k2.sqT s1) (.cons (.str _) (.cons (.str _) .nil))) .nil))
theorem ev_sh {e : Str × Str} (h1 : PyData.strOk e.1 = true) (h2 : PyData.strOk e.2 = true) : SeqAt.shaped (.tuple [evD e]) = true := evs_shaped (l := [e]) fun x m => by
  rw [List.mem_singleton.mp m]; exact ⟨h1, h2⟩
theorem ok_begin : PyData.strOk (Str.ofString "begin") = true := by decide +kernel
theorem ok_fail : PyData.strOk (Str.ofString "fail") = true := by decide +kernel
theorem ok_end : PyData.strOk (Str.ofString "end") = true := by decide +kernel
theorem tt3 (x : C7 K CO H n st r run b o pw dw lw mw es fp) (R : Bool → Hp → Prop) (q : ∀ H1, Keep [] H H1 → R false H1) : (tAnd (tTest (tOp rGtI (tVar 7) (tC (.int 0)))) (tTest (tOp (rNeX K) (L2.tSl (rSlA K) (tPropSl CO (sp_Outcome_events K CO) E0 (tVar 8)) tNoPart (tPart (tC (.int 1)))) (tTupX K (tCons (tTupX K (tCons (tC (.str "begin")) (tCons (tVar 3) tNil))) tNil))))) [v0, v1, v2, some (V.str st), v4, v5, v6, some (V.int (n : Nat)), some (V.ref o), some (V.ref pw), v10] H R := by
  row_readAll gg
  by_cases e : n = 0
  · rw [show decide ((0 : Int) < ((n : Nat) : Int)) = false from decide_eq_false (by omega)]
    row_readAll gg
    exact q H (Keep.refl _ _)
  · rw [show decide ((0 : Int) < ((n : Nat) : Int)) = true from decide_eq_true (by omega)]
    obtain ⟨l, hl⟩ := x.l7.fst (by omega)
    row_readAll gg
    refine v_events x.oc fun p1 i1 => ?_
    row_readAll gg
    refine v_cutF i1 fun p2 H2 k2 i2 => ?_
    row_readAll gg
    refine mk_ev (e := ("begin", st)) fun p3 H3 k3 i3 => ?_
    rw [← List.map_take, hl] at i2
    refine v_neD (i2.mono k3).dp i3.dp (ev_sh (e := ("begin", st)) ok_begin x.sok) (ev_sh ok_begin x.sok) ?_
    rw [eqv_ev1, show ([((Str.ofString "begin"), st)] ++ l).take 1 = [((Str.ofString "begin"), st)] from rfl, decide_eq_true rfl]
    row_readAll gg
    exact q H3 (k2.trans k3)
theorem tt4 (x : C7 K CO H n st r run b o pw dw lw mw es fp) (R : Bool → Hp → Prop) (q : ∀ H1, Keep [] H H1 → R false H1) : (tAnd (tTest (tOp (rNotInX K) (tPropSl CO (sp_Outcome_ending K CO) E0 (tVar 8)) (tTupX K (tCons (tC (.str "done")) (tCons (tC (.str "stopped")) tNil))))) (tTest (tOp (rNeX K) (L2.tSl (rSlA K) (tPropSl CO (sp_Outcome_events K CO) E0 (tVar 8)) (tPart (tUn rNegI (tC (.int 1)))) tNoPart) (tTupX K (tCons (tTupX K (tCons (tC (.str "fail")) (tCons (tVar 3) tNil))) tNil))))) [v0, v1, v2, some (V.str st), v4, v5, v6, some (V.int (n : Nat)), some (V.ref o), some (V.ref pw), v10] H R := by
  row_readAll gg
  refine v_ending x.oc ?_
  row_readAll gg
  refine v_mkT (by row_readAll ln) fun p1 H1 f1 k1 s1 => ?_
  refine v_ninT (l := ["done", "stopped"]) s1 ?_
  by_cases e : r.ending ∈ ([Str.ofString "done", Str.ofString "stopped"] : List Str)
  · rw [show decide (r.ending ∈ ([Str.ofString "done", Str.ofString "stopped"] : List Str)) = true from decide_eq_true e]
    row_readAll gg
    exact q H1 k1
  · rw [show decide (r.ending ∈ ([Str.ofString "done", Str.ofString "stopped"] : List Str)) = false from decide_eq_false e]
    obtain ⟨l, hl⟩ := x.l7.bad (fun z => e (by rw [z]; exact List.mem_cons_self ..)) (fun z => e (by rw [z]; exact List.mem_cons_of_mem _ (List.mem_cons_self ..)))
    row_readAll gg
    refine v_events (x.k0 k1).oc fun p2 i2 => ?_
    row_readAll gg
    refine v_cutL i2 fun p3 H3 k3 i3 => ?_
    row_readAll gg
    refine mk_ev (e := ("fail", st)) fun p4 H4 k4 i4 => ?_
    rw [← List.map_drop, List.length_map, last_one.mpr ⟨l, hl⟩] at i3
    refine v_neD (i3.mono k4).dp i4.dp (ev_sh (e := ("fail", st)) ok_fail x.sok) (ev_sh ok_fail x.sok) ?_
    rw [eqv_ev1, decide_eq_true rfl]
    row_readAll gg
    exact q H4 ((k1.trans k3).trans k4)
theorem ne_bl {a c : Bool} {H : Hp} {Q : VK} (q : Q (.bl (a != c)) H) : rNeX K (.bl a) (.bl c) H Q := by
  refine v_neD (Im.bl a).dp (Im.bl c).dp (by rfl) (by rfl) ?_
  cases a <;> cases c <;> exact q
theorem tt5 (x : C7 K CO H n st r run b o pw dw lw mw es fp) (R : Bool → Hp → Prop) (q : ∀ H1, Keep [] H H1 → R false H1) : (tAnd (tTest (tOp (rNeX K) (tOp (rEqX K) (tPropSl CO (sp_Outcome_ending K CO) E0 (tVar 8)) (tC (.str "done"))) (tOp (rEqX K) (L2.tSl (rSlA K) (tPropSl CO (sp_Outcome_events K CO) E0 (tVar 8)) (tPart (tUn rNegI (tC (.int 1)))) tNoPart) (tTupX K (tCons (tTupX K (tCons (tC (.str "end")) (tCons (tVar 3) tNil))) tNil))))) (tTest (tOp rGtI (tVar 7) (tC (.int 0))))) [v0, v1, v2, some (V.str st), v4, v5, v6, some (V.int (n : Nat)), some (V.ref o), some (V.ref pw), v10] H R := by
  row_readAll gg
  refine v_ending x.oc ?_
  row_readAll gg
  refine v_events x.oc fun p2 i2 => ?_
  row_readAll gg
  refine v_cutL i2 fun p3 H3 k3 i3 => ?_
  row_readAll gg
  refine mk_ev (e := ("end", st)) fun p4 H4 k4 i4 => ?_
  rw [← List.map_drop, List.length_map] at i3
  refine v_eqD (i3.mono k4).dp i4.dp (evs_shaped fun e m => x.ev e (List.mem_of_mem_drop m)) (ev_sh ok_end x.sok) ?_
  rw [eqv_ev1]
  refine ne_bl ?_
  row_readAll gg
  by_cases e : n = 0
  · rw [show decide ((0 : Int) < ((n : Nat) : Int)) = false from decide_eq_false (by omega)]
    split
    · row_readAll gg
      exact q H4 (k3.trans k4)
    · row_readAll gg
      exact q H4 (k3.trans k4)
  · have fi := x.l7.fin (by omega)
    rw [← last_one] at fi
    rw [show decide (r.ending = Str.ofString "done") = decide (r.w.ev.drop (r.w.ev.length - 1) = [(Str.ofString "end", st)]) from decide_eq_decide.mpr fi, show ∀ z : Bool, (z != z) = false from fun z => by cases z <;> rfl]
    row_readAll gg
    exact q H4 (k3.trans k4)
end
theorem pure_law {K : PySem.W.Frag} {c : CA} {CO : Addr} (T : CC K c) (vs : List V) (H : Hp) (Q : VK) (E : XK) (h : sp_law K vs H Q E) : t_law K c CO { nx := fun _ H' => Q .non H', rt := Q } (start n_law vs) H := by
  obtain ⟨a, ns, rfl, hs, hl, q⟩ := h
  show t_law K c CO _ [some (.ref a), none, none, none, none, none, none, none, none, none, none] H
  unfold t_law
  row_readAll go
  refine ⟨a, ns, 17, rfl, hs, hl, by decide, by decide, fun h c0 H1 fh fc k1 D1 => ?_⟩
  row_readAll go
  refine ⟨by decide, by decide, ?_⟩
  obtain ⟨P0, hP0⟩ : ∃ P0 : Nat → L2.St → Hp → Prop, ∀ i σ' H', P0 i σ' H' ↔ (∃ o2 o3 o4 o5 o6 o7 o8 o9 o10, σ' = [some (.ref a), some (.ref h), o2, o3, o4, o5, o6, o7, o8, o9, o10] ∧ Drw H' h c0) := ⟨_, fun _ _ _ => Iff.rfl⟩
  refine loop_R P0 ((hP0 _ _ _).mpr ⟨_, _, _, _, _, _, _, _, _, rfl, D1⟩) ?_ ?_
  · intro i σ' H2 hi hp
    obtain ⟨o2, o3, o4, o5, o6, o7, o8, o9, o10, rfl, D2⟩ := (hP0 _ _ _).mp hp
    clear hp
    row_readAll go
    refine ⟨h, c0, 4, rfl, D2, by decide, fun p ml nl d ms ns P H3 s3 mn3 dp3 dr fml fnl fd n1 n2 n3 k3 => ?_⟩
    refine v_tup3 s3 ?_
    row_readAll go
    refine .inl ⟨⟨_, SqL.of mn3.m.at_⟩, ?_⟩
    have gf := dr.good
    have nhm : ml ∉ [h, c0] := by have := mn3.m.n1; have := mn3.m.n2; simp; exact ⟨mn3.m.n1, mn3.m.n2⟩
    have nhd : d ∉ [h, c0] := by
      have z := D2.ne1 fd
      simp
      exact z
    obtain ⟨P1, hP1⟩ : ∃ P1 : Nat → L2.St → Hp → Prop, ∀ i' σ' H', P1 i' σ' H' ↔ (∃ o3 o7 o8 o9 o10, σ' = [some (.ref a), some (.ref h), some (.int (0 + (i : Int))), o3, some (.ref ml), some (.ref nl), some (.ref d), o7, o8, o9, o10] ∧ Drw H' h c0 ∧ DictP K H' d P ∧ Keep [h, c0] H3 H') := ⟨_, fun _ _ _ => Iff.rfl⟩
    refine loop_W (S := [h, c0]) (Wk.lst (SqL.of mn3.m.at_) nhm) P1 (fun i' σ' H' p => by obtain ⟨_, _, _, _, _, _, _, _, k⟩ := (hP1 _ _ _).mp p; exact k)
      ((hP1 _ _ _).mpr ⟨_, _, _, _, _, rfl, mn3.d, dp3, Keep.refl _ _⟩) ?_ ?_
    · intro i1 x1 σ1 H4 H5 hx hp k5
      obtain ⟨o3, o7, o8, o9, o10, rfl, D4, dp4, k4⟩ := (hP1 _ _ _).mp hp
      clear hp
      rw [List.getElem?_map, Option.map_eq_some_iff] at hx
      obtain ⟨st, hst, rfl⟩ := hx
      have mst : st ∈ ms := List.mem_of_getElem? hst
      have D5 := D4.k0 k5
      have dp5 := dp4.k0 k5
      have k35 : Keep [h, c0] H3 H5 := k4.step0 k5
      row_readAll go
      refine ⟨h, c0, 31, rfl, D5, by decide, by decide, fun v H6 v0 v31 k6 D6 => ?_⟩
      obtain ⟨n, rfl⟩ : ∃ n : Nat, v = n := ⟨v.toNat, by omega⟩
      have hn : n ≤ 30 := by omega
      have dp6 := dp5.keep k6 nhd
      have k36 : Keep [h, c0] H3 H6 := k35.trans k6
      obtain ⟨bst, ebst⟩ := dr.has mst
      obtain ⟨r, er⟩ := dr.runs st hn
      obtain ⟨run, b, L7⟩ := law7 ebst er
      obtain ⟨lev, oev⟩ := ran_ev gf hn er
      row_readAll go
      row_readAll n4
      row_readAll go
      obtain ⟨m6, g6, r6⟩ := dp6
      refine ⟨d, m6, rfl, .inl g6, fun pd H7 f7 k7 g7 => ?_⟩
      intro A dA fA fdA nAd
      have kn : Keep [] H7 (upd (upd H7 dA (.own A)) A (.ins c.CP dA [])) := (Keep.new fdA).trans (Keep.new (by rw [upd_ne (Ne.symm nAd)]; exact fA))
      have hA : upd (upd H7 dA (.own A)) A (.ins c.CP dA []) A = some (.ins c.CP dA []) := upd_same
      have hdA : upd (upd H7 dA (.own A)) A (.ins c.CP dA []) dA = some (.own A) := by rw [upd_ne nAd]; exact upd_same
      generalize upd (upd H7 dA (.own A)) A (.ins c.CP dA []) = H8 at kn hA hdA ⊢
      refine ⟨A, dA, pd, P, rfl, hA, hdA, nAd, ⟨m6, kn.obj _ _ List.not_mem_nil g7, r6.mono fun v b i => (i.mono k7).mono kn⟩, dr.ok, fun nl' e' H9 x9 _ _ k9 => ⟨rfl, ?_⟩⟩
      have k69 : Keep [] H6 H9 := (k7.trans kn).step k9 (sub_cons (.inr (k7.free fA)) (sub_cons (.inr (k7.free fdA)) sub_nil))
      refine ⟨A, sortP P, _, st, ms, ns, bst, r, n, rfl, x9, gf, hn, ebst, er, fun o es fp H10 oc fr k10 => ?_⟩
      have k6A : Keep [] H6 H10 := k69.trans k10
      row_readAll go
      row_readAll n4
      row_readAll go
      refine v_events oc fun p1 i1 => ?_
      obtain ⟨_, xs1, e1, s1, al1⟩ := i1.of_tup
      cases e1
      row_readAll go
      refine v_events oc fun p2 i2 => ?_
      refine ⟨p2, r.w.ev, (r.w.st, run, b), rfl, i2, L7.wk, lev, fun e m => (oev e m).2, fun pw dw lw mw H11 s11 g11 rm gl11 k11 => ?_⟩
      have k6B : Keep [] H6 H11 := k6A.trans k11
      have X : C7 K CO H11 n st r run b o pw dw lw mw es fp := ⟨oc.k0 k11, s11, g11, gl11, rm, L7, oev, (gf.okm _ mst).ok⟩
      show Nx _ _ [some (.ref a), some (.ref h), some (.int (0 + (i : Int))), some (.str st), some (.ref ml), some (.ref nl), some (.ref d), some (.int n), some (.ref o), some (.ref pw), o10] H11
      refine q_nx (s_ifK (tt1 X) fun H12 k12 => ?_)
      refine s_ifK (tt2 (X.k0 k12)) fun H13 k13 => ?_
      have X := (X.k0 k12).k0 k13
      have k6B := (k6B.trans k12).trans k13
      clear k12 k13
      refine s_ifK (tt3 X) fun H14 k14 => ?_
      refine s_ifK (tt4 (X.k0 k14)) fun H15 k15 => ?_
      have X := (X.k0 k14).k0 k15
      have k6B := (k6B.trans k14).trans k15
      refine s_ifK (tt5 X) fun H16 k16 => ?_
      have X := X.k0 k16
      have k6B := k6B.trans k16
      have k3G : Keep [h, c0] H3 H16 := k36.step0 k6B
      have D16 := D6.k0 k6B
      have dp16 : DictP K H16 d P := ⟨m6, k6B.obj _ _ List.not_mem_nil g6, r6.mono fun v b i => i.mono k6B⟩
      row_readAll go
      refine .inl ⟨⟨_, SqL.of (k3G.obj _ _ nhm mn3.m.at_)⟩, ?_⟩
      obtain ⟨P2, hP2⟩ : ∃ P2 : Nat → L2.St → Hp → Prop, ∀ i' σ' H', P2 i' σ' H' ↔ (∃ o10, σ' = [some (.ref a), some (.ref h), some (.int (0 + (i : Int))), some (.str st), some (.ref ml), some (.ref nl), some (.ref d), some (.int n), some (.ref o), some (.ref pw), o10] ∧ Keep [] H16 H') := ⟨_, fun _ _ _ => Iff.rfl⟩
      refine loop_W (S := []) (Wk.lst (SqL.of (k3G.obj _ _ nhm mn3.m.at_)) List.not_mem_nil) P2 (fun i' σ' H' p => by obtain ⟨_, _, k⟩ := (hP2 _ _ _).mp p; exact k)
        ((hP2 _ _ _).mpr ⟨_, rfl, Keep.refl _ _⟩) ?_ ?_
      · intro i2 x2 σ2 H17 H18 hx2 hp k18
        obtain ⟨o10, rfl, k17⟩ := (hP2 _ _ _).mp hp
        clear hp
        rw [List.getElem?_map, Option.map_eq_some_iff] at hx2
        obtain ⟨m2, hm2, rfl⟩ := hx2
        have X := X.k0 (k17.trans k18)
        obtain ⟨dxo, vso, hso⟩ := X.oc.slt
        row_readAll go
        row_readAll n4
        row_readAll go
        refine ⟨o, dxo, vso, rfl, hso, ?_⟩
        row_readAll go
        refine ⟨o, m2, _, _, _, _, _, rfl, X.oc, ?_⟩
        row_readAll go
        refine v_ixT X.s (by rfl) ?_
        row_readAll go
        refine v_tyD X.gd (v_get2 (.inl X.gd) ?_)
        rw [get_str X.rm]
        row_readAll go
        refine ⟨told r.w m2, rfl, fun H19 k19 => ?_⟩
        row_readAll go
        exact (hP2 _ _ _).mpr ⟨_, rfl, (k17.trans k18).trans k19⟩
      · intro σ2 H17 hp
        obtain ⟨o10, rfl, k17⟩ := (hP2 _ _ _).mp hp
        clear hp
        row_readAll go
        exact (hP1 _ _ _).mpr ⟨_, _, _, _, _, rfl, D16.k0 k17, dp16.k0 k17, k3G.step0 k17⟩
    · intro σ1 H4 hp
      obtain ⟨o3, o7, o8, o9, o10, rfl, D4, dp4, k4⟩ := (hP1 _ _ _).mp hp
      row_readAll go
      exact (hP0 _ _ _).mpr ⟨_, _, _, _, _, _, _, _, _, rfl, D4⟩
  · intro σ' H2 hp
    obtain ⟨o2, o3, o4, o5, o6, o7, o8, o9, o10, rfl, D2⟩ := (hP0 _ _ _).mp hp
    row_readAll go
    exact q H2
end M


namespace M
open PySem PySem.Spec PyProof.Rows L2 L2H SlX
section
variable {P : Program} {w : World} {K : PySem.W.Frag} {mg : Str → Option Value} {base : Heap}
theorem sc_World___init__ : FnScope ["self", "limit"] ["self", "limit"] (defScope s_World___init__) := ⟨rfl, rfl, rfl, by decide +kernel, rfl, by decide +kernel, by decide +kernel⟩
theorem ok_World___init__ {CW : Addr} (T : InsC K CW nmW) {f : Addr} {fd : FuncData} (F : FunD K "__init__" "World.__init__" (defArgs s_World___init__) (defBody s_World___init__) (defScope s_World___init__) [] [] f fd) (B : Blt mg)  : FnOk P w K mg base CX0 (0 + 1) f fd ["self", "limit"] (sp_World___init__ K CW) := by
  refine F.ok sc_World___init__ (fun vs H Q E h => by obtain ⟨_, _, _, rfl, _⟩ := h; rfl) (fun cdv A outer s H vs Q E hr h => ⟨t_World___init__ K , PSs.nox (?_), pure_World___init__ T vs H Q E h⟩)
  exact (pss_cons (ps_fld (pv 0) (pv 1) rfl)
  (pss_cons (ps_fld (pv 0) pe_dnew rfl)
  (pss_cons (ps_fld (pv 0) pe_dnewP rfl)
  (pss_cons (ps_fld (pv 0) (pe_lstX pa_nil) rfl)
  (pss_one (ps_fld (pv 0) (pe_lstX pa_nil) rfl))))))
theorem sc_World_told_status : FnScope ["self", "module"] ["self", "module"] (defScope s_World_told_status) := ⟨rfl, rfl, rfl, by decide +kernel, rfl, by decide +kernel, by decide +kernel⟩
theorem ok_World_told_status {CW : Addr} (T : InsC K CW nmW) {f : Addr} {fd : FuncData} (F : FunD K "told_status" "World.told_status" (defArgs s_World_told_status) (defBody s_World_told_status) (defScope s_World_told_status) [] [] f fd) (B : Blt mg) (gk_ABSENT : GS mg "ABSENT" "absent") : FnOk P w K mg base CX0 (0 + 1) f fd ["self", "module"] (sp_World_told_status K CW) := by
  refine F.ok sc_World_told_status (fun vs H Q E h => by obtain ⟨_, _, _, rfl, _⟩ := h; rfl) (fun cdv A outer s H vs Q E hr h => ⟨t_World_told_status K , PSs.nox (?_), pure_World_told_status T vs H Q E h⟩)
  exact (pss_one (ps_ret (pe_bm PySem.F.plainAttrs_dict PySem.F.slot_dict_get PySem.F.type_dict_get (mt_get2 hr.units) (pe_fld (pv 0) rfl) (pa_cons (pv 1) (pa_cons (C8.pe_gc rfl gk_ABSENT) pa_nil)))))
theorem ok_World_told_statusH {CW : Addr} (T : InsC K CW nmW) {f : Addr} {fd : FuncData} (F : FunD K "told_status" "World.told_status" (defArgs s_World_told_status) (defBody s_World_told_status) (defScope s_World_told_status) [] [] f fd) (B : Blt mg) (gk_ABSENT : GS mg "ABSENT" "absent") : FnH P w K mg base CX0 (0 + 1) f fd ["self", "module"] (sp_World_told_status K CW) := by
  refine M.FunD.okH F sc_World_told_status (fun vs H Q E h => by obtain ⟨_, _, _, rfl, _⟩ := h; rfl) (fun cdv A outer s H vs Q E p hot hr h => ⟨t_World_told_status K , ?_, pure_World_told_status T vs H Q E h⟩)
  have hc : HotC (cxH CX0 P w K mg base ["self", "module"] "World.told_status" (defScope s_World_told_status) f cdv A outer s H E p) := hotF hot
  exact (pss_one (ps_ret (pe_bm PySem.F.plainAttrs_dict PySem.F.slot_dict_get PySem.F.type_dict_get (mt_get2 (RoomH.units hr)) (pe_fld (pv 0) rfl) (pa_cons (pv 1) (pa_cons (C8.pe_gc rfl gk_ABSENT) pa_nil)))))
theorem sc_World_enter : FnScope ["self", "module"] ["self", "module"] (defScope s_World_enter) := ⟨rfl, rfl, rfl, by decide +kernel, rfl, by decide +kernel, by decide +kernel⟩
theorem ok_World_enter {CW : Addr} (T : InsC K CW nmW) {f : Addr} {fd : FuncData} (F : FunD K "enter" "World.enter" (defArgs s_World_enter) (defBody s_World_enter) (defScope s_World_enter) [] [] f fd) (B : Blt mg) (gk_RUNNING : GS mg "RUNNING" "running") : FnOk P w K mg base CX0 (0 + 1) f fd ["self", "module"] (sp_World_enter K CW) := by
  refine F.ok sc_World_enter (fun vs H Q E h => by obtain ⟨_, _, _, rfl, _⟩ := h; rfl) (fun cdv A outer s H vs Q E hr h => ⟨t_World_enter K , PSs.nox (?_), pure_World_enter T vs H Q E h⟩)
  exact (pss_cons (ps_asg (C8.pe_gc rfl gk_RUNNING) (pg_sub (pe_fld (pv 0) rfl) (pv 1) (set_dictX hr.units)))
  (pss_one (ps_expr (pe_bm PySem.F.plainAttrs_list PySem.F.slot_list_append PySem.F.type_list_append mt_append (pe_fld (pv 0) rfl) (pa_cons (pe_tupX (pa_cons pe_str (pa_cons (pv 1) pa_nil))) pa_nil)))))
theorem sc_World_leave : FnScope ["self", "module"] ["self", "module"] (defScope s_World_leave) := ⟨rfl, rfl, rfl, by decide +kernel, rfl, by decide +kernel, by decide +kernel⟩
theorem ok_World_leave {CW : Addr} (T : InsC K CW nmW) {f : Addr} {fd : FuncData} (F : FunD K "leave" "World.leave" (defArgs s_World_leave) (defBody s_World_leave) (defScope s_World_leave) [] [] f fd) (B : Blt mg) (gk_DONE : GS mg "DONE" "done") : FnOk P w K mg base CX0 (0 + 1) f fd ["self", "module"] (sp_World_leave K CW) := by
  refine F.ok sc_World_leave (fun vs H Q E h => by obtain ⟨_, _, _, rfl, _⟩ := h; rfl) (fun cdv A outer s H vs Q E hr h => ⟨t_World_leave K , PSs.nox (?_), pure_World_leave T vs H Q E h⟩)
  exact (pss_cons (ps_asg (C8.pe_gc rfl gk_DONE) (pg_sub (pe_fld (pv 0) rfl) (pv 1) (set_dictX hr.units)))
  (pss_one (ps_expr (pe_bm PySem.F.plainAttrs_list PySem.F.slot_list_append PySem.F.type_list_append mt_append (pe_fld (pv 0) rfl) (pa_cons (pe_tupX (pa_cons pe_str (pa_cons (pv 1) pa_nil))) pa_nil)))))
theorem sc_World_meet : FnScope ["self", "module", "status"] ["self", "module"] (defScope s_World_meet) := ⟨rfl, rfl, rfl, by decide +kernel, rfl, by decide +kernel, by decide +kernel⟩
theorem ok_World_meet {CW : Addr} (T : InsC K CW nmW) {f : Addr} {fd : FuncData} (F : FunD K "meet" "World.meet" (defArgs s_World_meet) (defBody s_World_meet) (defScope s_World_meet) [] [] f fd) (B : Blt mg) (m_told_status : C8.Met P w K mg base 1 CW "told_status" (sp_World_told_status K CW) []) (gk_RUNNING : GS mg "RUNNING" "running") (gk_ABSENT : GS mg "ABSENT" "absent") : FnOk P w K mg base CX0 (1 + 1) f fd ["self", "module"] (sp_World_meet K CW) := by
  refine F.ok sc_World_meet (fun vs H Q E h => by obtain ⟨_, _, _, rfl, _⟩ := h; rfl) (fun cdv A outer s H vs Q E hr h => ⟨t_World_meet K CW, PSs.nox (?_), pure_World_meet T vs H Q E h⟩)
  exact (pss_cons (sN 2 sc_World_meet.nd (C8.pe_mt m_told_status hr (by omega) (pv 0) (pa_cons (pv 1) pa_nil)))
  (pss_cons (ps_if (pt_cmpR (op_eqX hr.units) (pv 2) (C8.pe_gc rfl gk_ABSENT) (nomark _)) (pss_one (ps_ret pe_bl)) pss_nil)
  (pss_cons (ps_expr (pe_bm PySem.F.plainAttrs_list PySem.F.slot_list_append PySem.F.type_list_append mt_append (pe_fld (pv 0) rfl) (pa_cons (pe_tupX (pa_cons (pe_ifExp (pt_cmpR (op_eqX hr.units) (pv 2) (C8.pe_gc rfl gk_RUNNING) (nomark _)) pe_str pe_str) (pa_cons (pv 1) pa_nil))) pa_nil)))
  (pss_one (ps_ret pe_bl)))))
theorem sc_World_fail : FnScope ["self", "module", "key"] ["self", "module"] (defScope s_World_fail) := ⟨rfl, rfl, rfl, by decide +kernel, rfl, by decide +kernel, by decide +kernel⟩
theorem ok_World_fail {CW : Addr} (T : InsC K CW nmW) {f : Addr} {fd : FuncData} (F : FunD K "fail" "World.fail" (defArgs s_World_fail) (defBody s_World_fail) (defScope s_World_fail) [] [] f fd) (B : Blt mg) (gk_ABSENT : GS mg "ABSENT" "absent") : FnH P w K mg base CX0 (0 + 1) f fd ["self", "module"] (sp_World_fail K CW) := by
  refine M.FunD.okH F sc_World_fail (fun vs H Q E h => by obtain ⟨_, _, _, rfl, _⟩ := h; rfl) (fun cdv A outer s H vs Q E p hot hr h => ⟨t_World_fail K , ?_, pure_World_fail T vs H Q E h⟩)
  have hc : HotC (cxH CX0 P w K mg base ["self", "module", "key"] "World.fail" (defScope s_World_fail) f cdv A outer s H E p) := hotF hot
  exact (pss_cons (ps_asg (C8.pe_gc rfl gk_ABSENT) (pg_sub (pe_fld (pv 0) rfl) (pv 1) (set_dictX (RoomH.units hr))))
  (pss_cons (ps_fld (pv 0) (pe_lock (pe_dcH (own := [("key", 2)]) (g := (gName 2)) (tt := (tTest (tOp (rNeX K) (tOp (rIx K) (tVar 2) (tC (.int 0))) (tVar 1)))) (RoomH.units hr) hc sc_World_fail.nd (pi_keysH (pe_fld (pv 0) rfl)) (blkOk_by (N := ["self", "module", "key"]) (sc := defScope s_World_fail) (by decide +kernel)) (fun _ _ _ _ _ _ => (gN 2 sc_World_fail.nd)) (fun _ _ _ _ _ _ => (pts_one (pt_cmpR (op_neX (RoomH.units hr)) (pe_ix ix_seq (pv 2) pe_int (fun _ _ => rfl)) (pv 1) (nomark _)))) (fun _ _ _ _ _ _ => (pv 2)) (fun _ _ _ _ _ _ => (pe_dix (RoomH.units hr) (pe_fld (pv 0) rfl) (pv 2) (fun _ _ => rfl))))) rfl)
  (pss_one (ps_expr (pe_bm PySem.F.plainAttrs_list PySem.F.slot_list_append PySem.F.type_list_append mt_append (pe_fld (pv 0) rfl) (pa_cons (pe_tupX (pa_cons pe_str (pa_cons (pv 1) pa_nil))) pa_nil))))))
theorem sc_Outcome___init__ : FnScope ["self", "ending", "shown", "events", "trail", "spaces"] ["self", "ending", "shown", "events", "trail", "spaces"] (defScope s_Outcome___init__) := ⟨rfl, rfl, rfl, by decide +kernel, rfl, by decide +kernel, by decide +kernel⟩
theorem ok_Outcome___init__ {CO p1 p2 p3 p4 p5 : Addr} (T : OutC K CO p1 p2 p3 p4 p5) {f : Addr} {fd : FuncData} (F : FunD K "__init__" "Outcome.__init__" (defArgs s_Outcome___init__) (defBody s_Outcome___init__) (defScope s_Outcome___init__) [] [] f fd) (B : Blt mg)  : FnOk P w K mg base CX0 (0 + 1) f fd ["self", "ending", "shown", "events", "trail", "spaces"] (sp_Outcome___init__ K CO) := by
  refine F.ok sc_Outcome___init__ (fun vs H Q E h => by obtain ⟨_, _, _, _, _, _, _, _, _, _, rfl, _⟩ := h; rfl) (fun cdv A outer s H vs Q E hr h => ⟨t_Outcome___init__ K , PSs.nox (?_), pure_Outcome___init__ T vs H Q E h⟩)
  exact (pss_cons (SlX.ps_sl (pv 0) (pv 1))
  (pss_cons (SlX.ps_sl (pv 0) (pe_tupleOf rfl B.tuple (pv 2)))
  (pss_cons (SlX.ps_sl (pv 0) (pe_tupleOf rfl B.tuple (pv 3)))
  (pss_cons (SlX.ps_sl (pv 0) (pe_tupleOf rfl B.tuple (pv 4)))
  (pss_one (SlX.ps_sl (pv 0) (pv 5)))))))
theorem ok_Outcome___init__H {CO p1 p2 p3 p4 p5 : Addr} (T : OutC K CO p1 p2 p3 p4 p5) {f : Addr} {fd : FuncData} (F : FunD K "__init__" "Outcome.__init__" (defArgs s_Outcome___init__) (defBody s_Outcome___init__) (defScope s_Outcome___init__) [] [] f fd) (B : Blt mg)  : FnH P w K mg base CX0 (0 + 1) f fd ["self", "ending", "shown", "events", "trail", "spaces"] (sp_Outcome___init__ K CO) := by
  refine M.FunD.okH F sc_Outcome___init__ (fun vs H Q E h => by obtain ⟨_, _, _, _, _, _, _, _, _, _, rfl, _⟩ := h; rfl) (fun cdv A outer s H vs Q E p hot hr h => ⟨t_Outcome___init__ K , ?_, pure_Outcome___init__ T vs H Q E h⟩)
  have hc : HotC (cxH CX0 P w K mg base ["self", "ending", "shown", "events", "trail", "spaces"] "Outcome.__init__" (defScope s_Outcome___init__) f cdv A outer s H E p) := hotF hot
  exact (pss_cons (SlX.ps_sl (pv 0) (pv 1))
  (pss_cons (SlX.ps_sl (pv 0) (pe_tupleOf rfl B.tuple (pv 2)))
  (pss_cons (SlX.ps_sl (pv 0) (pe_tupleOf rfl B.tuple (pv 3)))
  (pss_cons (SlX.ps_sl (pv 0) (pe_tupleOf rfl B.tuple (pv 4)))
  (pss_one (SlX.ps_sl (pv 0) (pv 5)))))))
theorem sc_World_outcome : FnScope ["self", "ending", "trail", "spaces", "module", "name"] ["self", "ending", "trail"] (defScope s_World_outcome) := ⟨rfl, rfl, rfl, by decide +kernel, rfl, by decide +kernel, by decide +kernel⟩
theorem ok_World_outcome {CW CO : Addr} (T : InsC K CW nmW) {f : Addr} {fd : FuncData} (F : FunD K "outcome" "World.outcome" (defArgs s_World_outcome) (defBody s_World_outcome) (defScope s_World_outcome) [] [] f fd) (B : Blt mg) (k_Outcome : C8.Mak P w K mg base 1 "Outcome" CO (sp_Outcome___init__ K CO) []) (m_told_status : C8.Met P w K mg base 1 CW "told_status" (sp_World_told_status K CW) []) (gk_ABSENT : GS mg "ABSENT" "absent") : FnOk P w K mg base CX0 (2 + 1) f fd ["self", "ending", "trail"] (sp_World_outcome K CW CO) := by
  refine F.ok sc_World_outcome (fun vs H Q E h => by obtain ⟨_, _, _, _, _, rfl, _⟩ := h; rfl) (fun cdv A outer s H vs Q E hr h => ⟨t_World_outcome K CW CO E0, PSs.nox (?_), pure_World_outcome T vs H Q E h⟩)
  exact (pss_cons (sN 3 sc_World_outcome.nd pe_dnew)
  (pss_cons (ps_for PassesOwn.never rfl (pi_list (pe_callB (cb_sortT (.inl rfl)) rfl B.sorted bt_sorted (pa_cons (pe_fld (pv 0) rfl) pa_nil))) (pg_tup rfl (pgs_cons (gN 4 sc_World_outcome.nd) (pgs_cons (gN 5 sc_World_outcome.nd) pgs_nil))) (pss_cons (ps_if (pt_cmp (pc_dninX hr.units (pv 4) (pv 3))) (pss_one (ps_asg (pe_tupN (pa_cons (C8.pe_mt m_told_status hr (by omega) (pv 0) (pa_cons (pv 4) pa_nil)) (pa_cons pe_dnew pa_nil))) (pg_sub (pv 3) (pv 4) (set_dictX hr.units)))) pss_nil)
  (pss_one (ps_asg (pe_dix hr.units (pe_fld (pv 0) rfl) (pe_tupN (pa_cons (pv 4) (pa_cons (pv 5) pa_nil))) (fun _ _ => rfl)) (pg_sub (pe_ix ix_seq (pe_dix hr.units (pv 3) (pv 4) (fun _ _ => rfl)) pe_int (fun _ _ => rfl)) (pv 5) (set_dictX hr.units))))))
  (pss_cons (ps_lock (ps_for PassesOwn.never rfl (pi_keys (pe_fld (pv 0) rfl)) (gN 4 sc_World_outcome.nd) (pss_one (ps_if (PW.pt (pw_and (pt_cmp (pc_dninX hr.units (pv 4) (pv 3))) (pw_and1 (pt_cmpR (op_neX hr.units) (pe_dix hr.units (pe_fld (pv 0) rfl) (pv 4) (fun _ _ => rfl)) (C8.pe_gc rfl gk_ABSENT) (nomark _))))) (pss_one (ps_asg (pe_tupN (pa_cons (pe_dix hr.units (pe_fld (pv 0) rfl) (pv 4) (fun _ _ => rfl)) (pa_cons pe_dnew pa_nil))) (pg_sub (pv 3) (pv 4) (set_dictX hr.units)))) pss_nil))))
  (pss_one (ps_ret (C8.pe_mk k_Outcome hr (by omega) rfl (pa_cons (pv 1) (pa_cons (pe_fld (pv 0) rfl) (pa_cons (pe_fld (pv 0) rfl) (pa_cons (pv 2) (pa_cons (pv 3) pa_nil)))))))))))
theorem ok_World_outcomeH {CW CO : Addr} (T : InsC K CW nmW) {f : Addr} {fd : FuncData} (F : FunD K "outcome" "World.outcome" (defArgs s_World_outcome) (defBody s_World_outcome) (defScope s_World_outcome) [] [] f fd) (B : Blt mg) (kh_Outcome : MakH P w K mg base 1 "Outcome" CO (sp_Outcome___init__ K CO)) (m_told_statusH : MetH P w K mg base 1 CW "told_status" (sp_World_told_status K CW)) (gk_ABSENT : GS mg "ABSENT" "absent") : FnH P w K mg base CX0 (2 + 1) f fd ["self", "ending", "trail"] (sp_World_outcome K CW CO) := by
  refine M.FunD.okH F sc_World_outcome (fun vs H Q E h => by obtain ⟨_, _, _, _, _, rfl, _⟩ := h; rfl) (fun cdv A outer s H vs Q E p hot hr h => ⟨t_World_outcome K CW CO E0, ?_, pure_World_outcome T vs H Q E h⟩)
  have hc : HotC (cxH CX0 P w K mg base ["self", "ending", "trail", "spaces", "module", "name"] "World.outcome" (defScope s_World_outcome) f cdv A outer s H E p) := hotF hot
  exact (pss_cons (sN 3 sc_World_outcome.nd pe_dnew)
  (pss_cons (L2H.ps_forH (passes_of rfl) hc (pi_listH (pe_callB (cb_sortT (.inr hc)) rfl B.sorted bt_sorted (pa_cons (pe_fld (pv 0) rfl) pa_nil))) (pg_tupH hc (pgs_cons (gN 4 sc_World_outcome.nd) (pgs_cons (gN 5 sc_World_outcome.nd) pgs_nil))) (pss_cons (ps_if (pt_cmp (pc_dninX (RoomH.units hr) (pv 4) (pv 3))) (pss_one (ps_asg (pe_tupN (pa_cons (pe_mtH m_told_statusH hc hr (by omega) (pv 0) (pa_cons (pv 4) pa_nil)) (pa_cons pe_dnew pa_nil))) (pg_sub (pv 3) (pv 4) (set_dictX (RoomH.units hr))))) pss_nil)
  (pss_one (ps_asg (pe_dix (RoomH.units hr) (pe_fld (pv 0) rfl) (pe_tupN (pa_cons (pv 4) (pa_cons (pv 5) pa_nil))) (fun _ _ => rfl)) (pg_sub (pe_ix ix_seq (pe_dix (RoomH.units hr) (pv 3) (pv 4) (fun _ _ => rfl)) pe_int (fun _ _ => rfl)) (pv 5) (set_dictX (RoomH.units hr)))))))
  (pss_cons (ps_lock (L2H.ps_forH (passes_of rfl) hc (pi_keysH (pe_fld (pv 0) rfl)) (gN 4 sc_World_outcome.nd) (pss_one (ps_if (PW.pt (pw_and (pt_cmp (pc_dninX (RoomH.units hr) (pv 4) (pv 3))) (pw_and1 (pt_cmpR (op_neX (RoomH.units hr)) (pe_dix (RoomH.units hr) (pe_fld (pv 0) rfl) (pv 4) (fun _ _ => rfl)) (C8.pe_gc rfl gk_ABSENT) (nomark _))))) (pss_one (ps_asg (pe_tupN (pa_cons (pe_dix (RoomH.units hr) (pe_fld (pv 0) rfl) (pv 4) (fun _ _ => rfl)) (pa_cons pe_dnew pa_nil))) (pg_sub (pv 3) (pv 4) (set_dictX (RoomH.units hr))))) pss_nil))))
  (pss_one (ps_ret (pe_mkH kh_Outcome hc hr (by omega) rfl (pa_cons (pv 1) (pa_cons (pe_fld (pv 0) rfl) (pa_cons (pe_fld (pv 0) rfl) (pa_cons (pv 2) (pa_cons (pv 3) pa_nil)))))))))))
theorem sc_Interpreter_refuse : FnScope ["self", "kind"] ["self", "kind"] (defScope s_Interpreter_refuse) := ⟨rfl, rfl, rfl, by decide +kernel, rfl, by decide +kernel, by decide +kernel⟩
theorem ok_Interpreter_refuse {c : CA} (T : CC K c) {f : Addr} {fd : FuncData} (F : FunD K "refuse" "Interpreter.refuse" (defArgs s_Interpreter_refuse) (defBody s_Interpreter_refuse) (defScope s_Interpreter_refuse) [] [] f fd) (B : Blt mg) (x_Failure : XMk P w K mg base 1 "Failure" c.CF ["kind", "places"]) : FnOk P w K mg base (L2N.CX P w) (2 + 1) f fd ["self", "kind"] (sp_Interpreter_refuse K c) := by
  refine F.ok sc_Interpreter_refuse (fun vs H Q E h => by obtain ⟨_, _, _, _, _, rfl, _⟩ := h; rfl) (fun cdv A outer s H vs Q E hr h => ⟨t_Interpreter_refuse K c (w0 E), ?_, pure_Interpreter_refuse T vs H Q E h⟩)
  have tk : L2N.Takes (cxOf (L2N.CX P w) P w K mg base ["self", "kind"] "Interpreter.refuse" (defScope s_Interpreter_refuse) f cdv A outer s H E) (w0 E) := takesF
  have tc : TryC (cxOf (L2N.CX P w) P w K mg base ["self", "kind"] "Interpreter.refuse" (defScope s_Interpreter_refuse) f cdv A outer s H E) := tryF
  exact (pss_one (L2N.ps_raise rfl tk (x_Failure.mk hr (by omega) rfl (pk_cons (pv 1) (pk_cons (pe_tupleOf rfl B.tuple (pe_fld (pv 0) rfl)) pk_nil)))))
theorem sc_Interpreter_take_block : FnScope ["self"] ["self"] (defScope s_Interpreter_take_block) := ⟨rfl, rfl, rfl, by decide +kernel, rfl, by decide +kernel, by decide +kernel⟩
theorem ok_Interpreter_take_block {c : CA} (T : CC K c) {f : Addr} {fd : FuncData} (F : FunD K "take_block" "Interpreter.take_block" (defArgs s_Interpreter_take_block) (defBody s_Interpreter_take_block) (defScope s_Interpreter_take_block) [] [] f fd) (B : Blt mg) (x_Stop : XMk P w K mg base 1 "Stop" c.CS ["places"]) : FnOk P w K mg base (L2N.CX P w) (2 + 1) f fd ["self"] (sp_Interpreter_take_block K c) := by
  refine F.ok sc_Interpreter_take_block (fun vs H Q E h => by obtain ⟨_, _, _, _, rfl, _⟩ := h; rfl) (fun cdv A outer s H vs Q E hr h => ⟨t_Interpreter_take_block K c (w0 E), ?_, pure_Interpreter_take_block T vs H Q E h⟩)
  have tk : L2N.Takes (cxOf (L2N.CX P w) P w K mg base ["self"] "Interpreter.take_block" (defScope s_Interpreter_take_block) f cdv A outer s H E) (w0 E) := takesF
  have tc : TryC (cxOf (L2N.CX P w) P w K mg base ["self"] "Interpreter.take_block" (defScope s_Interpreter_take_block) f cdv A outer s H E) := tryF
  exact (pss_cons (ps_if (pt_cmpR (op_eqX hr.units) (pe_fld (pe_fld (pv 0) rfl) rfl) pe_int (nomark _)) (pss_one (L2N.ps_raise rfl tk (x_Stop.mk hr (by omega) rfl (pk_cons (pe_tupleOf rfl B.tuple (pe_fld (pv 0) rfl)) pk_nil)))) pss_nil)
  (pss_one (ps_fldaug (pe_fld (pv 0) rfl) pe_int in_sub)))
theorem sc_Interpreter_read : FnScope ["self", "module", "name", "kind"] ["self", "module", "name", "kind"] (defScope s_Interpreter_read) := ⟨rfl, rfl, rfl, by decide +kernel, rfl, by decide +kernel, by decide +kernel⟩
theorem ok_Interpreter_read {c : CA} (T : CC K c) {f : Addr} {fd : FuncData} (F : FunD K "read" "Interpreter.read" (defArgs s_Interpreter_read) (defBody s_Interpreter_read) (defScope s_Interpreter_read) [] [] f fd) (B : Blt mg) (m_refuse : MetN P w K mg base 3 c.CI "refuse" (sp_Interpreter_refuse K c)) : FnOk P w K mg base (L2N.CX P w) (3 + 1) f fd ["self", "module", "name", "kind"] (sp_Interpreter_read K c) := by
  refine F.ok sc_Interpreter_read (fun vs H Q E h => by obtain ⟨_, _, _, _, _, _, _, rfl, _⟩ := h; rfl) (fun cdv A outer s H vs Q E hr h => ⟨t_Interpreter_read K c (w0 E), ?_, pure_Interpreter_read T vs H Q E h⟩)
  have tk : L2N.Takes (cxOf (L2N.CX P w) P w K mg base ["self", "module", "name", "kind"] "Interpreter.read" (defScope s_Interpreter_read) f cdv A outer s H E) (w0 E) := takesF
  have tc : TryC (cxOf (L2N.CX P w) P w K mg base ["self", "module", "name", "kind"] "Interpreter.read" (defScope s_Interpreter_read) f cdv A outer s H E) := tryF
  exact (pss_cons (ps_if (pt_cmp (pc_dninX hr.units (pe_tupN (pa_cons (pv 1) (pa_cons (pv 2) pa_nil))) (pe_fld (pe_fld (pv 0) rfl) rfl))) (pss_one (ps_expr (pe_mtN m_refuse tk hr (by omega) (pv 0) (pa_cons (pv 3) pa_nil)))) pss_nil)
  (pss_one (ps_ret (pe_dix hr.units (pe_fld (pe_fld (pv 0) rfl) rfl) (pe_tupN (pa_cons (pv 1) (pa_cons (pv 2) pa_nil))) (fun _ _ => rfl)))))
theorem sc_Interpreter_bind : FnScope ["self", "module", "name", "value"] ["self", "module", "name", "value"] (defScope s_Interpreter_bind) := ⟨rfl, rfl, rfl, by decide +kernel, rfl, by decide +kernel, by decide +kernel⟩
theorem ok_Interpreter_bind {c : CA} (T : CC K c) {f : Addr} {fd : FuncData} (F : FunD K "bind" "Interpreter.bind" (defArgs s_Interpreter_bind) (defBody s_Interpreter_bind) (defScope s_Interpreter_bind) [] [] f fd) (B : Blt mg)  : FnOk P w K mg base (L2N.CX P w) (0 + 1) f fd ["self", "module", "name", "value"] (sp_Interpreter_bind K c) := by
  refine F.ok sc_Interpreter_bind (fun vs H Q E h => by obtain ⟨_, _, _, _, _, _, _, _, rfl, _⟩ := h; rfl) (fun cdv A outer s H vs Q E hr h => ⟨t_Interpreter_bind K c (w0 E), ?_, pure_Interpreter_bind T vs H Q E h⟩)
  have tk : L2N.Takes (cxOf (L2N.CX P w) P w K mg base ["self", "module", "name", "value"] "Interpreter.bind" (defScope s_Interpreter_bind) f cdv A outer s H E) (w0 E) := takesF
  have tc : TryC (cxOf (L2N.CX P w) P w K mg base ["self", "module", "name", "value"] "Interpreter.bind" (defScope s_Interpreter_bind) f cdv A outer s H E) := tryF
  exact (pss_one (ps_asg (pv 3) (pg_sub (pe_fld (pe_fld (pv 0) rfl) rfl) (pe_tupN (pa_cons (pv 1) (pa_cons (pv 2) pa_nil))) (set_dictX hr.units))))
theorem sc_Interpreter_choice : FnScope ["self", "value"] ["self", "value"] (defScope s_Interpreter_choice) := ⟨rfl, rfl, rfl, by decide +kernel, rfl, by decide +kernel, by decide +kernel⟩
theorem ok_Interpreter_choice {c : CA} (T : CC K c) {f : Addr} {fd : FuncData} (F : FunD K "choice" "Interpreter.choice" (defArgs s_Interpreter_choice) (defBody s_Interpreter_choice) (defScope s_Interpreter_choice) [] [] f fd) (B : Blt mg) (c_is_integer : C8.Cal P w K mg base 1 "is_integer" (sp_is_integer K) []) (m_refuse : MetN P w K mg base 3 c.CI "refuse" (sp_Interpreter_refuse K c)) : FnOk P w K mg base (L2N.CX P w) (3 + 1) f fd ["self", "value"] (sp_Interpreter_choice K c) := by
  refine F.ok sc_Interpreter_choice (fun vs H Q E h => by obtain ⟨_, _, _, _, _, _, rfl, _⟩ := h; rfl) (fun cdv A outer s H vs Q E hr h => ⟨t_Interpreter_choice K c (w0 E), ?_, pure_Interpreter_choice T vs H Q E h⟩)
  have tk : L2N.Takes (cxOf (L2N.CX P w) P w K mg base ["self", "value"] "Interpreter.choice" (defScope s_Interpreter_choice) f cdv A outer s H E) (w0 E) := takesF
  have tc : TryC (cxOf (L2N.CX P w) P w K mg base ["self", "value"] "Interpreter.choice" (defScope s_Interpreter_choice) f cdv A outer s H E) := tryF
  exact (pss_cons (ps_if (pt_not (pt_val (C8.pe_c c_is_integer hr (by omega) rfl (pa_cons (pv 1) pa_nil)))) (pss_one (ps_expr (pe_mtN m_refuse tk hr (by omega) (pv 0) (pa_cons pe_str pa_nil)))) pss_nil)
  (pss_one (ps_ret (pe_callTy cb_int rfl B.int bt_int (pa_cons (pe_cmpR (op_eqX hr.units) (pv 1) pe_int (nomark _)) pa_nil)))))
theorem sc_Interpreter_block_of : FnScope ["self", "module", "path", "block", "at"] ["self", "module", "path"] (defScope s_Interpreter_block_of) := ⟨rfl, rfl, rfl, by decide +kernel, rfl, by decide +kernel, by decide +kernel⟩
theorem ok_Interpreter_block_of {c : CA} (T : CC K c) {f : Addr} {fd : FuncData} (F : FunD K "block_of" "Interpreter.block_of" (defArgs s_Interpreter_block_of) (defBody s_Interpreter_block_of) (defScope s_Interpreter_block_of) [] [] f fd) (B : Blt mg) (og : OwnG P w K mg base 1 c.CP (sp_Program___contains__ K c.CP) (sp_Program___getitem__ K c.CP)) : FnOk P w K mg base (L2N.CX P w) (2 + 1) f fd ["self", "module", "path"] (sp_Interpreter_block_of K c) := by
  refine F.ok sc_Interpreter_block_of (fun vs H Q E h => by obtain ⟨_, _, _, _, _, _, _, _, _, rfl, _⟩ := h; rfl) (fun cdv A outer s H vs Q E hr h => ⟨t_Interpreter_block_of K c (w0 E), ?_, pure_Interpreter_block_of T vs H Q E h⟩)
  have tk : L2N.Takes (cxOf (L2N.CX P w) P w K mg base ["self", "module", "path", "block", "at"] "Interpreter.block_of" (defScope s_Interpreter_block_of) f cdv A outer s H E) (w0 E) := takesF
  have tc : TryC (cxOf (L2N.CX P w) P w K mg base ["self", "module", "path", "block", "at"] "Interpreter.block_of" (defScope s_Interpreter_block_of) f cdv A outer s H E) := tryF
  exact (pss_cons (sN 3 sc_Interpreter_block_of.nd (og.ix hr (by omega) (pe_fld (pv 0) rfl) (pv 1)))
  (pss_cons (ps_for (passes_of rfl) rfl (pi_range3 rfl B.range (pa_cons pe_int (pa_cons (pe_op op_sub (pe_callB cb_len rfl B.len bt_len (pa_cons (pv 2) pa_nil)) pe_int) (pa_cons pe_int pa_nil)))) (gN 4 sc_Interpreter_block_of.nd) (pss_one (sN 3 sc_Interpreter_block_of.nd (pe_ix ix_seq (pe_ix ix_seq (pv 3) (pe_ix ix_seq (pv 2) (pv 4) (fun _ _ => rfl)) (fun _ _ => rfl)) (pe_op op_addX pe_int (pe_ix ix_seq (pv 2) (pe_op op_addX (pv 4) pe_int) (fun _ _ => rfl))) (fun _ _ => rfl)))))
  (pss_one (ps_ret (pe_ix ix_seq (pe_ix ix_seq (pv 3) (pe_ix ix_seq (pv 2) (pe_un un_neg pe_int) (fun _ _ => rfl)) (fun _ _ => rfl)) pe_int (fun _ _ => rfl))))))
theorem sc_Interpreter_bind_loaded : FnScope ["self", "module", "statement", "names", "name", "key"] ["self", "module", "statement"] (defScope s_Interpreter_bind_loaded) := ⟨rfl, rfl, rfl, by decide +kernel, rfl, by decide +kernel, by decide +kernel⟩
theorem ok_Interpreter_bind_loaded {c : CA} (T : CC K c) {f : Addr} {fd : FuncData} (F : FunD K "bind_loaded" "Interpreter.bind_loaded" (defArgs s_Interpreter_bind_loaded) (defBody s_Interpreter_bind_loaded) (defScope s_Interpreter_bind_loaded) [] [] f fd) (B : Blt mg) (m_bind : MetN P w K mg base 1 c.CI "bind" (sp_Interpreter_bind K c)) (m_read : MetN P w K mg base 4 c.CI "read" (sp_Interpreter_read K c)) : FnOk P w K mg base (L2N.CX P w) (4 + 1) f fd ["self", "module", "statement"] (sp_Interpreter_bind_loaded K c) := by
  refine F.ok sc_Interpreter_bind_loaded (fun vs H Q E h => by obtain ⟨_, _, _, _, _, _, _, rfl, _⟩ := h; rfl) (fun cdv A outer s H vs Q E hr h => ⟨t_Interpreter_bind_loaded K c (w0 E), ?_, pure_Interpreter_bind_loaded T vs H Q E h⟩)
  have tk : L2N.Takes (cxOf (L2N.CX P w) P w K mg base ["self", "module", "statement", "names", "name", "key"] "Interpreter.bind_loaded" (defScope s_Interpreter_bind_loaded) f cdv A outer s H E) (w0 E) := takesF
  have tc : TryC (cxOf (L2N.CX P w) P w K mg base ["self", "module", "statement", "names", "name", "key"] "Interpreter.bind_loaded" (defScope s_Interpreter_bind_loaded) f cdv A outer s H E) := tryF
  exact (pss_one (ps_if (pt_cmpR (op_eqX hr.units) (pe_ix ix_seq (pv 2) pe_int (fun _ _ => rfl)) pe_str (nomark _)) (pss_one (ps_expr (pe_mtN m_bind tk hr (by omega) (pv 0) (pa_cons (pv 1) (pa_cons (pe_ix ix_seq (pv 2) pe_int (fun _ _ => rfl)) (pa_cons (pe_tupX (pa_cons pe_str (pa_cons (pe_ix ix_seq (pv 2) pe_int (fun _ _ => rfl)) pa_nil))) pa_nil)))))) (pss_one (ps_if (pt_cmpR (op_eqX hr.units) (pe_ix ix_seq (pv 2) pe_int (fun _ _ => rfl)) pe_str (nomark _)) (pss_one (ps_expr (pe_mtN m_bind tk hr (by omega) (pv 0) (pa_cons (pv 1) (pa_cons (pe_ix ix_seq (pv 2) pe_int (fun _ _ => rfl)) (pa_cons (pe_mtN m_read tk hr (by omega) (pv 0) (pa_cons (pe_ix ix_seq (pv 2) pe_int (fun _ _ => rfl)) (pa_cons (pe_ix ix_seq (pv 2) pe_int (fun _ _ => rfl)) (pa_cons pe_str pa_nil)))) pa_nil)))))) (pss_cons (ps_lock (ps_setLc (own := [("key", 5)]) (g := (gName 5)) (tt := (tTest (tOp (rEqX K) (tOp (rIx K) (tVar 5) (tC (.int 0))) (tOp (rIx K) (tVar 2) (tC (.int 1)))))) rfl sc_Interpreter_bind_loaded.nd rfl rfl (sw_true rfl rfl rfl (by decide +kernel)) (pi_keys (pe_fld (pe_fld (pv 0) rfl) rfl)) (blkOk_by (N := ["self", "module", "statement", "names", "name", "key"]) (sc := defScope s_Interpreter_bind_loaded) (by decide +kernel)) (fun _ _ _ _ _ => (gN 5 sc_Interpreter_bind_loaded.nd)) (fun _ _ _ _ _ => (pts_one (pt_cmpR (op_eqX hr.units) (pe_ix ix_seq (pv 5) pe_int (fun _ _ => rfl)) (pe_ix ix_seq (pv 2) pe_int (fun _ _ => rfl)) (nomark _)))) (fun _ _ _ _ _ => (pe_ix ix_seq (pv 5) pe_int (fun _ _ => rfl)))))
  (pss_one (ps_for (passes_of rfl) rfl (pi_seq (pv 3)) (gN 4 sc_Interpreter_bind_loaded.nd) (pss_one (ps_expr (pe_mtN m_bind tk hr (by omega) (pv 0) (pa_cons (pv 1) (pa_cons (pv 4) (pa_cons (pe_dix hr.units (pe_fld (pe_fld (pv 0) rfl) rfl) (pe_tupN (pa_cons (pe_ix ix_seq (pv 2) pe_int (fun _ _ => rfl)) (pa_cons (pv 4) pa_nil))) (fun _ _ => rfl)) pa_nil)))))))))))))
theorem sc_Interpreter_value : FnScope ["self", "module", "expr", "left", "right", "holder"] ["self", "module", "expr"] (defScope s_Interpreter_value) := ⟨rfl, rfl, rfl, by decide +kernel, rfl, by decide +kernel, by decide +kernel⟩
theorem ok_Interpreter_value {c : CA} {n : Nat} (T : CC K c) {f : Addr} {fd : FuncData} (F : FunD K "value" "Interpreter.value" (defArgs s_Interpreter_value) (defBody s_Interpreter_value) (defScope s_Interpreter_value) [] [] f fd) (B : Blt mg) (c_is_integer : C8.Cal P w K mg base 1 "is_integer" (sp_is_integer K) []) (m_refuse : MetN P w K mg base 3 c.CI "refuse" (sp_Interpreter_refuse K c)) (m_value : MetN P w K mg base (n + 5) c.CI "value" (sp_Interpreter_value K c n)) (m_read : MetN P w K mg base 4 c.CI "read" (sp_Interpreter_read K c)) : FnOk P w K mg base (L2N.CX P w) ((n + 5) + 1) f fd ["self", "module", "expr"] (sp_Interpreter_value K c (n + 1)) := by
  refine F.ok sc_Interpreter_value (fun vs H Q E h => by obtain ⟨_, _, _, _, _, _, _, rfl, _⟩ := h; rfl) (fun cdv A outer s H vs Q E hr h => ⟨t_Interpreter_value K c (sp_Interpreter_value K c n) (w0 E), ?_, pure_Interpreter_value T vs H Q E h⟩)
  have tk : L2N.Takes (cxOf (L2N.CX P w) P w K mg base ["self", "module", "expr", "left", "right", "holder"] "Interpreter.value" (defScope s_Interpreter_value) f cdv A outer s H E) (w0 E) := takesF
  have tc : TryC (cxOf (L2N.CX P w) P w K mg base ["self", "module", "expr", "left", "right", "holder"] "Interpreter.value" (defScope s_Interpreter_value) f cdv A outer s H E) := tryF
  exact (pss_cons (ps_if (pt_val (C8.pe_c c_is_integer hr (by omega) rfl (pa_cons (pv 2) pa_nil))) (pss_one (ps_ret (pv 2))) pss_nil)
  (pss_cons (ps_if (pt_cmpR (op_eqX hr.units) (pe_ix ix_seq (pv 2) pe_int (fun _ _ => rfl)) pe_str (nomark _)) (pss_one (ps_ret (pe_mtN m_read tk hr (by omega) (pv 0) (pa_cons (pv 1) (pa_cons (pe_ix ix_seq (pv 2) pe_int (fun _ _ => rfl)) (pa_cons pe_str pa_nil)))))) pss_nil)
  (pss_cons (ps_if (pt_cmpR (op_eqX hr.units) (pe_ix ix_seq (pv 2) pe_int (fun _ _ => rfl)) pe_str (nomark _)) (pss_cons (sN 5 sc_Interpreter_value.nd (pe_mtN m_read tk hr (by omega) (pv 0) (pa_cons (pv 1) (pa_cons (pe_ix ix_seq (pv 2) pe_int (fun _ _ => rfl)) (pa_cons pe_str pa_nil)))))
  (pss_cons (ps_if (PW.pt (pw_or (pt_val (C8.pe_c c_is_integer hr (by omega) rfl (pa_cons (pv 5) pa_nil))) (pw_or1 (pt_cmpR (op_neX hr.units) (pe_ix ix_seq (pv 5) pe_int (fun _ _ => rfl)) pe_str (nomark _))))) (pss_one (ps_expr (pe_mtN m_refuse tk hr (by omega) (pv 0) (pa_cons pe_str pa_nil)))) pss_nil)
  (pss_one (ps_ret (pe_mtN m_read tk hr (by omega) (pv 0) (pa_cons (pe_ix ix_seq (pv 5) pe_int (fun _ _ => rfl)) (pa_cons (pe_ix ix_seq (pv 2) pe_int (fun _ _ => rfl)) (pa_cons pe_str pa_nil)))))))) pss_nil)
  (pss_cons (sN 3 sc_Interpreter_value.nd (pe_mtN m_value tk hr (by omega) (pv 0) (pa_cons (pv 1) (pa_cons (pe_ix ix_seq (pv 2) pe_int (fun _ _ => rfl)) pa_nil))))
  (pss_cons (sN 4 sc_Interpreter_value.nd (pe_mtN m_value tk hr (by omega) (pv 0) (pa_cons (pv 1) (pa_cons (pe_ix ix_seq (pv 2) pe_int (fun _ _ => rfl)) pa_nil))))
  (pss_cons (ps_if (PW.pt (pw_or (pt_not (pt_val (C8.pe_c c_is_integer hr (by omega) rfl (pa_cons (pv 3) pa_nil)))) (pw_or1 (pt_not (pt_val (C8.pe_c c_is_integer hr (by omega) rfl (pa_cons (pv 4) pa_nil))))))) (pss_one (ps_expr (pe_mtN m_refuse tk hr (by omega) (pv 0) (pa_cons pe_str pa_nil)))) pss_nil)
  (pss_one (ps_ret (pe_ifExp (pt_cmpR (op_eqX hr.units) (pe_ix ix_seq (pv 2) pe_int (fun _ _ => rfl)) pe_str (nomark _)) (pe_op op_addX (pv 3) (pv 4)) (pe_callTy cb_int rfl B.int bt_int (pa_cons (pe_cmpR op_lt (pv 3) (pv 4) (nomark _)) pa_nil)))))))))))
theorem sc_Interpreter_go : FnScope ["self", "module", "base", "block", "index", "statement"] ["self", "module", "base", "block"] (defScope s_Interpreter_go) := ⟨rfl, rfl, rfl, by decide +kernel, rfl, by decide +kernel, by decide +kernel⟩
theorem ok_Interpreter_go {c : CA} {n : Nat} (T : CC K c) {f : Addr} {fd : FuncData} (F : FunD K "go" "Interpreter.go" (defArgs s_Interpreter_go) (defBody s_Interpreter_go) (defScope s_Interpreter_go) [] [] f fd) (B : Blt mg) (m_step : MetN P w K mg base (n + 19) c.CI "step" (sp_Interpreter_step K c n)) : FnOk P w K mg base (L2N.CX P w) ((n + 19) + 1) f fd ["self", "module", "base", "block"] (sp_Interpreter_go K c n) := by
  refine F.ok sc_Interpreter_go (fun vs H Q E h => by obtain ⟨_, _, _, _, _, _, _, _, _, _, _, _, rfl, _⟩ := h; rfl) (fun cdv A outer s H vs Q E hr h => ⟨t_Interpreter_go K c (sp_Interpreter_step K c n) (w0 E), ?_, pure_Interpreter_go T vs H Q E h⟩)
  have tk : L2N.Takes (cxOf (L2N.CX P w) P w K mg base ["self", "module", "base", "block", "index", "statement"] "Interpreter.go" (defScope s_Interpreter_go) f cdv A outer s H E) (w0 E) := takesF
  have tc : TryC (cxOf (L2N.CX P w) P w K mg base ["self", "module", "base", "block", "index", "statement"] "Interpreter.go" (defScope s_Interpreter_go) f cdv A outer s H E) := tryF
  exact (pss_one (ps_for (passes_of rfl) rfl (pi_enumX rfl B.enumerate (pa_cons (pv 3) pa_nil)) (pg_tup rfl (pgs_cons (gN 4 sc_Interpreter_go.nd) (pgs_cons (gN 5 sc_Interpreter_go.nd) pgs_nil))) (pss_cons (ps_asg (pe_tupN (pa_cons (pv 1) (pa_cons (pe_op op_addX (pv 2) (pe_tupX (pa_cons (pv 4) pa_nil))) pa_nil))) (pg_sub (pe_fld (pv 0) rfl) (pe_un un_neg pe_int) set_list))
  (pss_one (ps_expr (pe_mtN m_step tk hr (by omega) (pv 0) (pa_cons (pv 1) (pa_cons (pe_op op_addX (pv 2) (pe_tupX (pa_cons (pv 4) pa_nil))) (pa_cons (pv 5) pa_nil)))))))))
theorem sc_Interpreter_step : FnScope ["self", "module", "path", "statement", "word", "which"] ["self", "module", "path", "statement"] (defScope s_Interpreter_step) := ⟨rfl, rfl, rfl, by decide +kernel, rfl, by decide +kernel, by decide +kernel⟩
theorem ok_Interpreter_step {c : CA} {n : Nat} {ld : Addr} (T : CC K c) (hL : ∀ H, SqT K H ld [.str "\x69mport", .str "from", .str "star"]) (gL : ∃ u, mg "LOADS" = some u ∧ RelV (.ref ld) u) {f : Addr} {fd : FuncData} (F : FunD K "step" "Interpreter.step" (defArgs s_Interpreter_step) (defBody s_Interpreter_step) (defScope s_Interpreter_step) [] [] f fd) (B : Blt mg) (m_bind_loaded : MetN P w K mg base 5 c.CI "bind_loaded" (sp_Interpreter_bind_loaded K c)) (m_load : MetN P w K mg base (n + 18) c.CI "load" (sp_Interpreter_load K c n)) (m_value : MetN P w K mg base 15 c.CI "value" (sp_Interpreter_value K c 10)) (m_bind : MetN P w K mg base 1 c.CI "bind" (sp_Interpreter_bind K c)) (m_read : MetN P w K mg base 4 c.CI "read" (sp_Interpreter_read K c)) (m_call : MetN P w K mg base (n + 18) c.CI "call" (sp_Interpreter_call K c n)) (m_go : MetN P w K mg base (n + 17) c.CI "go" (sp_goL K c n 3)) (m_choice : MetN P w K mg base 4 c.CI "choice" (sp_Interpreter_choice K c)) (m_attempt : MetN P w K mg base (n + 18) c.CI "attempt" (sp_Interpreter_attempt K c n)) (m_refuse : MetN P w K mg base 3 c.CI "refuse" (sp_Interpreter_refuse K c)) : FnOk P w K mg base (L2N.CX P w) ((n + 18) + 1) f fd ["self", "module", "path", "statement"] (sp_Interpreter_step K c n) := by
  refine F.ok sc_Interpreter_step (fun vs H Q E h => by obtain ⟨_, _, _, _, _, _, _, _, _, _, _, _, _, rfl, _⟩ := h; rfl) (fun cdv A outer s H vs Q E hr h => ⟨t_Interpreter_step K c ld (sp_Interpreter_load K c n) (sp_Interpreter_call K c n) (sp_goL K c n 3) (sp_Interpreter_attempt K c n) (w0 E), ?_, pure_Interpreter_step T hL vs H Q E h⟩)
  have tk : L2N.Takes (cxOf (L2N.CX P w) P w K mg base ["self", "module", "path", "statement", "word", "which"] "Interpreter.step" (defScope s_Interpreter_step) f cdv A outer s H E) (w0 E) := takesF
  have tc : TryC (cxOf (L2N.CX P w) P w K mg base ["self", "module", "path", "statement", "word", "which"] "Interpreter.step" (defScope s_Interpreter_step) f cdv A outer s H E) := tryF
  exact (pss_cons (sN 4 sc_Interpreter_step.nd (pe_ix ix_seq (pv 3) pe_int (fun _ _ => rfl)))
  (pss_one (ps_if (pt_cmpR op_inX (pv 4) (C8.pe_gc rfl gL) rfl) (pss_cons (ps_expr (pe_mtN m_load tk hr (by omega) (pv 0) (pa_cons (pe_ix ix_seq (pv 3) pe_int (fun _ _ => rfl)) pa_nil)))
  (pss_one (ps_expr (pe_mtN m_bind_loaded tk hr (by omega) (pv 0) (pa_cons (pv 1) (pa_cons (pv 3) pa_nil)))))) (pss_one (ps_if (pt_cmpR (op_eqX hr.units) (pv 4) pe_str (nomark _)) (pss_one (ps_expr (pe_mtN m_bind tk hr (by omega) (pv 0) (pa_cons (pv 1) (pa_cons (pe_ix ix_seq (pv 3) pe_int (fun _ _ => rfl)) (pa_cons (pe_mtN m_value tk hr (by omega) (pv 0) (pa_cons (pv 1) (pa_cons (pe_ix ix_seq (pv 3) pe_int (fun _ _ => rfl)) pa_nil))) pa_nil)))))) (pss_one (ps_if (pt_cmpR (op_eqX hr.units) (pv 4) pe_str (nomark _)) (pss_cons (ps_expr (pe_mtN m_read tk hr (by omega) (pv 0) (pa_cons (pv 1) (pa_cons (pe_ix ix_seq (pv 3) pe_int (fun _ _ => rfl)) (pa_cons pe_str pa_nil)))))
  (pss_one (ps_delT hr.units (pe_fld (pe_fld (pv 0) rfl) rfl) (pe_tupN (pa_cons (pv 1) (pa_cons (pe_ix ix_seq (pv 3) pe_int (fun _ _ => rfl)) pa_nil)))))) (pss_one (ps_if (pt_cmpR (op_eqX hr.units) (pv 4) pe_str (nomark _)) (pss_one (ps_expr (pe_bm PySem.F.plainAttrs_list PySem.F.slot_list_append PySem.F.type_list_append mt_append (pe_fld (pe_fld (pv 0) rfl) rfl) (pa_cons (pe_mtN m_value tk hr (by omega) (pv 0) (pa_cons (pv 1) (pa_cons (pe_ix ix_seq (pv 3) pe_int (fun _ _ => rfl)) pa_nil))) pa_nil)))) (pss_one (ps_if (pt_cmpR (op_eqX hr.units) (pv 4) pe_str (nomark _)) (pss_one (ps_expr (pe_mtN m_bind tk hr (by omega) (pv 0) (pa_cons (pv 1) (pa_cons (pe_ix ix_seq (pv 3) pe_int (fun _ _ => rfl)) (pa_cons (pe_tupX (pa_cons pe_str (pa_cons (pv 1) (pa_cons (pv 2) pa_nil)))) pa_nil)))))) (pss_one (ps_if (pt_cmpR (op_eqX hr.units) (pv 4) pe_str (nomark _)) (pss_one (ps_expr (pe_mtN m_call tk hr (by omega) (pv 0) (pa_cons (pe_mtN m_value tk hr (by omega) (pv 0) (pa_cons (pv 1) (pa_cons (pe_ix ix_seq (pv 3) pe_int (fun _ _ => rfl)) pa_nil))) pa_nil)))) (pss_one (ps_if (pt_cmpR (op_eqX hr.units) (pv 4) pe_str (nomark _)) (pss_cons (sN 5 sc_Interpreter_step.nd (pe_mtN m_choice tk hr (by omega) (pv 0) (pa_cons (pe_mtN m_value tk hr (by omega) (pv 0) (pa_cons (pv 1) (pa_cons (pe_ix ix_seq (pv 3) pe_int (fun _ _ => rfl)) pa_nil))) pa_nil)))
  (pss_one (ps_expr (pe_mtN m_go tk hr (by omega) (pv 0) (pa_cons (pv 1) (pa_cons (pe_op op_addX (pv 2) (pe_tupX (pa_cons (pv 5) pa_nil))) (pa_cons (pe_ix ix_seq (pv 3) (pe_op op_addX pe_int (pv 5)) (fun _ _ => rfl)) pa_nil))))))) (pss_one (ps_if (pt_cmpR (op_eqX hr.units) (pv 4) pe_str (nomark _)) (pss_one (ps_expr (pe_mtN m_attempt tk hr (by omega) (pv 0) (pa_cons (pv 1) (pa_cons (pv 2) (pa_cons (pv 3) pa_nil)))))) (pss_one (ps_expr (pe_mtN m_refuse tk hr (by omega) (pv 0) (pa_cons pe_str pa_nil)))))))))))))))))))))
theorem sc_Interpreter_attempt : FnScope ["self", "module", "path", "statement", "depth", "failure"] ["self", "module", "path", "statement"] (defScope s_Interpreter_attempt) := ⟨rfl, rfl, rfl, by decide +kernel, rfl, by decide +kernel, by decide +kernel⟩
theorem ok_Interpreter_attempt {c : CA} {n : Nat} (T : CC K c) {f : Addr} {fd : FuncData} (F : FunD K "attempt" "Interpreter.attempt" (defArgs s_Interpreter_attempt) (defBody s_Interpreter_attempt) (defScope s_Interpreter_attempt) [] [] f fd) (B : Blt mg) (m_go : MetN P w K mg base (n + 17) c.CI "go" (sp_goL K c n 3)) (g_Failure : mg "Failure" = some (.ref c.CF)) (xf_Failure : XfC K c.CF) (no_Failure_kind : PySem.W.findIn K (.ref c.CF) "kind" = some none) : FnOk P w K mg base (L2N.CX P w) ((n + 17) + 1) f fd ["self", "module", "path", "statement"] (sp_Interpreter_attempt K c n) := by
  refine F.ok sc_Interpreter_attempt (fun vs H Q E h => by obtain ⟨_, _, _, _, _, _, _, _, _, _, _, _, _, _, _, _, rfl, _⟩ := h; rfl) (fun cdv A outer s H vs Q E hr h => ⟨t_Interpreter_attempt K c (sp_goL K c n 3) (w0 E), ?_, pure_Interpreter_attempt T vs H Q E h⟩)
  have tk : L2N.Takes (cxOf (L2N.CX P w) P w K mg base ["self", "module", "path", "statement", "depth", "failure"] "Interpreter.attempt" (defScope s_Interpreter_attempt) f cdv A outer s H E) (w0 E) := takesF
  have tc : TryC (cxOf (L2N.CX P w) P w K mg base ["self", "module", "path", "statement", "depth", "failure"] "Interpreter.attempt" (defScope s_Interpreter_attempt) f cdv A outer s H E) := tryF
  exact (pss_cons (sN 4 sc_Interpreter_attempt.nd (pe_callB cb_len rfl B.len bt_len (pa_cons (pe_fld (pv 0) rfl) pa_nil)))
  (pss_cons (ps_tryR (tb := fun W : WX => (tSeq (tDrop (L2H.tMethH c.CI "go" (sp_goL K c n 3) (WE W) (tVar 0) (tCons (tVar 1) (tCons (tOp (rAdd K) (tVar 2) (tTupX K (tCons (tC (.int 0)) tNil))) (tCons (tOp (rIx K) (tVar 3) (tC (.int 2))) tNil)))))
  tRetN)) tc (fun W pn xe tk po => (pss_cons (ps_expr (pe_mtN m_go tk hr (by omega) (pv 0) (pa_cons (pv 1) (pa_cons (pe_op op_addX (pv 2) (pe_tupX (pa_cons pe_int pa_nil))) (pa_cons (pe_ix ix_seq (pv 3) pe_int (fun _ _ => rfl)) pa_nil)))))
  (pss_one ps_retN))) (ph_as tc sc_Interpreter_attempt.nd rfl rfl ⟨rfl, rfl, .inl g_Failure⟩ (fun a T oe oT cls d pins F => (pss_one (ps_if (pt_cmpR op_notInX (pe_ix ix_seq (pv 3) pe_int (fun _ _ => rfl)) (pe_tupX (pa_cons pe_str (pa_cons (pe_xfY xf_Failure no_Failure_kind F (pv 5)) pa_nil))) rfl) (pss_one (ps_reAs tc sc_Interpreter_attempt.nd rfl rfl F tk)) pss_nil))) (ph_nil tc tk)))
  (pss_cons (ps_delF (pe_fld (pv 0) rfl) (pv 4))
  (pss_one (ps_expr (pe_mtN m_go tk hr (by omega) (pv 0) (pa_cons (pv 1) (pa_cons (pe_op op_addX (pv 2) (pe_tupX (pa_cons pe_int pa_nil))) (pa_cons (pe_ix ix_seq (pv 3) pe_int (fun _ _ => rfl)) pa_nil)))))))))
theorem sc_Interpreter_call : FnScope ["self", "value", "word", "module", "path"] ["self", "value"] (defScope s_Interpreter_call) := ⟨rfl, rfl, rfl, by decide +kernel, rfl, by decide +kernel, by decide +kernel⟩
theorem ok_Interpreter_call {c : CA} {n : Nat} (T : CC K c) {f : Addr} {fd : FuncData} (F : FunD K "call" "Interpreter.call" (defArgs s_Interpreter_call) (defBody s_Interpreter_call) (defScope s_Interpreter_call) [] [] f fd) (B : Blt mg) (m_block_of : MetN P w K mg base 3 c.CI "block_of" (sp_Interpreter_block_of K c)) (m_go : MetN P w K mg base (n + 17) c.CI "go" (sp_goL K c n 3)) (m_take_block : MetN P w K mg base 3 c.CI "take_block" (sp_Interpreter_take_block K c)) (c_is_integer : C8.Cal P w K mg base 1 "is_integer" (sp_is_integer K) []) (m_refuse : MetN P w K mg base 3 c.CI "refuse" (sp_Interpreter_refuse K c)) : FnOk P w K mg base (L2N.CX P w) ((n + 17) + 1) f fd ["self", "value"] (sp_Interpreter_call K c n) := by
  refine F.ok sc_Interpreter_call (fun vs H Q E h => by obtain ⟨_, _, _, _, _, _, _, _, rfl, _⟩ := h; rfl) (fun cdv A outer s H vs Q E hr h => ⟨t_Interpreter_call K c (sp_goL K c n 3) (w0 E), ?_, pure_Interpreter_call T vs H Q E h⟩)
  have tk : L2N.Takes (cxOf (L2N.CX P w) P w K mg base ["self", "value", "word", "module", "path"] "Interpreter.call" (defScope s_Interpreter_call) f cdv A outer s H E) (w0 E) := takesF
  have tc : TryC (cxOf (L2N.CX P w) P w K mg base ["self", "value", "word", "module", "path"] "Interpreter.call" (defScope s_Interpreter_call) f cdv A outer s H E) := tryF
  exact (pss_cons (ps_if (PW.pt (pw_or (pt_val (C8.pe_c c_is_integer hr (by omega) rfl (pa_cons (pv 1) pa_nil))) (pw_or1 (pt_cmpR (op_neX hr.units) (pe_ix ix_seq (pv 1) pe_int (fun _ _ => rfl)) pe_str (nomark _))))) (pss_one (ps_expr (pe_mtN m_refuse tk hr (by omega) (pv 0) (pa_cons pe_str pa_nil)))) pss_nil)
  (pss_cons (ps_expr (pe_mtN0 m_take_block tk hr (by omega) (pv 0)))
  (pss_cons (ps_asg (pv 1) (pg_tup rfl (pgs_cons (gN 2 sc_Interpreter_call.nd) (pgs_cons (gN 3 sc_Interpreter_call.nd) (pgs_cons (gN 4 sc_Interpreter_call.nd) pgs_nil)))))
  (pss_cons (ps_expr (pe_bm PySem.F.plainAttrs_list PySem.F.slot_list_append PySem.F.type_list_append mt_append (pe_fld (pv 0) rfl) (pa_cons (pe_tupN (pa_cons (pv 3) (pa_cons (pv 4) pa_nil))) pa_nil)))
  (pss_cons (ps_expr (pe_mtN m_go tk hr (by omega) (pv 0) (pa_cons (pv 3) (pa_cons (pe_op op_addX (pv 4) (pe_tupX (pa_cons pe_int pa_nil))) (pa_cons (pe_mtN m_block_of tk hr (by omega) (pv 0) (pa_cons (pv 3) (pa_cons (pv 4) pa_nil))) pa_nil)))))
  (pss_one (ps_expr (pe_bm0 PySem.F.plainAttrs_list PySem.F.slot_list_pop PySem.F.type_list_pop mt_pop (pe_fld (pv 0) rfl)))))))))
theorem sc_Interpreter_load : FnScope ["self", "module"] ["self", "module"] (defScope s_Interpreter_load) := ⟨rfl, rfl, rfl, by decide +kernel, rfl, by decide +kernel, by decide +kernel⟩
theorem ok_Interpreter_load {c : CA} {n : Nat} (T : CC K c) {f : Addr} {fd : FuncData} (F : FunD K "load" "Interpreter.load" (defArgs s_Interpreter_load) (defBody s_Interpreter_load) (defScope s_Interpreter_load) [] [] f fd) (B : Blt mg) (m_leave : C8.Met P w K mg base 1 c.CW "leave" (sp_World_leave K c.CW) []) (og : OwnG P w K mg base 1 c.CP (sp_Program___contains__ K c.CP) (sp_Program___getitem__ K c.CP)) (m_go : MetN P w K mg base (n + 17) c.CI "go" (sp_goL K c n 3)) (g_Failure : mg "Failure" = some (.ref c.CF)) (m_failH : MetH P w K mg base 1 c.CW "fail" (sp_World_fail K c.CW)) (m_enter : C8.Met P w K mg base 1 c.CW "enter" (sp_World_enter K c.CW) []) (m_take_block : MetN P w K mg base 3 c.CI "take_block" (sp_Interpreter_take_block K c)) (m_meet : C8.Met P w K mg base 2 c.CW "meet" (sp_World_meet K c.CW) []) (m_refuse : MetN P w K mg base 3 c.CI "refuse" (sp_Interpreter_refuse K c)) : FnOk P w K mg base (L2N.CX P w) ((n + 17) + 1) f fd ["self", "module"] (sp_Interpreter_load K c n) := by
  refine F.ok sc_Interpreter_load (fun vs H Q E h => by obtain ⟨_, _, _, _, _, _, _, rfl, _⟩ := h; rfl) (fun cdv A outer s H vs Q E hr h => ⟨t_Interpreter_load K c (sp_goL K c n 3) (w0 E), ?_, pure_Interpreter_load T vs H Q E h⟩)
  have tk : L2N.Takes (cxOf (L2N.CX P w) P w K mg base ["self", "module"] "Interpreter.load" (defScope s_Interpreter_load) f cdv A outer s H E) (w0 E) := takesF
  have tc : TryC (cxOf (L2N.CX P w) P w K mg base ["self", "module"] "Interpreter.load" (defScope s_Interpreter_load) f cdv A outer s H E) := tryF
  exact (pss_cons (ps_if (pt_cmpR (og.nin hr (by omega)) (pv 1) (pe_fld (pv 0) rfl) rfl) (pss_one (ps_expr (pe_mtN m_refuse tk hr (by omega) (pv 0) (pa_cons pe_str pa_nil)))) pss_nil)
  (pss_cons (ps_if (pt_val (C8.pe_mt m_meet hr (by omega) (pe_fld (pv 0) rfl) (pa_cons (pv 1) pa_nil))) (pss_one ps_retN) pss_nil)
  (pss_cons (ps_expr (pe_mtN0 m_take_block tk hr (by omega) (pv 0)))
  (pss_cons (ps_expr (C8.pe_mt m_enter hr (by omega) (pe_fld (pv 0) rfl) (pa_cons (pv 1) pa_nil)))
  (pss_cons (ps_expr (pe_bm PySem.F.plainAttrs_list PySem.F.slot_list_append PySem.F.type_list_append mt_append (pe_fld (pv 0) rfl) (pa_cons (pe_tupN (pa_cons (pv 1) (pa_cons (pe_tupX pa_nil) pa_nil))) pa_nil)))
  (pss_cons (ps_tryR (tb := fun W : WX => (tDrop (L2H.tMethH c.CI "go" (sp_goL K c n 3) (WE W) (tVar 0) (tCons (tVar 1) (tCons (tTupX K tNil) (tCons (tOp (rIxO c.CP (sp_Program___getitem__ K c.CP) E0) (tFld K (tVar 0) "own_program") (tVar 1)) tNil)))))) tc (fun W pn xe tk po => (pss_one (ps_expr (pe_mtN m_go tk hr (by omega) (pv 0) (pa_cons (pv 1) (pa_cons (pe_tupX pa_nil) (pa_cons (og.ix hr (by omega) (pe_fld (pv 0) rfl) (pv 1)) pa_nil))))))) (ph_only tc ⟨rfl, rfl, .inl g_Failure⟩ (fun a T oe oT cls d pins F => (pss_cons (ps_expr (pe_mtH (j := (n + 17)) m_failH (hotY F) (roomY hr) (by omega) (pe_fld (pv 0) rfl) (pa_cons (pv 1) pa_nil)))
  (pss_one (ps_reOnly F tk)))) (ph_nil tc tk)))
  (pss_cons (ps_expr (pe_bm0 PySem.F.plainAttrs_list PySem.F.slot_list_pop PySem.F.type_list_pop mt_pop (pe_fld (pv 0) rfl)))
  (pss_one (ps_expr (C8.pe_mt m_leave hr (by omega) (pe_fld (pv 0) rfl) (pa_cons (pv 1) pa_nil)))))))))))
theorem sc_Interpreter___init__ : FnScope ["self", "program", "limit"] ["self", "program", "limit"] (defScope s_Interpreter___init__) := ⟨rfl, rfl, rfl, by decide +kernel, rfl, by decide +kernel, by decide +kernel⟩
theorem ok_Interpreter___init__ {c : CA} (T : CC K c) {f : Addr} {fd : FuncData} (F : FunD K "__init__" "Interpreter.__init__" (defArgs s_Interpreter___init__) (defBody s_Interpreter___init__) (defScope s_Interpreter___init__) [] [] f fd) (B : Blt mg) (k_World : C8.Mak P w K mg base 1 "World" c.CW (sp_World___init__ K c.CW) []) : FnOk P w K mg base CX0 (2 + 1) f fd ["self", "program", "limit"] (sp_Interpreter___init__ K c) := by
  refine F.ok sc_Interpreter___init__ (fun vs H Q E h => by obtain ⟨_, _, _, _, _, _, rfl, _⟩ := h; rfl) (fun cdv A outer s H vs Q E hr h => ⟨t_Interpreter___init__ K c.CW, PSs.nox (?_), pure_Interpreter___init__ T vs H Q E h⟩)
  exact (pss_cons (ps_fld (pv 0) (pv 1) rfl)
  (pss_cons (ps_fld (pv 0) (C8.pe_mk k_World hr (by omega) rfl (pa_cons (pv 2) pa_nil)) rfl)
  (pss_one (ps_fld (pv 0) (pe_lstX pa_nil) rfl))))
theorem sc_check_limit : FnScope ["limit"] ["limit"] (defScope s_check_limit) := ⟨rfl, rfl, rfl, by decide +kernel, rfl, by decide +kernel, by decide +kernel⟩
theorem ok_check_limit  {f : Addr} {fd : FuncData} (F : FunD K "check_limit" "check_limit" (defArgs s_check_limit) (defBody s_check_limit) (defScope s_check_limit) [] [] f fd) (B : Blt mg) (c_is_integer : C8.Cal P w K mg base 1 "is_integer" (sp_is_integer K) []) (gk_MAX_LIMIT : GI mg "MAX_LIMIT" 30) : FnOk P w K mg base CX0 (1 + 1) f fd ["limit"] (sp_check_limit K) := by
  refine F.ok sc_check_limit (fun vs H Q E h => by obtain ⟨_, rfl, _⟩ := h; rfl) (fun cdv A outer s H vs Q E hr h => ⟨t_check_limit K , PSs.nox (?_), pure_check_limit vs H Q E h⟩)
  exact (pss_one (ps_if (PW.pt (pw_or (pt_not (pt_val (C8.pe_c c_is_integer hr (by omega) rfl (pa_cons (pv 0) pa_nil)))) (pw_or1 (pt_not (pt_chain op_le op_le pe_int (pv 0) (C8.pe_gc rfl gk_MAX_LIMIT)))))) (pss_one ps_never) pss_nil))
theorem sc_run : FnScope ["program", "start", "limit", "interpreter", "failure", "stop"] ["program", "start", "limit"] (defScope s_run) := ⟨rfl, rfl, rfl, by decide +kernel, rfl, by decide +kernel, by decide +kernel⟩
theorem ok_run {c : CA} {CO : Addr} (T : CC K c) {f : Addr} {fd : FuncData} (F : FunD K "run" "run" (defArgs s_run) (defBody s_run) (defScope s_run) [] [("limit", .int 12)] f fd) (B : Blt mg) (m_outcome : C8.Met P w K mg base 3 c.CW "outcome" (sp_World_outcome K c.CW CO) []) (m_load : MetN P w K mg base 213 c.CI "load" (sp_Interpreter_load K c 195)) (g_Stop : mg "Stop" = some (.ref c.CS)) (xf_Stop : XfC K c.CS) (no_Stop_places : PySem.W.findIn K (.ref c.CS) "places" = some none) (m_outcomeH : MetH P w K mg base 3 c.CW "outcome" (sp_World_outcome K c.CW CO)) (g_Failure : mg "Failure" = some (.ref c.CF)) (xf_Failure : XfC K c.CF) (no_Failure_places : PySem.W.findIn K (.ref c.CF) "places" = some none) (no_Failure_kind : PySem.W.findIn K (.ref c.CF) "kind" = some none) (k_Interpreter : C8.Mak P w K mg base 3 "Interpreter" c.CI (sp_Interpreter___init__ K c) []) (c_check_limit : C8.Cal P w K mg base 2 "check_limit" (sp_check_limit K) []) (og : OwnG P w K mg base 1 c.CP (sp_Program___contains__ K c.CP) (sp_Program___getitem__ K c.CP)) (gk_DONE : GS mg "DONE" "done") (gk_STOPPED : GS mg "STOPPED" "stopped") : FnOk P w K mg base CX0 (214 + 1) f fd ["program", "start", "limit"] (sp_run K c CO) := by
  refine F.ok sc_run (fun vs H Q E h => by obtain ⟨_, _, _, _, _, _, _, _, _, rfl, _⟩ := h; rfl) (fun cdv A outer s H vs Q E hr h => ⟨t_run K c CO (fun _ _ _ _ => False), ?_, pure_run T vs H Q E h⟩)
  have tk : L2N.Takes (cxOf CX0 P w K mg base ["program", "start", "limit", "interpreter", "failure", "stop"] "run" (defScope s_run) f cdv A outer s H E) (fun _ _ _ _ => False) := takes0
  have tc : TryC (cxOf CX0 P w K mg base ["program", "start", "limit", "interpreter", "failure", "stop"] "run" (defScope s_run) f cdv A outer s H E) := tryF
  exact (pss_cons (ps_if (pt_cmpR (og.nin hr (by omega)) (pv 1) (pv 0) rfl) (pss_one ps_never) pss_nil)
  (pss_cons (ps_expr (C8.pe_c c_check_limit hr (by omega) rfl (pa_cons (pv 2) pa_nil)))
  (pss_cons (sN 3 sc_run.nd (C8.pe_mk k_Interpreter hr (by omega) rfl (pa_cons (pv 0) (pa_cons (pv 2) pa_nil))))
  (pss_cons (ps_tryR (tb := fun W : WX => (tDrop (L2H.tMethH c.CI "load" (sp_Interpreter_load K c 195) (WE W) (tVar 3) (tCons (tVar 1) tNil)))) tc (fun W pn xe tk po => (pss_one (ps_expr (pe_mtN m_load tk hr (by omega) (pv 3) (pa_cons (pv 1) pa_nil))))) (ph_as tc sc_run.nd rfl rfl ⟨rfl, rfl, .inl g_Failure⟩ (fun a T oe oT cls d pins F => (pss_one (ps_ret (pe_mtH (j := 214) m_outcomeH (hotY F) (roomY hr) (by omega) (pe_fld (pv 3) rfl) (pa_cons (pe_xfY xf_Failure no_Failure_kind F (pv 4)) (pa_cons (pe_xfY xf_Failure no_Failure_places F (pv 4)) pa_nil)))))) (ph_as tc sc_run.nd rfl rfl ⟨rfl, rfl, .inl g_Stop⟩ (fun a T oe oT cls d pins F => (pss_one (ps_ret (pe_mtH (j := 214) m_outcomeH (hotY F) (roomY hr) (by omega) (pe_fld (pv 3) rfl) (pa_cons (C8.pe_gc rfl gk_STOPPED) (pa_cons (pe_xfY xf_Stop no_Stop_places F (pv 5)) pa_nil)))))) (ph_nil tc tk))))
  (pss_one (ps_ret (C8.pe_mt m_outcome hr (by omega) (pe_fld (pv 3) rfl) (pa_cons (C8.pe_gc rfl gk_DONE) (pa_cons (pe_tupX pa_nil) pa_nil)))))))))
end
end M


namespace M
open PySem PySem.Spec PyProof.Rows L2 L2H SlX
theorem un80 {k : Nat} {A : Around} (hr : Room k A) : A.units + 80 < cLine := by have := hr.un; omega
section
variable {P : Program} {w : World} {K : PySem.W.Frag} {mg : Str → Option Value} {base : Heap}
theorem sc_Outcome_ending : FnScope ["self"] ["self"] (defScope s_Outcome_ending) := ⟨rfl, rfl, rfl, by decide +kernel, rfl, by decide +kernel, by decide +kernel⟩
theorem ok_Outcome_ending {CO p1 p2 p3 p4 p5 : Addr} (T : OutC K CO p1 p2 p3 p4 p5) {f : Addr} {fd : FuncData} (F : FunD K "ending" "Outcome.ending" (defArgs s_Outcome_ending) (defBody s_Outcome_ending) (defScope s_Outcome_ending) [] [] f fd) (B : Blt mg)  : FnOk P w K mg base CX0 (0 + 1) f fd ["self"] (sp_Outcome_ending K CO) := by
  refine F.ok sc_Outcome_ending (fun vs H Q E h => by obtain ⟨_, _, _, _, _, _, rfl, _⟩ := h; rfl) (fun cdv A outer s H vs Q E hr h => ⟨t_Outcome_ending K , PSs.nox (?_), pure_Outcome_ending T vs H Q E h⟩)
  exact (pss_one (ps_ret (SlX.pe_sl (pv 0))))
theorem sc_Outcome_events : FnScope ["self"] ["self"] (defScope s_Outcome_events) := ⟨rfl, rfl, rfl, by decide +kernel, rfl, by decide +kernel, by decide +kernel⟩
theorem ok_Outcome_events {CO p1 p2 p3 p4 p5 : Addr} (T : OutC K CO p1 p2 p3 p4 p5) {f : Addr} {fd : FuncData} (F : FunD K "events" "Outcome.events" (defArgs s_Outcome_events) (defBody s_Outcome_events) (defScope s_Outcome_events) [] [] f fd) (B : Blt mg)  : FnOk P w K mg base CX0 (0 + 1) f fd ["self"] (sp_Outcome_events K CO) := by
  refine F.ok sc_Outcome_events (fun vs H Q E h => by obtain ⟨_, _, _, _, _, _, rfl, _⟩ := h; rfl) (fun cdv A outer s H vs Q E hr h => ⟨t_Outcome_events K , PSs.nox (?_), pure_Outcome_events T vs H Q E h⟩)
  exact (pss_one (ps_ret (SlX.pe_sl (pv 0))))
theorem sc_Outcome_status : FnScope ["self", "module"] ["self", "module"] (defScope s_Outcome_status) := ⟨rfl, rfl, rfl, by decide +kernel, rfl, by decide +kernel, by decide +kernel⟩
theorem ok_Outcome_status {CO p1 p2 p3 p4 p5 : Addr} (T : OutC K CO p1 p2 p3 p4 p5) {f : Addr} {fd : FuncData} (F : FunD K "status" "Outcome.status" (defArgs s_Outcome_status) (defBody s_Outcome_status) (defScope s_Outcome_status) [] [] f fd) (B : Blt mg) (gk_ABSENT : GS mg "ABSENT" "absent") : FnOk P w K mg base CX0 (0 + 1) f fd ["self", "module"] (sp_Outcome_status K CO) := by
  refine F.ok sc_Outcome_status (fun vs H Q E h => by obtain ⟨_, _, _, _, _, _, _, rfl, _⟩ := h; rfl) (fun cdv A outer s H vs Q E hr h => ⟨t_Outcome_status K , PSs.nox (?_), pure_Outcome_status T vs H Q E h⟩)
  exact (pss_one (ps_ret (pe_ifExp (pt_cmp (pc_dinX hr.units (pv 1) (SlX.pe_sl (pv 0)))) (pe_ix ix_seq (pe_dix hr.units (SlX.pe_sl (pv 0)) (pv 1) (fun _ _ => rfl)) pe_int (fun _ _ => rfl)) (C8.pe_gc rfl gk_ABSENT))))
theorem sc_law_walked : FnScope ["_law_events", "_law_event", "_law_status", "_law_running", "_law_begins", "_law_now", "_law_word", "_law_module"] ["_law_events"] (defScope s_law_walked) := ⟨rfl, rfl, rfl, by decide +kernel, rfl, by decide +kernel, by decide +kernel⟩
theorem ok_law_walked  {f : Addr} {fd : FuncData} (F : FunD K "_law_walked" "_law_walked" (defArgs s_law_walked) (defBody s_law_walked) (defScope s_law_walked) [] [] f fd) (B : Blt mg)  : FnOk P w K mg base CX0 (0 + 1) f fd ["_law_events"] (sp_law_walked K) := by
  refine F.ok sc_law_walked (fun vs H Q E h => by obtain ⟨_, _, _, rfl, _⟩ := h; rfl) (fun cdv A outer s H vs Q E hr h => ⟨t_law_walked K , PSs.nox (?_), pure_law_walked vs H Q E h⟩)
  exact (pss_cons (ps_par3 rfl sc_law_walked.nd rfl rfl rfl (by decide) (by decide) (by decide) rfl rfl rfl (pa_cons pe_dnew (pa_cons (pe_lstX pa_nil) (pa_cons pe_int pa_nil))) (by rfl))
  (pss_cons (ps_for PassesOwn.never rfl (pi_seq (pv 0)) (gN 1 sc_law_walked.nd) (pss_cons (ps_if (PW.pt (pw_or (pt_not (pt_val (pe_callB call_isi rfl B.isinstance bt_isinstance (pa_cons (pv 1) (pa_cons (pe_bltn rfl B.tuple bt_tuple rfl) pa_nil))))) (pw_or1 (pt_cmpR (op_neX hr.units) (pe_callB cb_len rfl B.len bt_len (pa_cons (pv 1) pa_nil)) pe_int (nomark _))))) (pss_one (ps_ret pe_non)) pss_nil)
  (pss_cons (ps_asg (pv 1) (pg_tup rfl (pgs_cons (gN 6 sc_law_walked.nd) (pgs_cons (gN 7 sc_law_walked.nd) pgs_nil))))
  (pss_cons (sN 5 sc_law_walked.nd (pe_bm PySem.F.plainAttrs_dict PySem.F.slot_dict_get PySem.F.type_dict_get (mt_get2 hr.units) (pv 2) (pa_cons (pv 7) (pa_cons pe_str pa_nil))))
  (pss_one (ps_if (PW.pt (pw_and (pt_cmpR (op_eqX hr.units) (pv 6) pe_str (nomark _)) (pw_and1 (pt_cmpR (op_eqX hr.units) (pv 5) pe_str (nomark _))))) (pss_cons (ps_asg pe_str (pg_sub (pv 2) (pv 7) (set_dictX hr.units)))
  (pss_cons (ps_expr (pe_bm PySem.F.plainAttrs_list PySem.F.slot_list_append PySem.F.type_list_append mt_append (pv 3) (pa_cons (pv 7) pa_nil)))
  (pss_one (sN 4 sc_law_walked.nd (pe_op op_addX (pv 4) pe_int))))) (pss_one (ps_if (PW.pt (pw_and (pt_cmpR op_inX (pv 6) (pe_tupX (pa_cons pe_str (pa_cons pe_str pa_nil))) rfl) (pw_and (pt_cmpR (op_neX hr.units) (pv 3) (pe_lstX pa_nil) (nomark _)) (pw_and1 (pt_cmpR (op_eqX hr.units) (pe_ix ix_seq (pv 3) (pe_un un_neg pe_int) (fun _ _ => rfl)) (pv 7) (nomark _)))))) (pss_cons (ps_asg (pe_ifExp (pt_cmpR (op_eqX hr.units) (pv 6) pe_str (nomark _)) pe_str pe_str) (pg_sub (pv 2) (pv 7) (set_dictX hr.units)))
  (pss_one (ps_expr (pe_bm0 PySem.F.plainAttrs_list PySem.F.slot_list_pop PySem.F.type_list_pop mt_pop (pv 3))))) (pss_one (ps_if (PW.pt (pw_or (pt_cmpR op_notInX (pv 6) (pe_tupX (pa_cons pe_str (pa_cons pe_str pa_nil))) rfl) (pw_or1 (pt_cmpR (op_neX hr.units) (pv 5) (pe_ifExp (pt_cmpR (op_eqX hr.units) (pv 6) pe_str (nomark _)) pe_str pe_str) (nomark _))))) (pss_one (ps_ret pe_non)) pss_nil))))))))))
  (pss_one (ps_ret (pe_tupX (pa_cons (pv 2) (pa_cons (pv 3) (pa_cons (pv 4) pa_nil))))))))
theorem sc_law_alike : FnScope ["_law_found", "_law_due", "_law_k"] ["_law_found", "_law_due"] (defScope s_law_alike) := ⟨rfl, rfl, rfl, by decide +kernel, rfl, by decide +kernel, by decide +kernel⟩
theorem ok_law_alike  {f : Addr} {fd : FuncData} (F : FunD K "_law_alike" "_law_alike" (defArgs s_law_alike) (defBody s_law_alike) (defScope s_law_alike) [] [] f fd) (B : Blt mg) (c_law_alike : C8.Cal P w K mg base 1 "_law_alike" sp_no []) : FnOk P w K mg base CX0 (1 + 1) f fd ["_law_found", "_law_due"] (sp_law_alike K) := by
  refine F.ok sc_law_alike (fun vs H Q E h => by obtain ⟨_, rfl, _⟩ := h; rfl) (fun cdv A outer s H vs Q E hr h => ⟨t_law_alike K sp_no, PSs.nox (?_), pure_law_alike vs H Q E h⟩)
  exact (pss_cons (ps_if (pt_val (pe_callB call_isi rfl B.isinstance bt_isinstance (pa_cons (pv 1) (pa_cons (pe_bltn rfl B.dict bt_dict rfl) pa_nil)))) (pss_one (ps_ret (pe_and (pe_callB call_isi rfl B.isinstance bt_isinstance (pa_cons (pv 0) (pa_cons (pe_bltn rfl B.dict bt_dict rfl) pa_nil))) (pe_and (C8.pe_c c_law_alike hr (by omega) rfl (pa_cons (pe_callTy (cb_listD rfl) rfl B.list bt_list (pa_cons (pv 0) pa_nil)) (pa_cons (pe_callTy (cb_listD rfl) rfl B.list bt_list (pa_cons (pv 1) pa_nil)) pa_nil))) (pe_one (pe_cmpR (op_eqA (un80 hr)) (pv 0) (pv 1) (nomark _))))))) pss_nil)
  (pss_cons (ps_if (pt_val (pe_callB call_isiT rfl B.isinstance bt_isinstance (pa_cons (pv 1) (pa_cons (pe_tupN (pa_cons (pe_bltn rfl B.tuple bt_tuple rfl) (pa_cons (pe_bltn rfl B.list bt_list rfl) pa_nil))) pa_nil)))) (pss_cons (ps_if (PW.pt (pw_or (pt_not (pt_val (pe_callB call_isiT rfl B.isinstance bt_isinstance (pa_cons (pv 0) (pa_cons (pe_tupN (pa_cons (pe_bltn rfl B.tuple bt_tuple rfl) (pa_cons (pe_bltn rfl B.list bt_list rfl) pa_nil))) pa_nil))))) (pw_or1 (pt_cmpR (op_neX hr.units) (pe_callB call_isi rfl B.isinstance bt_isinstance (pa_cons (pv 0) (pa_cons (pe_bltn rfl B.list bt_list rfl) pa_nil))) (pe_callB call_isi rfl B.isinstance bt_isinstance (pa_cons (pv 1) (pa_cons (pe_bltn rfl B.list bt_list rfl) pa_nil))) (nomark _))))) (pss_one (ps_ret pe_bl)) pss_nil)
  (pss_cons (ps_if (pt_cmpR (op_neX hr.units) (pe_callB cb_len rfl B.len bt_len (pa_cons (pv 0) pa_nil)) (pe_callB cb_len rfl B.len bt_len (pa_cons (pv 1) pa_nil)) (nomark _)) (pss_one (ps_ret pe_bl)) pss_nil)
  (pss_one (ps_ret (pe_cmpR (op_eqX hr.units) (pe_lc (own := [("_law_k", 2)]) (g := (gName 2)) (tt := (tNot (tB (tCall sp_no [] E0 (tCons (tOp (rIx K) (tVar 0) (tVar 2)) (tCons (tOp (rIx K) (tVar 1) (tVar 2)) tNil)))))) rfl sc_law_alike.nd (pi_range1 rfl B.range (pa_cons (pe_callB cb_len rfl B.len bt_len (pa_cons (pv 1) pa_nil)) pa_nil)) (blkOk_by (N := ["_law_found", "_law_due", "_law_k"]) (sc := defScope s_law_alike) (by decide +kernel)) (fun _ _ _ _ _ => (gN 2 sc_law_alike.nd)) (fun _ _ _ _ _ => (pts_one (pt_not (pt_val (C8.pe_c c_law_alike hr (by omega) rfl (pa_cons (pe_ix ix_seq (pv 0) (pv 2) (fun _ _ => rfl)) (pa_cons (pe_ix ix_seq (pv 1) (pv 2) (fun _ _ => rfl)) pa_nil))))))) (fun _ _ _ _ _ => (pv 2))) (pe_lstX pa_nil) (nomark _)))))) pss_nil)
  (pss_cons (ps_if (PW.pt (pw_or (pt_cmpR op_isN1 (pv 1) pe_non (nomark _)) (pw_or1 (pt_val (pe_callB call_isi rfl B.isinstance bt_isinstance (pa_cons (pv 1) (pa_cons (pe_bltn rfl B.str bt_str rfl) pa_nil))))))) (pss_one (ps_ret (pe_and (pe_cmpR (op_eqA (un80 hr)) (pv 0) (pv 1) (nomark _)) (pe_one (pe_cmpR (op_eqX hr.units) (pe_callB call_isi rfl B.isinstance bt_isinstance (pa_cons (pv 0) (pa_cons (pe_bltn rfl B.str bt_str rfl) pa_nil))) (pe_callB call_isi rfl B.isinstance bt_isinstance (pa_cons (pv 1) (pa_cons (pe_bltn rfl B.str bt_str rfl) pa_nil))) (nomark _)))))) pss_nil)
  (pss_one (ps_ret (pe_and (pe_callB call_isi rfl B.isinstance bt_isinstance (pa_cons (pv 0) (pa_cons (pe_bltn rfl B.int bt_int rfl) pa_nil))) (pe_and (pe_cmpR (op_eqX hr.units) (pe_callB call_isi rfl B.isinstance bt_isinstance (pa_cons (pv 0) (pa_cons (pe_bltn rfl B.bool bt_bool rfl) pa_nil))) (pe_callB call_isi rfl B.isinstance bt_isinstance (pa_cons (pv 1) (pa_cons (pe_bltn rfl B.bool bt_bool rfl) pa_nil))) (nomark _)) (pe_one (pe_cmpR (op_eqA (un80 hr)) (pv 0) (pv 1) (nomark _))))))))))
theorem sc_law : FnScope ["_law_script", "_law_h", "_law_turn", "_law_start", "_law_modules", "_law_names_here", "_law_program_here", "_law_cap", "_law_outcome", "_law_walked_here", "_law_module"] ["_law_script"] (defScope s_law) := ⟨rfl, rfl, rfl, by decide +kernel, rfl, by decide +kernel, by decide +kernel⟩
theorem ok_law {c : CA} {CO : Addr} (T : CC K c) {f : Addr} {fd : FuncData} (F : FunD K "law" "law" (defArgs s_law) (defBody s_law) (defScope s_law) [] [] f fd) (B : Blt mg) (s_status : MSl P w K mg base 1 CO "status" (sp_Outcome_status K CO)) (c_law_alike : C8.Cal P w K mg base 2 "_law_alike" (sp_law_alike K) []) (p_ending : PSl P w K mg base 1 CO "ending" (sp_Outcome_ending K CO)) (p_events : PSl P w K mg base 1 CO "events" (sp_Outcome_events K CO)) (c_law_walked : C8.Cal P w K mg base 1 "_law_walked" (sp_law_walked K) []) (k_Program : C8.Mak P w K mg base 14 "Program" c.CP (sp_Program___init__ K c.CP) []) (ck_run : CalK P w K mg base 215 "run" (sp_run K c CO) 2 ["limit"] (fun vs zs => vs ++ zs)) (c_law_next : C8.Cal P w K mg base 1 "_law_next" (sp_law_next K) []) (c_law_program : C8.Cal P w K mg base 19 "_law_program" (sp_law_program K) []) (c_law_mix : C8.Cal P w K mg base 1 "_law_mix" (sp_law_mix K) []) : FnOk P w K mg base CX0 (215 + 1) f fd ["_law_script"] (sp_law K) := by
  refine F.ok sc_law (fun vs H Q E h => by obtain ⟨_, _, rfl, _⟩ := h; rfl) (fun cdv A outer s H vs Q E hr h => ⟨t_law K c CO, PSs.nox (?_), pure_law T vs H Q E h⟩)
  exact (pss_cons (sN 1 sc_law.nd (C8.pe_c c_law_mix hr (by omega) rfl (pa_cons (pv 0) (pa_cons pe_int pa_nil))))
  (pss_cons (ps_for PassesOwn.never rfl (pi_range1 rfl B.range (pa_cons pe_int pa_nil)) (gN 2 sc_law.nd) (pss_cons (ps_asg (C8.pe_c c_law_program hr (by omega) rfl (pa_cons (pv 1) (pa_cons pe_int pa_nil))) (pg_tup rfl (pgs_cons (gN 4 sc_law.nd) (pgs_cons (gN 5 sc_law.nd) (pgs_cons (gN 6 sc_law.nd) pgs_nil)))))
  (pss_one (ps_for PassesOwn.never rfl (pi_seq (pv 4)) (gN 3 sc_law.nd) (pss_cons (sN 7 sc_law.nd (C8.pe_c c_law_next hr (by omega) rfl (pa_cons (pv 1) (pa_cons pe_int pa_nil))))
  (pss_cons (sN 8 sc_law.nd (pe_ck (ks := ["limit"]) ck_run hr (by omega) rfl (pa_cons (C8.pe_mk k_Program hr (by omega) rfl (pa_cons (pe_callTy (cb_dictOf rfl) rfl B.dict bt_dict (pa_cons (pv 6) pa_nil)) pa_nil)) (pa_cons (pv 3) pa_nil)) (pk_cons (pv 7) pk_nil)))
  (pss_cons (sN 9 sc_law.nd (pe_ifExp (pt_val (pe_callB call_isi rfl B.isinstance bt_isinstance (pa_cons (pe_psl p_events hr (by omega) (pv 8)) (pa_cons (pe_bltn rfl B.tuple bt_tuple rfl) pa_nil)))) (C8.pe_c c_law_walked hr (by omega) rfl (pa_cons (pe_psl p_events hr (by omega) (pv 8)) pa_nil)) pe_non))
  (pss_cons (ps_if (PW.pt (pw_or (pt_cmpR op_isN1 (pv 9) pe_non (nomark _)) (pw_or1 (pt_cmpR op_gt (pe_ix ix_seq (pv 9) pe_int (fun _ _ => rfl)) (pv 7) (nomark _))))) (pss_one (ps_ret pe_bl)) pss_nil)
  (pss_cons (ps_if (PW.pt (pw_and (pt_cmpR (op_neX hr.units) (pe_psl p_ending hr (by omega) (pv 8)) pe_str (nomark _)) (pw_and1 (pt_cmpR (op_neX hr.units) (pe_ix ix_seq (pv 9) pe_int (fun _ _ => rfl)) (pe_lstX pa_nil) (nomark _))))) (pss_one (ps_ret pe_bl)) pss_nil)
  (pss_cons (ps_if (PW.pt (pw_and (pt_cmpR op_gt (pv 7) pe_int (nomark _)) (pw_and1 (pt_cmpR (op_neX hr.units) (pe_slice sl_tupA (pe_psl p_events hr (by omega) (pv 8)) po_none (po_some pe_int)) (pe_tupX (pa_cons (pe_tupX (pa_cons pe_str (pa_cons (pv 3) pa_nil))) pa_nil)) (nomark _))))) (pss_one (ps_ret pe_bl)) pss_nil)
  (pss_cons (ps_if (PW.pt (pw_and (pt_cmpR op_notInX (pe_psl p_ending hr (by omega) (pv 8)) (pe_tupX (pa_cons pe_str (pa_cons pe_str pa_nil))) rfl) (pw_and1 (pt_cmpR (op_neX hr.units) (pe_slice sl_tupA (pe_psl p_events hr (by omega) (pv 8)) (po_some (pe_un un_neg pe_int)) po_none) (pe_tupX (pa_cons (pe_tupX (pa_cons pe_str (pa_cons (pv 3) pa_nil))) pa_nil)) (nomark _))))) (pss_one (ps_ret pe_bl)) pss_nil)
  (pss_cons (ps_if (PW.pt (pw_and (pt_cmpR (op_neX hr.units) (pe_cmpR (op_eqX hr.units) (pe_psl p_ending hr (by omega) (pv 8)) pe_str (nomark _)) (pe_cmpR (op_eqX hr.units) (pe_slice sl_tupA (pe_psl p_events hr (by omega) (pv 8)) (po_some (pe_un un_neg pe_int)) po_none) (pe_tupX (pa_cons (pe_tupX (pa_cons pe_str (pa_cons (pv 3) pa_nil))) pa_nil)) (nomark _)) (nomark _)) (pw_and1 (pt_cmpR op_gt (pv 7) pe_int (nomark _))))) (pss_one (ps_ret pe_bl)) pss_nil)
  (pss_one (ps_for PassesOwn.never rfl (pi_seq (pv 4)) (gN 10 sc_law.nd) (pss_one (ps_if (pt_not (pt_val (C8.pe_c c_law_alike hr (by omega) rfl (pa_cons (pe_ms s_status hr (by omega) (pv 8) (pa_cons (pv 10) pa_nil)) (pa_cons (pe_bm PySem.F.plainAttrs_dict PySem.F.slot_dict_get PySem.F.type_dict_get (mt_get2 hr.units) (pe_ix ix_seq (pv 9) pe_int (fun _ _ => rfl)) (pa_cons (pv 10) (pa_cons pe_str pa_nil))) pa_nil))))) (pss_one (ps_ret pe_bl)) pss_nil))))))))))))))))
  (pss_one (ps_ret pe_bl))))
end
end M


namespace M
open PySem PySem.Spec PyProof.Rows L2 L2H SlX
section
variable {w : World} {K : PySem.W.Frag} {mg : Str → Option Value} {base : Heap} {fI C : Addr} {fd : FuncData} {B newId i : String} {bmB : List Value}
theorem ini_Failure (D : SuDef PP K "Failure.__init__" s_Failure___init__ fI C fd) (T : XCls K C fI B newId i bmB ["kind", "places"]) (hs : mg "super" = none) : FnOk PP w K mg base CX0 (0 + 1) fI fd ["self", "kind", "places"] (sp_ini C ["kind", "places"]) :=
  ok_ini2 ⟨rfl, rfl, rfl, by decide +kernel, rfl, by decide +kernel, by decide +kernel, by decide +kernel⟩ D T ⟨rfl, rfl, rfl, ⟨_, rfl, rfl⟩, hs, by decide +kernel⟩ rfl (fun env => ⟨_, rfl⟩) rfl rfl (by decide) (by decide) (by decide) (by decide)
theorem ini_Stop (D : SuDef PP K "Stop.__init__" s_Stop___init__ fI C fd) (T : XCls K C fI B newId i bmB ["places"]) (hs : mg "super" = none) : FnOk PP w K mg base CX0 (0 + 1) fI fd ["self", "places"] (sp_ini C ["places"]) :=
  ok_ini1 ⟨rfl, rfl, rfl, by decide +kernel, rfl, by decide +kernel, by decide +kernel, by decide +kernel⟩ D T ⟨rfl, rfl, rfl, ⟨_, rfl, rfl⟩, hs, by decide +kernel⟩ rfl (fun env => ⟨_, rfl⟩) rfl (by decide) (by decide)
theorem bnd_Failure {P : Program} (D : SuDef P K "Failure.__init__" s_Failure___init__ fI C fd) (nd : noDf K fI = true) (s : Shared) (u : Value) (ws : List Value) (hl : ws.length = (["kind", "places"] : List Str).length) : BindsTo s fd ⟨[u], (["kind", "places"] : List Str).zip ws⟩ ((("self" : Str) :: ["kind", "places"]).zip (u :: ws)) := by
  obtain ⟨oc, od, dV, kV, doc, pm, an, cdv, ct, osl, cc, cl, cld, csl, cda, ccl, cdd, vs, ccs, file, tf, rfl, lk, _⟩ := D.ex
  unfold noDf at nd
  rw [lk] at nd
  have nd : dV = .none := of_decide_eq_true nd
  subst nd
  match ws, hl with
  | [a, b], _ => exact .of_eq rfl
theorem bnd_Stop {P : Program} (D : SuDef P K "Stop.__init__" s_Stop___init__ fI C fd) (nd : noDf K fI = true) (s : Shared) (u : Value) (ws : List Value) (hl : ws.length = (["places"] : List Str).length) : BindsTo s fd ⟨[u], (["places"] : List Str).zip ws⟩ ((("self" : Str) :: ["places"]).zip (u :: ws)) := by
  obtain ⟨oc, od, dV, kV, doc, pm, an, cdv, ct, osl, cc, cl, cld, csl, cda, ccl, cdd, vs, ccs, file, tf, rfl, lk, _⟩ := D.ex
  unfold noDf at nd
  rw [lk] at nd
  have nd : dV = .none := of_decide_eq_true nd
  subst nd
  match ws, hl with
  | [a], _ => exact .of_eq rfl
theorem bnd_run {f : Addr} (F : FunD K "run" "run" (defArgs s_run) (defBody s_run) (defScope s_run) [] [("limit", .int 12)] f fd) : ∃ g, KBn K fd ["program", "start", "limit"] 2 ["limit"] g (fun vs zs => vs ++ zs) := by
  obtain ⟨mv, h⟩ := FunD.kbinds0 (ps := ["program", "start", "limit"]) F 2 ["limit"] [] (fun us _ ws => us ++ ws) (by simp) (fun q hq => nomatch hq) (fun a _ b => a.append b)
    (fun D doc pm an cdv ct us mv ws hu hm hw => by
      match us, mv, ws, hu, hm, hw with
      | [a, b], [], [z], _, _, _ => exact rfl)
  exact ⟨_, h⟩
end
end M


namespace M
open PySem PySem.Spec PyProof.Rows L2 L2H SlX
section
variable {P : Program} {w : World} {K : PySem.W.Frag} {mg : Str → Option Value} {base : Heap} {k k' : Nat} {C f : Addr} {fd : FuncData} {ps : List Str} {m x : Str} {sp : Sp}
theorem mkMet (cl : Cls K C) (h : Meth K C m f) (F : FnOk P w K mg base CX0 k f fd ps sp) (b : Binds K fd ps []) : C8.Met P w K mg base k C m sp [] := ⟨⟨f, fd, ps, [], cl, h, F, b, .nil⟩⟩
theorem mkMetN (cl : Cls K C) (h : Meth K C m f) (F : FnOk P w K mg base (L2N.CX P w) k f fd ps sp) (b : Binds K fd ps []) : MetN P w K mg base k C m sp := ⟨⟨f, fd, ps, cl, h, F, b⟩⟩
theorem mkMetH (cl : Cls K C) (h : Meth K C m f) (F : FnH P w K mg base CX0 k f fd ps sp) (b : Binds K fd ps []) : MetH P w K mg base k C m sp := ⟨⟨f, fd, ps, cl, h, F, b⟩⟩
theorem mkMak (h : Mk K C f) (hm : mg x = some (.ref C)) (F : FnOk P w K mg base CX0 k f fd ps sp) (b : Binds K fd ps []) : C8.Mak P w K mg base k x C sp [] := ⟨⟨f, fd, ps, [], h, F, hm, b, .nil⟩⟩
theorem mkMakH (h : Mk K C f) (hm : mg x = some (.ref C)) (F : FnH P w K mg base CX0 k f fd ps sp) (b : Binds K fd ps []) : MakH P w K mg base k x C sp := ⟨⟨f, fd, ps, h, F, hm, b⟩⟩
end
theorem no_ive {K : PySem.W.Frag} : ∀ vs H Q E, ¬ sp_is_valid_expression K 0 vs H Q E := by
  rintro vs H Q E ⟨v, e, ops, _, _, _, h, h3, _⟩
  omega
theorem no_si {K : PySem.W.Frag} : ∀ vs H Q E, ¬ sp_statements_in K 0 vs H Q E := by
  rintro vs H Q E ⟨v, bv, b, base, _, _, _, h, _⟩
  exact absurd h (Nat.not_lt_zero _)
theorem no_val {K : PySem.W.Frag} {c : CA} : ∀ vs H Q E, ¬ sp_Interpreter_value K c 0 vs H Q E := by
  rintro vs H Q E ⟨A, P, w, un, m, e, v, _, _, _, h, _⟩
  exact absurd h (Nat.not_lt_zero _)
theorem no_lex {K : PySem.W.Frag} : ∀ vs H Q E, ¬ sp_law_expr K 0 vs H Q E := by
  rintro vs H Q E ⟨h, c, nl, names, d, _, _, _, h0, h1, _⟩
  omega
theorem no_lst {K : PySem.W.Frag} : ∀ vs H Q E, ¬ sp_law_statement K 0 vs H Q E := by
  rintro vs H Q E ⟨h, c, ml, nl, ms, ns, d, _, _, h0, h1, _⟩
  omega
def ca (K : PySem.W.Frag) : CA := ⟨He.ga K "Interpreter", He.ga K "World", He.ga K "Program", He.ga K "Failure", He.ga K "Stop"⟩
theorem facts {w : World} {K : PySem.W.Frag} {h : Heap} {mg : Str → Option Value} {f : Addr} (X : K.In h) (G : h.Ns mainGlobals mg) (hfa : mg ("law" : Str) = some (.ref f)) (c : SaysC fa fn ts su pr ex w K) :
    ∃ fd : FuncData, (∀ (s : Shared) (v : Value), BindsTo s fd ⟨[v], []⟩ [("_law_script", v)]) ∧ ∀ base : Heap, K.In base → base.Ns mainGlobals mg → FnOk PP w K mg base CX0 216 f fd ["_law_script"] (sp_law K) := by
  obtain ⟨fd_is_integer, F_is_integer⟩ := c.t.d.def_ 0 (d := d_is_integer) rfl
  have g_is_integer := He.glo_ok X G (c.t.d.fact 0 (f := .glo "is_integer") rfl)
  have b_is_integer : Binds K fd_is_integer ["value"] [] := F_is_integer.bindsN fun _ _ _ _ _ _ us hl => match us, hl with | [_], _ => rfl
  obtain ⟨fd_is_name, F_is_name⟩ := c.t.d.def_ 1 (d := d_is_name) rfl
  have g_is_name := He.glo_ok X G (c.t.d.fact 1 (f := .glo "is_name") rfl)
  have b_is_name : Binds K fd_is_name ["text"] [] := F_is_name.bindsN fun _ _ _ _ _ _ us hl => match us, hl with | [_], _ => rfl
  obtain ⟨fd_blocks_of, F_blocks_of⟩ := c.t.d.def_ 2 (d := d_blocks_of) rfl
  have g_blocks_of := He.glo_ok X G (c.t.d.fact 2 (f := .glo "blocks_of") rfl)
  have b_blocks_of : Binds K fd_blocks_of ["statement"] [] := F_blocks_of.bindsN fun _ _ _ _ _ _ us hl => match us, hl with | [_], _ => rfl
  obtain ⟨fd_names_of, F_names_of⟩ := c.t.d.def_ 3 (d := d_names_of) rfl
  have g_names_of := He.glo_ok X G (c.t.d.fact 3 (f := .glo "names_of") rfl)
  have b_names_of : Binds K fd_names_of ["statement"] [] := F_names_of.bindsN fun _ _ _ _ _ _ us hl => match us, hl with | [_], _ => rfl
  obtain ⟨fd_expressions_of, F_expressions_of⟩ := c.t.d.def_ 4 (d := d_expressions_of) rfl
  have g_expressions_of := He.glo_ok X G (c.t.d.fact 4 (f := .glo "expressions_of") rfl)
  have b_expressions_of : Binds K fd_expressions_of ["statement"] [] := F_expressions_of.bindsN fun _ _ _ _ _ _ us hl => match us, hl with | [_], _ => rfl
  obtain ⟨fd_statements_in, F_statements_in⟩ := c.t.d.def_ 5 (d := d_statements_in) rfl
  have g_statements_in := He.glo_ok X G (c.t.d.fact 5 (f := .glo "statements_in") rfl)
  have b_statements_in : Binds K fd_statements_in ["block", "base"] [] := F_statements_in.bindsN fun _ _ _ _ _ _ us hl => match us, hl with | [_, _], _ => rfl
  obtain ⟨fd_depth_of, F_depth_of⟩ := c.t.d.def_ 6 (d := d_depth_of) rfl
  have g_depth_of := He.glo_ok X G (c.t.d.fact 6 (f := .glo "depth_of") rfl)
  have b_depth_of : Binds K fd_depth_of ["path"] [] := F_depth_of.bindsN fun _ _ _ _ _ _ us hl => match us, hl with | [_], _ => rfl
  obtain ⟨fd_is_valid_expression, F_is_valid_expression⟩ := c.t.d.def_ 7 (d := d_is_valid_expression) rfl
  have g_is_valid_expression := He.glo_ok X G (c.t.d.fact 7 (f := .glo "is_valid_expression") rfl)
  have b_is_valid_expression : Binds K fd_is_valid_expression ["expr", "operators"] [] := F_is_valid_expression.bindsN fun _ _ _ _ _ _ us hl => match us, hl with | [_, _], _ => rfl
  obtain ⟨fd_is_valid_statement, F_is_valid_statement⟩ := c.t.d.def_ 8 (d := d_is_valid_statement) rfl
  have g_is_valid_statement := He.glo_ok X G (c.t.d.fact 8 (f := .glo "is_valid_statement") rfl)
  have b_is_valid_statement : Binds K fd_is_valid_statement ["path", "statement"] [] := F_is_valid_statement.bindsN fun _ _ _ _ _ _ us hl => match us, hl with | [_, _], _ => rfl
  obtain ⟨fd_first_fault, F_first_fault⟩ := c.t.d.def_ 9 (d := d_first_fault) rfl
  have g_first_fault := He.glo_ok X G (c.t.d.fact 9 (f := .glo "first_fault") rfl)
  have b_first_fault : Binds K fd_first_fault ["index", "name", "block"] [] := F_first_fault.bindsN fun _ _ _ _ _ _ us hl => match us, hl with | [_, _, _], _ => rfl
  obtain ⟨fd_check_limit, F_check_limit⟩ := c.t.d.def_ 10 (d := d_check_limit) rfl
  have g_check_limit := He.glo_ok X G (c.t.d.fact 10 (f := .glo "check_limit") rfl)
  have b_check_limit : Binds K fd_check_limit ["limit"] [] := F_check_limit.bindsN fun _ _ _ _ _ _ us hl => match us, hl with | [_], _ => rfl
  obtain ⟨fd_run, F_run⟩ := c.t.d.def_ 11 (d := d_run) rfl
  have g_run := He.glo_ok X G (c.t.d.fact 11 (f := .glo "run") rfl)
  obtain ⟨fd_law_mix, F_law_mix⟩ := c.t.d.def_ 12 (d := d_law_mix) rfl
  have g_law_mix := He.glo_ok X G (c.t.d.fact 12 (f := .glo "_law_mix") rfl)
  have b_law_mix : Binds K fd_law_mix ["_law_script", "_law_seed"] [] := F_law_mix.bindsN fun _ _ _ _ _ _ us hl => match us, hl with | [_, _], _ => rfl
  obtain ⟨fd_law_next, F_law_next⟩ := c.t.d.def_ 13 (d := d_law_next) rfl
  have g_law_next := He.glo_ok X G (c.t.d.fact 13 (f := .glo "_law_next") rfl)
  have b_law_next : Binds K fd_law_next ["_law_h", "_law_cap"] [] := F_law_next.bindsN fun _ _ _ _ _ _ us hl => match us, hl with | [_, _], _ => rfl
  obtain ⟨fd_law_alike, F_law_alike⟩ := c.t.d.def_ 14 (d := d_law_alike) rfl
  have g_law_alike := He.glo_ok X G (c.t.d.fact 14 (f := .glo "_law_alike") rfl)
  have b_law_alike : Binds K fd_law_alike ["_law_found", "_law_due"] [] := F_law_alike.bindsN fun _ _ _ _ _ _ us hl => match us, hl with | [_, _], _ => rfl
  obtain ⟨fd_law_name, F_law_name⟩ := c.t.d.def_ 15 (d := d_law_name) rfl
  have g_law_name := He.glo_ok X G (c.t.d.fact 15 (f := .glo "_law_name") rfl)
  have b_law_name : Binds K fd_law_name ["_law_h"] [] := F_law_name.bindsN fun _ _ _ _ _ _ us hl => match us, hl with | [_], _ => rfl
  obtain ⟨fd_law_names, F_law_names⟩ := c.t.d.def_ 16 (d := d_law_names) rfl
  have g_law_names := He.glo_ok X G (c.t.d.fact 16 (f := .glo "_law_names") rfl)
  have b_law_names : Binds K fd_law_names ["_law_h", "_law_many"] [] := F_law_names.bindsN fun _ _ _ _ _ _ us hl => match us, hl with | [_, _], _ => rfl
  obtain ⟨fd_law_integer, F_law_integer⟩ := c.t.d.def_ 17 (d := d_law_integer) rfl
  have g_law_integer := He.glo_ok X G (c.t.d.fact 17 (f := .glo "_law_integer") rfl)
  have b_law_integer : Binds K fd_law_integer ["_law_h"] [] := F_law_integer.bindsN fun _ _ _ _ _ _ us hl => match us, hl with | [_], _ => rfl
  obtain ⟨fd_law_expr, F_law_expr⟩ := c.t.d.def_ 18 (d := d_law_expr) rfl
  have g_law_expr := He.glo_ok X G (c.t.d.fact 18 (f := .glo "_law_expr") rfl)
  have b_law_expr : Binds K fd_law_expr ["_law_h", "_law_names_here", "_law_depth"] [] := F_law_expr.bindsN fun _ _ _ _ _ _ us hl => match us, hl with | [_, _, _], _ => rfl
  obtain ⟨fd_law_load, F_law_load⟩ := c.t.d.def_ 19 (d := d_law_load) rfl
  have g_law_load := He.glo_ok X G (c.t.d.fact 19 (f := .glo "_law_load") rfl)
  have b_law_load : Binds K fd_law_load ["_law_h", "_law_modules", "_law_names_here"] [] := F_law_load.bindsN fun _ _ _ _ _ _ us hl => match us, hl with | [_, _, _], _ => rfl
  obtain ⟨fd_law_statement, F_law_statement⟩ := c.t.d.def_ 20 (d := d_law_statement) rfl
  have g_law_statement := He.glo_ok X G (c.t.d.fact 20 (f := .glo "_law_statement") rfl)
  have b_law_statement : Binds K fd_law_statement ["_law_h", "_law_modules", "_law_names_here", "_law_depth"] [] := F_law_statement.bindsN fun _ _ _ _ _ _ us hl => match us, hl with | [_, _, _, _], _ => rfl
  obtain ⟨fd_law_rows, F_law_rows⟩ := c.t.d.def_ 21 (d := d_law_rows) rfl
  have g_law_rows := He.glo_ok X G (c.t.d.fact 21 (f := .glo "_law_rows") rfl)
  have b_law_rows : Binds K fd_law_rows ["_law_h", "_law_modules", "_law_names_here", "_law_depth", "_law_most"] [] := F_law_rows.bindsN fun _ _ _ _ _ _ us hl => match us, hl with | [_, _, _, _, _], _ => rfl
  obtain ⟨fd_law_first_rows, F_law_first_rows⟩ := c.t.d.def_ 22 (d := d_law_first_rows) rfl
  have g_law_first_rows := He.glo_ok X G (c.t.d.fact 22 (f := .glo "_law_first_rows") rfl)
  have b_law_first_rows : Binds K fd_law_first_rows ["_law_h", "_law_modules", "_law_names_here"] [] := F_law_first_rows.bindsN fun _ _ _ _ _ _ us hl => match us, hl with | [_, _, _], _ => rfl
  obtain ⟨fd_law_program, F_law_program⟩ := c.t.d.def_ 23 (d := d_law_program) rfl
  have g_law_program := He.glo_ok X G (c.t.d.fact 23 (f := .glo "_law_program") rfl)
  have b_law_program : Binds K fd_law_program ["_law_h", "_law_most"] [] := F_law_program.bindsN fun _ _ _ _ _ _ us hl => match us, hl with | [_, _], _ => rfl
  obtain ⟨fd_law_walked, F_law_walked⟩ := c.t.d.def_ 24 (d := d_law_walked) rfl
  have g_law_walked := He.glo_ok X G (c.t.d.fact 24 (f := .glo "_law_walked") rfl)
  have b_law_walked : Binds K fd_law_walked ["_law_events"] [] := F_law_walked.bindsN fun _ _ _ _ _ _ us hl => match us, hl with | [_], _ => rfl
  obtain ⟨fd_law, F_law⟩ := c.t.d.def_ 25 (d := d_law) rfl
  have g_law := He.glo_ok X G (c.t.d.fact 25 (f := .glo "law") rfl)
  have b_law : Binds K fd_law ["_law_script"] [] := F_law.bindsN fun _ _ _ _ _ _ us hl => match us, hl with | [_], _ => rfl
  obtain ⟨fd_Outcome___init__, F_Outcome___init__⟩ := c.t.d.def_ 26 (d := d_Outcome___init__) rfl
  have b_Outcome___init__ : Binds K fd_Outcome___init__ ["self", "ending", "shown", "events", "trail", "spaces"] [] := F_Outcome___init__.bindsN fun _ _ _ _ _ _ us hl => match us, hl with | [_, _, _, _, _, _], _ => rfl
  have m_Outcome___init__ := He.meth_ok (c.t.d.fact 56 (f := .meth "Outcome" "__init__") rfl)
  obtain ⟨fd_Outcome_status, F_Outcome_status⟩ := c.t.d.def_ 27 (d := d_Outcome_status) rfl
  have b_Outcome_status : Binds K fd_Outcome_status ["self", "module"] [] := F_Outcome_status.bindsN fun _ _ _ _ _ _ us hl => match us, hl with | [_, _], _ => rfl
  have m_Outcome_status := He.meth_ok (c.t.d.fact 57 (f := .meth "Outcome" "status") rfl)
  obtain ⟨fd_World___init__, F_World___init__⟩ := c.t.d.def_ 28 (d := d_World___init__) rfl
  have b_World___init__ : Binds K fd_World___init__ ["self", "limit"] [] := F_World___init__.bindsN fun _ _ _ _ _ _ us hl => match us, hl with | [_, _], _ => rfl
  have m_World___init__ := He.meth_ok (c.t.d.fact 58 (f := .meth "World" "__init__") rfl)
  obtain ⟨fd_World_told_status, F_World_told_status⟩ := c.t.d.def_ 29 (d := d_World_told_status) rfl
  have b_World_told_status : Binds K fd_World_told_status ["self", "module"] [] := F_World_told_status.bindsN fun _ _ _ _ _ _ us hl => match us, hl with | [_, _], _ => rfl
  have m_World_told_status := He.meth_ok (c.t.d.fact 59 (f := .meth "World" "told_status") rfl)
  obtain ⟨fd_World_enter, F_World_enter⟩ := c.t.d.def_ 30 (d := d_World_enter) rfl
  have b_World_enter : Binds K fd_World_enter ["self", "module"] [] := F_World_enter.bindsN fun _ _ _ _ _ _ us hl => match us, hl with | [_, _], _ => rfl
  have m_World_enter := He.meth_ok (c.t.d.fact 60 (f := .meth "World" "enter") rfl)
  obtain ⟨fd_World_leave, F_World_leave⟩ := c.t.d.def_ 31 (d := d_World_leave) rfl
  have b_World_leave : Binds K fd_World_leave ["self", "module"] [] := F_World_leave.bindsN fun _ _ _ _ _ _ us hl => match us, hl with | [_, _], _ => rfl
  have m_World_leave := He.meth_ok (c.t.d.fact 61 (f := .meth "World" "leave") rfl)
  obtain ⟨fd_World_fail, F_World_fail⟩ := c.t.d.def_ 32 (d := d_World_fail) rfl
  have b_World_fail : Binds K fd_World_fail ["self", "module"] [] := F_World_fail.bindsN fun _ _ _ _ _ _ us hl => match us, hl with | [_, _], _ => rfl
  have m_World_fail := He.meth_ok (c.t.d.fact 62 (f := .meth "World" "fail") rfl)
  obtain ⟨fd_World_meet, F_World_meet⟩ := c.t.d.def_ 33 (d := d_World_meet) rfl
  have b_World_meet : Binds K fd_World_meet ["self", "module"] [] := F_World_meet.bindsN fun _ _ _ _ _ _ us hl => match us, hl with | [_, _], _ => rfl
  have m_World_meet := He.meth_ok (c.t.d.fact 63 (f := .meth "World" "meet") rfl)
  obtain ⟨fd_World_outcome, F_World_outcome⟩ := c.t.d.def_ 34 (d := d_World_outcome) rfl
  have b_World_outcome : Binds K fd_World_outcome ["self", "ending", "trail"] [] := F_World_outcome.bindsN fun _ _ _ _ _ _ us hl => match us, hl with | [_, _, _], _ => rfl
  have m_World_outcome := He.meth_ok (c.t.d.fact 64 (f := .meth "World" "outcome") rfl)
  obtain ⟨fd_Interpreter___init__, F_Interpreter___init__⟩ := c.t.d.def_ 35 (d := d_Interpreter___init__) rfl
  have b_Interpreter___init__ : Binds K fd_Interpreter___init__ ["self", "program", "limit"] [] := F_Interpreter___init__.bindsN fun _ _ _ _ _ _ us hl => match us, hl with | [_, _, _], _ => rfl
  have m_Interpreter___init__ := He.meth_ok (c.t.d.fact 65 (f := .meth "Interpreter" "__init__") rfl)
  obtain ⟨fd_Interpreter_refuse, F_Interpreter_refuse⟩ := c.t.d.def_ 36 (d := d_Interpreter_refuse) rfl
  have b_Interpreter_refuse : Binds K fd_Interpreter_refuse ["self", "kind"] [] := F_Interpreter_refuse.bindsN fun _ _ _ _ _ _ us hl => match us, hl with | [_, _], _ => rfl
  have m_Interpreter_refuse := He.meth_ok (c.t.d.fact 66 (f := .meth "Interpreter" "refuse") rfl)
  obtain ⟨fd_Interpreter_take_block, F_Interpreter_take_block⟩ := c.t.d.def_ 37 (d := d_Interpreter_take_block) rfl
  have b_Interpreter_take_block : Binds K fd_Interpreter_take_block ["self"] [] := F_Interpreter_take_block.bindsN fun _ _ _ _ _ _ us hl => match us, hl with | [_], _ => rfl
  have m_Interpreter_take_block := He.meth_ok (c.t.d.fact 67 (f := .meth "Interpreter" "take_block") rfl)
  obtain ⟨fd_Interpreter_read, F_Interpreter_read⟩ := c.t.d.def_ 38 (d := d_Interpreter_read) rfl
  have b_Interpreter_read : Binds K fd_Interpreter_read ["self", "module", "name", "kind"] [] := F_Interpreter_read.bindsN fun _ _ _ _ _ _ us hl => match us, hl with | [_, _, _, _], _ => rfl
  have m_Interpreter_read := He.meth_ok (c.t.d.fact 68 (f := .meth "Interpreter" "read") rfl)
  obtain ⟨fd_Interpreter_value, F_Interpreter_value⟩ := c.t.d.def_ 39 (d := d_Interpreter_value) rfl
  have b_Interpreter_value : Binds K fd_Interpreter_value ["self", "module", "expr"] [] := F_Interpreter_value.bindsN fun _ _ _ _ _ _ us hl => match us, hl with | [_, _, _], _ => rfl
  have m_Interpreter_value := He.meth_ok (c.t.d.fact 69 (f := .meth "Interpreter" "value") rfl)
  obtain ⟨fd_Interpreter_bind, F_Interpreter_bind⟩ := c.t.d.def_ 40 (d := d_Interpreter_bind) rfl
  have b_Interpreter_bind : Binds K fd_Interpreter_bind ["self", "module", "name", "value"] [] := F_Interpreter_bind.bindsN fun _ _ _ _ _ _ us hl => match us, hl with | [_, _, _, _], _ => rfl
  have m_Interpreter_bind := He.meth_ok (c.t.d.fact 70 (f := .meth "Interpreter" "bind") rfl)
  obtain ⟨fd_Interpreter_step, F_Interpreter_step⟩ := c.t.d.def_ 41 (d := d_Interpreter_step) rfl
  have b_Interpreter_step : Binds K fd_Interpreter_step ["self", "module", "path", "statement"] [] := F_Interpreter_step.bindsN fun _ _ _ _ _ _ us hl => match us, hl with | [_, _, _, _], _ => rfl
  have m_Interpreter_step := He.meth_ok (c.t.d.fact 71 (f := .meth "Interpreter" "step") rfl)
  obtain ⟨fd_Interpreter_choice, F_Interpreter_choice⟩ := c.t.d.def_ 42 (d := d_Interpreter_choice) rfl
  have b_Interpreter_choice : Binds K fd_Interpreter_choice ["self", "value"] [] := F_Interpreter_choice.bindsN fun _ _ _ _ _ _ us hl => match us, hl with | [_, _], _ => rfl
  have m_Interpreter_choice := He.meth_ok (c.t.d.fact 72 (f := .meth "Interpreter" "choice") rfl)
  obtain ⟨fd_Interpreter_go, F_Interpreter_go⟩ := c.t.d.def_ 43 (d := d_Interpreter_go) rfl
  have b_Interpreter_go : Binds K fd_Interpreter_go ["self", "module", "base", "block"] [] := F_Interpreter_go.bindsN fun _ _ _ _ _ _ us hl => match us, hl with | [_, _, _, _], _ => rfl
  have m_Interpreter_go := He.meth_ok (c.t.d.fact 73 (f := .meth "Interpreter" "go") rfl)
  obtain ⟨fd_Interpreter_attempt, F_Interpreter_attempt⟩ := c.t.d.def_ 44 (d := d_Interpreter_attempt) rfl
  have b_Interpreter_attempt : Binds K fd_Interpreter_attempt ["self", "module", "path", "statement"] [] := F_Interpreter_attempt.bindsN fun _ _ _ _ _ _ us hl => match us, hl with | [_, _, _, _], _ => rfl
  have m_Interpreter_attempt := He.meth_ok (c.t.d.fact 74 (f := .meth "Interpreter" "attempt") rfl)
  obtain ⟨fd_Interpreter_call, F_Interpreter_call⟩ := c.t.d.def_ 45 (d := d_Interpreter_call) rfl
  have b_Interpreter_call : Binds K fd_Interpreter_call ["self", "value"] [] := F_Interpreter_call.bindsN fun _ _ _ _ _ _ us hl => match us, hl with | [_, _], _ => rfl
  have m_Interpreter_call := He.meth_ok (c.t.d.fact 75 (f := .meth "Interpreter" "call") rfl)
  obtain ⟨fd_Interpreter_block_of, F_Interpreter_block_of⟩ := c.t.d.def_ 46 (d := d_Interpreter_block_of) rfl
  have b_Interpreter_block_of : Binds K fd_Interpreter_block_of ["self", "module", "path"] [] := F_Interpreter_block_of.bindsN fun _ _ _ _ _ _ us hl => match us, hl with | [_, _, _], _ => rfl
  have m_Interpreter_block_of := He.meth_ok (c.t.d.fact 76 (f := .meth "Interpreter" "block_of") rfl)
  obtain ⟨fd_Interpreter_load, F_Interpreter_load⟩ := c.t.d.def_ 47 (d := d_Interpreter_load) rfl
  have b_Interpreter_load : Binds K fd_Interpreter_load ["self", "module"] [] := F_Interpreter_load.bindsN fun _ _ _ _ _ _ us hl => match us, hl with | [_, _], _ => rfl
  have m_Interpreter_load := He.meth_ok (c.t.d.fact 77 (f := .meth "Interpreter" "load") rfl)
  obtain ⟨fd_Interpreter_bind_loaded, F_Interpreter_bind_loaded⟩ := c.t.d.def_ 48 (d := d_Interpreter_bind_loaded) rfl
  have b_Interpreter_bind_loaded : Binds K fd_Interpreter_bind_loaded ["self", "module", "statement"] [] := F_Interpreter_bind_loaded.bindsN fun _ _ _ _ _ _ us hl => match us, hl with | [_, _, _], _ => rfl
  have m_Interpreter_bind_loaded := He.meth_ok (c.t.d.fact 78 (f := .meth "Interpreter" "bind_loaded") rfl)
  obtain ⟨fd_Program___init__, F_Program___init__⟩ := c.t.d.def_ 49 (d := d_Program___init__) rfl
  have b_Program___init__ : Binds K fd_Program___init__ ["self", "modules"] [] := F_Program___init__.bindsN fun _ _ _ _ _ _ us hl => match us, hl with | [_, _], _ => rfl
  have m_Program___init__ := He.meth_ok (c.t.d.fact 79 (f := .meth "Program" "__init__") rfl)
  obtain ⟨fd_Program___getitem__, F_Program___getitem__⟩ := c.t.d.def_ 50 (d := d_Program___getitem__) rfl
  have b_Program___getitem__ : Binds K fd_Program___getitem__ ["self", "at"] [] := F_Program___getitem__.bindsN fun _ _ _ _ _ _ us hl => match us, hl with | [_, _], _ => rfl
  have m_Program___getitem__ := He.meth_ok (c.t.d.fact 80 (f := .meth "Program" "__getitem__") rfl)
  obtain ⟨fd_Program___contains__, F_Program___contains__⟩ := c.t.d.def_ 51 (d := d_Program___contains__) rfl
  have b_Program___contains__ : Binds K fd_Program___contains__ ["self", "x"] [] := F_Program___contains__.bindsN fun _ _ _ _ _ _ us hl => match us, hl with | [_, _], _ => rfl
  have m_Program___contains__ := He.meth_ok (c.t.d.fact 81 (f := .meth "Program" "__contains__") rfl)
  obtain ⟨fd_Outcome_ending, F_Outcome_ending⟩ := PrD.funD (c.pr_ 0 (d := p_Outcome_ending) rfl) (allE c.more 19 rfl)
  have b_Outcome_ending : Binds K fd_Outcome_ending ["self"] [] := F_Outcome_ending.bindsN fun _ _ _ _ _ _ us hl => match us, hl with | [_], _ => rfl
  have q_Outcome_ending := propB_ok (He.ba (show PrD.ok K p_Outcome_ending = true from allE c.more 19 rfl)).1
  obtain ⟨fd_Outcome_events, F_Outcome_events⟩ := PrD.funD (c.pr_ 1 (d := p_Outcome_events) rfl) (allE c.more 20 rfl)
  have b_Outcome_events : Binds K fd_Outcome_events ["self"] [] := F_Outcome_events.bindsN fun _ _ _ _ _ _ us hl => match us, hl with | [_], _ => rfl
  have q_Outcome_events := propB_ok (He.ba (show PrD.ok K p_Outcome_events = true from allE c.more 20 rfl)).1
  have B : Blt mg := ⟨He.free_ok X G (c.t.d.fact 26 (f := .free "isinstance") rfl), He.free_ok X G (c.t.d.fact 27 (f := .free "int") rfl), He.free_ok X G (c.t.d.fact 28 (f := .free "bool") rfl), He.free_ok X G (c.t.d.fact 29 (f := .free "str") rfl), He.free_ok X G (c.t.d.fact 30 (f := .free "len") rfl), He.free_ok X G (c.t.d.fact 31 (f := .free "max") rfl), He.free_ok X G (c.t.d.fact 32 (f := .free "min") rfl), He.free_ok X G (c.t.d.fact 33 (f := .free "range") rfl), He.free_ok X G (c.t.d.fact 34 (f := .free "list") rfl), He.free_ok X G (c.t.d.fact 35 (f := .free "tuple") rfl), He.free_ok X G (c.t.d.fact 36 (f := .free "dict") rfl), He.free_ok X G (c.t.d.fact 37 (f := .free "sorted") rfl), He.free_ok X G (c.t.d.fact 38 (f := .free "enumerate") rfl)⟩
  have hsup := He.free_ok X G (c.t.d.fact 39 (f := .free "super") rfl)
  have g_Program := He.glo_ok X G (c.t.d.fact 40 (f := .glo "Program") rfl)
  have g_World := He.glo_ok X G (c.t.d.fact 41 (f := .glo "World") rfl)
  have g_Outcome := He.glo_ok X G (c.t.d.fact 42 (f := .glo "Outcome") rfl)
  have g_Interpreter := He.glo_ok X G (c.t.d.fact 43 (f := .glo "Interpreter") rfl)
  have g_Failure := He.glo_ok X G (c.t.d.fact 44 (f := .glo "Failure") rfl)
  have g_Stop := He.glo_ok X G (c.t.d.fact 45 (f := .glo "Stop") rfl)
  have k_Program := He.mkr_ok (c.t.d.fact 82 (f := .mkr "Program") rfl)
  have k_World := He.mkr_ok (c.t.d.fact 83 (f := .mkr "World") rfl)
  have k_Outcome := He.mkr_ok (c.t.d.fact 84 (f := .mkr "Outcome") rfl)
  have k_Interpreter := He.mkr_ok (c.t.d.fact 85 (f := .mkr "Interpreter") rfl)
  have i_Interpreter : InsC K (He.ga K "Interpreter") ["own_program", "world", "under"] := ⟨He.cls_ok (c.t.d.fact 46 (f := .cls "Interpreter") rfl), List.forall_mem_cons.mpr ⟨He.noat_ok (c.t.d.fact 48 (f := .noat "Interpreter" "own_program") rfl), List.forall_mem_cons.mpr ⟨He.noat_ok (c.t.d.fact 49 (f := .noat "Interpreter" "world") rfl), List.forall_mem_cons.mpr ⟨He.noat_ok (c.t.d.fact 50 (f := .noat "Interpreter" "under") rfl), fun _ z => nomatch z⟩⟩⟩⟩
  have i_World : InsC K (He.ga K "World") ["left", "statuses", "bindings", "lines", "happened"] := ⟨He.cls_ok (c.t.d.fact 47 (f := .cls "World") rfl), List.forall_mem_cons.mpr ⟨He.noat_ok (c.t.d.fact 51 (f := .noat "World" "left") rfl), List.forall_mem_cons.mpr ⟨He.noat_ok (c.t.d.fact 52 (f := .noat "World" "statuses") rfl), List.forall_mem_cons.mpr ⟨He.noat_ok (c.t.d.fact 53 (f := .noat "World" "bindings") rfl), List.forall_mem_cons.mpr ⟨He.noat_ok (c.t.d.fact 54 (f := .noat "World" "lines") rfl), List.forall_mem_cons.mpr ⟨He.noat_ok (c.t.d.fact 55 (f := .noat "World" "happened") rfl), fun _ z => nomatch z⟩⟩⟩⟩⟩⟩
  have x_0 := He.exm_ok (c.t.d.fact 86 (f := .exm "Failure" "Failure" true) rfl)
  have x_1 := He.exm_ok (c.t.d.fact 87 (f := .exm "Stop" "Failure" false) rfl)
  have x_2 := He.exm_ok (c.t.d.fact 88 (f := .exm "Stop" "Stop" true) rfl)
  have gk_MAX_LETTERS : GI mg "MAX_LETTERS" 8 := by obtain ⟨t, e⟩ := He.int_ok X G (c.t.d.fact 89 (f := .int "MAX_LETTERS" 8) rfl); exact ⟨_, e, ⟨t, rfl⟩⟩
  have gk_MAX_MODULES : GI mg "MAX_MODULES" 8 := by obtain ⟨t, e⟩ := He.int_ok X G (c.t.d.fact 90 (f := .int "MAX_MODULES" 8) rfl); exact ⟨_, e, ⟨t, rfl⟩⟩
  have gk_MAX_STATEMENTS : GI mg "MAX_STATEMENTS" 60 := by obtain ⟨t, e⟩ := He.int_ok X G (c.t.d.fact 91 (f := .int "MAX_STATEMENTS" 60) rfl); exact ⟨_, e, ⟨t, rfl⟩⟩
  have gk_MAX_DEPTH : GI mg "MAX_DEPTH" 3 := by obtain ⟨t, e⟩ := He.int_ok X G (c.t.d.fact 92 (f := .int "MAX_DEPTH" 3) rfl); exact ⟨_, e, ⟨t, rfl⟩⟩
  have gk_MAX_OPERATORS : GI mg "MAX_OPERATORS" 3 := by obtain ⟨t, e⟩ := He.int_ok X G (c.t.d.fact 93 (f := .int "MAX_OPERATORS" 3) rfl); exact ⟨_, e, ⟨t, rfl⟩⟩
  have gk_TOO_LARGE : GI mg "TOO_LARGE" 1000000000000000000000000000000000000000000000000000000000000 := by obtain ⟨t, e⟩ := He.int_ok X G (c.t.d.fact 94 (f := .int "TOO_LARGE" 1000000000000000000000000000000000000000000000000000000000000) rfl); exact ⟨_, e, ⟨t, rfl⟩⟩
  have gk_MAX_LIMIT : GI mg "MAX_LIMIT" 30 := by obtain ⟨t, e⟩ := He.int_ok X G (c.t.d.fact 95 (f := .int "MAX_LIMIT" 30) rfl); exact ⟨_, e, ⟨t, rfl⟩⟩
  have gk_LETTERS : GS mg "LETTERS" "abcdefghijklmnopqrstuvwxyz" := by obtain ⟨t, e⟩ := He.str_ok X G (c.t.d.fact 96 (f := .str "LETTERS" "abcdefghijklmnopqrstuvwxyz") rfl); exact ⟨_, e, ⟨t, rfl⟩⟩
  have gk_ABSENT : GS mg "ABSENT" "absent" := by obtain ⟨t, e⟩ := He.str_ok X G (c.t.d.fact 97 (f := .str "ABSENT" "absent") rfl); exact ⟨_, e, ⟨t, rfl⟩⟩
  have gk_RUNNING : GS mg "RUNNING" "running" := by obtain ⟨t, e⟩ := He.str_ok X G (c.t.d.fact 98 (f := .str "RUNNING" "running") rfl); exact ⟨_, e, ⟨t, rfl⟩⟩
  have gk_DONE : GS mg "DONE" "done" := by obtain ⟨t, e⟩ := He.str_ok X G (c.t.d.fact 99 (f := .str "DONE" "done") rfl); exact ⟨_, e, ⟨t, rfl⟩⟩
  have gk_STOPPED : GS mg "STOPPED" "stopped" := by obtain ⟨t, e⟩ := He.str_ok X G (c.t.d.fact 100 (f := .str "STOPPED" "stopped") rfl); exact ⟨_, e, ⟨t, rfl⟩⟩
  have gg_LOADS := He.glo_ok X G (c.t.d.fact 101 (f := .glo "LOADS") rfl)
  have e_0 : (sclB K (He.ga K "Program")) = true := allE c.more 0 rfl
  have e_1 : (slotB K (He.ga K "Program") "own_names" 1) = true := allE c.more 1 rfl
  have e_2 : (slotB K (He.ga K "Program") "own_blocks" 0) = true := allE c.more 2 rfl
  have e_3 : (sclB K (He.ga K "Outcome")) = true := allE c.more 3 rfl
  have e_4 : (slotB K (He.ga K "Outcome") "own_ending" 0) = true := allE c.more 4 rfl
  have e_5 : (slotB K (He.ga K "Outcome") "own_shown" 2) = true := allE c.more 5 rfl
  have e_6 : (slotB K (He.ga K "Outcome") "own_events" 1) = true := allE c.more 6 rfl
  have e_7 : (slotB K (He.ga K "Outcome") "own_trail" 4) = true := allE c.more 7 rfl
  have e_8 : (slotB K (He.ga K "Outcome") "own_spaces" 3) = true := allE c.more 8 rfl
  have e_9 : (SuD.fnB K PP.main.file u_Failure) = true := allE c.more 9 rfl
  have e_10 : (SuD.clB K u_Failure) = true := allE c.more 10 rfl
  have e_11 : (SuD.exB K u_Failure) = true := allE c.more 11 rfl
  have e_12 : (xfB K (He.ga K "Failure")) = true := allE c.more 12 rfl
  have e_13 : (noDf K (SuD.f K u_Failure)) = true := allE c.more 13 rfl
  have e_14 : (SuD.fnB K PP.main.file u_Stop) = true := allE c.more 14 rfl
  have e_15 : (SuD.clB K u_Stop) = true := allE c.more 15 rfl
  have e_16 : (SuD.exB K u_Stop) = true := allE c.more 16 rfl
  have e_17 : (xfB K (He.ga K "Stop")) = true := allE c.more 17 rfl
  have e_18 : (noDf K (SuD.f K u_Stop)) = true := allE c.more 18 rfl
  have e_19 : (PrD.ok K p_Outcome_ending) = true := allE c.more 19 rfl
  have e_20 : (PrD.ok K p_Outcome_events) = true := allE c.more 20 rfl
  have e_21 : (He.tupB K "LOADS" [.str "\x69mport", .str "from", .str "star"]) = true := allE c.more 21 rfl
  have e_22 : (PySem.W.fnIn K (He.ma K (He.ga K "Program") "__getitem__")) = true := allE c.more 22 rfl
  obtain ⟨fd_Failure, D_Failure⟩ := SuD.suDef (P := PP) (c.su_ 0 (d := u_Failure) rfl) e_9
  have X_Failure := SuD.xcls (d := u_Failure) PySem.F.excBase_Exception PySem.W.kxs_Exception (SuD.oex e_11) e_10
  have xf_Failure := xfB_ok e_12
  obtain ⟨fd_Stop, D_Stop⟩ := SuD.suDef (P := PP) (c.su_ 1 (d := u_Stop) rfl) e_14
  have X_Stop := SuD.xcls (d := u_Stop) PySem.F.excBase_Exception PySem.W.kxs_Exception (SuD.oex e_16) e_15
  have xf_Stop := xfB_ok e_17
  have T_Program := (⟨sclB_ok e_0, slotB_ok e_1, slotB_ok e_2⟩ : PrgC K (He.ga K "Program") (He.ma K (He.ga K "Program") "own_names") (He.ma K (He.ga K "Program") "own_blocks"))
  have T_Outcome := (⟨sclB_ok e_3, slotB_ok e_4, slotB_ok e_5, slotB_ok e_6, slotB_ok e_7, slotB_ok e_8⟩ : OutC K (He.ga K "Outcome") (He.ma K (He.ga K "Outcome") "own_ending") (He.ma K (He.ga K "Outcome") "own_shown") (He.ma K (He.ga K "Outcome") "own_events") (He.ma K (He.ga K "Outcome") "own_trail") (He.ma K (He.ga K "Outcome") "own_spaces"))
  have e := hfa.symm.trans g_law
  cases e
  have b := FunD.bindsA (ps := ["_law_script"]) F_law fun _ _ _ _ _ _ us hl => match us, hl with | [_], _ => rfl
  refine ⟨fd_law, fun s v => b s [v] rfl, fun base _ _ => ?_⟩
  have T : CC K (ca K) := ⟨i_Interpreter, i_World, x_0, x_1, x_2⟩
  have c_is_integer : C8.Cal PP w K mg base 1 "is_integer" (sp_is_integer K) [] := mkCal (ok_is_integer F_is_integer B) g_is_integer F_is_integer.kp b_is_integer
  have c_is_name : C8.Cal PP w K mg base 1 "is_name" (sp_is_name K) [] := mkCal (ok_is_name F_is_name B gk_LETTERS gk_MAX_LETTERS) g_is_name F_is_name.kp b_is_name
  have c_blocks_of : C8.Cal PP w K mg base 1 "blocks_of" (sp_blocks_of K) [] := mkCal (ok_blocks_of F_blocks_of B) g_blocks_of F_blocks_of.kp b_blocks_of
  have c_names_of : C8.Cal PP w K mg base 1 "names_of" (sp_names_of K) [] := mkCal (ok_names_of F_names_of B) g_names_of F_names_of.kp b_names_of
  have c_expressions_of : C8.Cal PP w K mg base 1 "expressions_of" (sp_expressions_of K) [] := mkCal (ok_expressions_of F_expressions_of B) g_expressions_of F_expressions_of.kp b_expressions_of
  have c_depth_of : C8.Cal PP w K mg base 1 "depth_of" (sp_depth_of K) [] := mkCal (ok_depth_of F_depth_of B) g_depth_of F_depth_of.kp b_depth_of
  have c_ive : ∀ n, C8.Cal PP w K mg base (n + 2) "is_valid_expression" (sp_is_valid_expression K n) [] := fun n => by
    induction n with
    | zero => exact mkCal (fn_none no_ive) g_is_valid_expression F_is_valid_expression.kp b_is_valid_expression
    | succ n ih => exact mkCal (ok_is_valid_expression F_is_valid_expression B ih c_is_name c_is_integer gk_MAX_OPERATORS gk_TOO_LARGE) g_is_valid_expression F_is_valid_expression.kp b_is_valid_expression
  have c_ivs : C8.Cal PP w K mg base 9 "is_valid_statement" (sp_is_valid_statement K) [] := mkCal (ok_is_valid_statement F_is_valid_statement B c_expressions_of (c_ive 5) c_names_of c_is_name c_depth_of gk_MAX_DEPTH) g_is_valid_statement F_is_valid_statement.kp b_is_valid_statement
  have c_si : ∀ n, C8.Cal PP w K mg base (n + 1) "statements_in" (sp_statements_in K n) [] := fun n => by
    induction n with
    | zero => exact mkCal (fn_none no_si) g_statements_in F_statements_in.kp b_statements_in
    | succ n ih => exact mkCal (ok_statements_in F_statements_in B c_blocks_of ih) g_statements_in F_statements_in.kp b_statements_in
  have c_ff : C8.Cal PP w K mg base 13 "first_fault" (sp_first_fault K) [] := mkCal (ok_first_fault F_first_fault B c_ivs c_is_name (c_si 10) gk_MAX_STATEMENTS gk_MAX_MODULES) g_first_fault F_first_fault.kp b_first_fault
  have kP : C8.Mak PP w K mg base 14 "Program" (ca K).CP (sp_Program___init__ K (ca K).CP) [] := mkMak k_Program g_Program (ok_Program___init__ T_Program F_Program___init__ B c_ff) b_Program___init__
  have og : OwnG PP w K mg base 1 (ca K).CP (sp_Program___contains__ K (ca K).CP) (sp_Program___getitem__ K (ca K).CP) :=
    ⟨⟨_, m_Program___contains__.at_, m_Program___contains__.fn, rawNil (ok_Program___contains__ T_Program F_Program___contains__ B) b_Program___contains__⟩, ⟨_, m_Program___getitem__.at_, e_22, m_Program___getitem__.fn, rawNil (ok_Program___getitem__ T_Program F_Program___getitem__ B) b_Program___getitem__⟩⟩
  have cW := i_World.cls
  have cI := i_Interpreter.cls
  have kW : C8.Mak PP w K mg base 1 "World" (ca K).CW (sp_World___init__ K (ca K).CW) [] := mkMak k_World g_World (ok_World___init__ i_World F_World___init__ B) b_World___init__
  have mTold : C8.Met PP w K mg base 1 (ca K).CW "told_status" (sp_World_told_status K (ca K).CW) [] := mkMet cW m_World_told_status (ok_World_told_status i_World F_World_told_status B gk_ABSENT) b_World_told_status
  have mToldH : MetH PP w K mg base 1 (ca K).CW "told_status" (sp_World_told_status K (ca K).CW) := mkMetH cW m_World_told_status (ok_World_told_statusH i_World F_World_told_status B gk_ABSENT) b_World_told_status
  have mEnter : C8.Met PP w K mg base 1 (ca K).CW "enter" (sp_World_enter K (ca K).CW) [] := mkMet cW m_World_enter (ok_World_enter i_World F_World_enter B gk_RUNNING) b_World_enter
  have mLeave : C8.Met PP w K mg base 1 (ca K).CW "leave" (sp_World_leave K (ca K).CW) [] := mkMet cW m_World_leave (ok_World_leave i_World F_World_leave B gk_DONE) b_World_leave
  have mMeet : C8.Met PP w K mg base 2 (ca K).CW "meet" (sp_World_meet K (ca K).CW) [] := mkMet cW m_World_meet (ok_World_meet i_World F_World_meet B mTold gk_RUNNING gk_ABSENT) b_World_meet
  have mFail : MetH PP w K mg base 1 (ca K).CW "fail" (sp_World_fail K (ca K).CW) := mkMetH cW m_World_fail (ok_World_fail i_World F_World_fail B gk_ABSENT) b_World_fail
  have kO : C8.Mak PP w K mg base 1 "Outcome" (He.ga K "Outcome") (sp_Outcome___init__ K (He.ga K "Outcome")) [] := mkMak k_Outcome g_Outcome (ok_Outcome___init__ T_Outcome F_Outcome___init__ B) b_Outcome___init__
  have kOH : MakH PP w K mg base 1 "Outcome" (He.ga K "Outcome") (sp_Outcome___init__ K (He.ga K "Outcome")) := mkMakH k_Outcome g_Outcome (ok_Outcome___init__H T_Outcome F_Outcome___init__ B) b_Outcome___init__
  have mOut : C8.Met PP w K mg base 3 (ca K).CW "outcome" (sp_World_outcome K (ca K).CW (He.ga K "Outcome")) [] := mkMet cW m_World_outcome (ok_World_outcome i_World F_World_outcome B kO mTold gk_ABSENT) b_World_outcome
  have mOutH : MetH PP w K mg base 3 (ca K).CW "outcome" (sp_World_outcome K (ca K).CW (He.ga K "Outcome")) := mkMetH cW m_World_outcome (ok_World_outcomeH i_World F_World_outcome B kOH mToldH gk_ABSENT) b_World_outcome
  have xF : XMk PP w K mg base 1 "Failure" (ca K).CF ["kind", "places"] := ⟨⟨_, fd_Failure, _, _, _, _, X_Failure, ini_Failure D_Failure X_Failure hsup, bnd_Failure D_Failure e_13, g_Failure⟩⟩
  have xS : XMk PP w K mg base 1 "Stop" (ca K).CS ["places"] := ⟨⟨_, fd_Stop, _, _, _, _, X_Stop, ini_Stop D_Stop X_Stop hsup, bnd_Stop D_Stop e_18, g_Stop⟩⟩
  have noK : PySem.W.findIn K (.ref (ca K).CF) "kind" = some none := X_Failure.no _ (List.mem_cons_self ..)
  have noP : PySem.W.findIn K (.ref (ca K).CF) "places" = some none := X_Failure.no _ (List.mem_cons_of_mem _ (List.mem_cons_self ..))
  have noS : PySem.W.findIn K (.ref (ca K).CS) "places" = some none := X_Stop.no _ (List.mem_cons_self ..)
  have mRef : MetN PP w K mg base 3 (ca K).CI "refuse" (sp_Interpreter_refuse K (ca K)) := mkMetN cI m_Interpreter_refuse (ok_Interpreter_refuse T F_Interpreter_refuse B xF) b_Interpreter_refuse
  have mTake : MetN PP w K mg base 3 (ca K).CI "take_block" (sp_Interpreter_take_block K (ca K)) := mkMetN cI m_Interpreter_take_block (ok_Interpreter_take_block T F_Interpreter_take_block B xS) b_Interpreter_take_block
  have mRead : MetN PP w K mg base 4 (ca K).CI "read" (sp_Interpreter_read K (ca K)) := mkMetN cI m_Interpreter_read (ok_Interpreter_read T F_Interpreter_read B mRef) b_Interpreter_read
  have mBind : MetN PP w K mg base 1 (ca K).CI "bind" (sp_Interpreter_bind K (ca K)) := mkMetN cI m_Interpreter_bind (ok_Interpreter_bind T F_Interpreter_bind B) b_Interpreter_bind
  have mChoice : MetN PP w K mg base 4 (ca K).CI "choice" (sp_Interpreter_choice K (ca K)) := mkMetN cI m_Interpreter_choice (ok_Interpreter_choice T F_Interpreter_choice B c_is_integer mRef) b_Interpreter_choice
  have mBlk : MetN PP w K mg base 3 (ca K).CI "block_of" (sp_Interpreter_block_of K (ca K)) := mkMetN cI m_Interpreter_block_of (ok_Interpreter_block_of T F_Interpreter_block_of B og) b_Interpreter_block_of
  have mBL : MetN PP w K mg base 5 (ca K).CI "bind_loaded" (sp_Interpreter_bind_loaded K (ca K)) := mkMetN cI m_Interpreter_bind_loaded (ok_Interpreter_bind_loaded T F_Interpreter_bind_loaded B mBind mRead) b_Interpreter_bind_loaded
  have mVal : ∀ n, MetN PP w K mg base (n + 5) (ca K).CI "value" (sp_Interpreter_value K (ca K) n) := fun n => by
    induction n with
    | zero => exact mkMetN cI m_Interpreter_value (fn_noneX no_val) b_Interpreter_value
    | succ n ih => exact mkMetN cI m_Interpreter_value (ok_Interpreter_value T F_Interpreter_value B c_is_integer mRef ih mRead) b_Interpreter_value
  have hL : ∀ H, SqT K H (He.ga K "LOADS") [.str "\x69mport", .str "from", .str "star"] := fun H => He.tupB_ok e_21 H
  have mAll : ∀ n, MetN PP w K mg base (n + 20) (ca K).CI "go" (sp_Interpreter_go K (ca K) n) ∧ MetN PP w K mg base (n + 18) (ca K).CI "load" (sp_Interpreter_load K (ca K) n) := fun n => by
    induction n using Nat.strongRecOn with
    | _ n ih =>
      have goL : ∀ k, 3 ≤ k → MetN PP w K mg base (n + 17) (ca K).CI "go" (sp_goL K (ca K) n k) := fun k hk => by
        by_cases hh : k ≤ n
        · exact ((ih (n - k) (by omega)).1.mono (by omega)).imp fun vs H Q E z => z.2
        · exact mkMetN cI m_Interpreter_go (fn_noneX fun vs H Q E z => hh z.1) b_Interpreter_go
      have mLoad : MetN PP w K mg base (n + 18) (ca K).CI "load" (sp_Interpreter_load K (ca K) n) := mkMetN cI m_Interpreter_load (ok_Interpreter_load T F_Interpreter_load B mLeave og (goL 3 (by omega)) g_Failure mFail mEnter mTake mMeet mRef) b_Interpreter_load
      have mCall : MetN PP w K mg base (n + 18) (ca K).CI "call" (sp_Interpreter_call K (ca K) n) := mkMetN cI m_Interpreter_call (ok_Interpreter_call T F_Interpreter_call B mBlk (goL 3 (by omega)) mTake c_is_integer mRef) b_Interpreter_call
      have mAtt : MetN PP w K mg base (n + 18) (ca K).CI "attempt" (sp_Interpreter_attempt K (ca K) n) := mkMetN cI m_Interpreter_attempt (ok_Interpreter_attempt T F_Interpreter_attempt B (goL 3 (by omega)) g_Failure xf_Failure noK) b_Interpreter_attempt
      have mStep : MetN PP w K mg base (n + 19) (ca K).CI "step" (sp_Interpreter_step K (ca K) n) := mkMetN cI m_Interpreter_step (ok_Interpreter_step T hL ⟨_, gg_LOADS, rfl⟩ F_Interpreter_step B mBL mLoad (mVal 10) mBind mRead mCall (goL 3 (by omega)) mChoice mAtt mRef) b_Interpreter_step
      exact ⟨mkMetN cI m_Interpreter_go (ok_Interpreter_go T F_Interpreter_go B mStep) b_Interpreter_go, mLoad⟩
  have kI : C8.Mak PP w K mg base 3 "Interpreter" (ca K).CI (sp_Interpreter___init__ K (ca K)) [] := mkMak k_Interpreter g_Interpreter (ok_Interpreter___init__ T F_Interpreter___init__ B kW) b_Interpreter___init__
  have c_cl : C8.Cal PP w K mg base 2 "check_limit" (sp_check_limit K) [] := mkCal (ok_check_limit F_check_limit B c_is_integer gk_MAX_LIMIT) g_check_limit F_check_limit.kp b_check_limit
  have ckR : CalK PP w K mg base 215 "run" (sp_run K (ca K) (He.ga K "Outcome")) 2 ["limit"] (fun vs zs => vs ++ zs) := by
    obtain ⟨g, hb⟩ := bnd_run F_run
    exact ⟨⟨_, fd_run, _, g, ok_run T F_run B mOut (mAll 195).2 g_Stop xf_Stop noS mOutH g_Failure xf_Failure noP noK kI c_cl og gk_DONE gk_STOPPED, g_run, F_run.kp, hb⟩⟩
  have c_mx : C8.Cal PP w K mg base 1 "_law_mix" (sp_law_mix K) [] := mkCal (ok_law_mix F_law_mix B) g_law_mix F_law_mix.kp b_law_mix
  have c_nx : C8.Cal PP w K mg base 1 "_law_next" (sp_law_next K) [] := mkCal (ok_law_next F_law_next B) g_law_next F_law_next.kp b_law_next
  have c_nm : C8.Cal PP w K mg base 2 "_law_name" (sp_law_name K) [] := mkCal (ok_law_name F_law_name B c_nx) g_law_name F_law_name.kp b_law_name
  have c_ns : C8.Cal PP w K mg base 3 "_law_names" (sp_law_names K) [] := mkCal (ok_law_names F_law_names B c_nx c_nm) g_law_names F_law_names.kp b_law_names
  have c_in : C8.Cal PP w K mg base 2 "_law_integer" (sp_law_integer K) [] := mkCal (ok_law_integer F_law_integer B c_nx) g_law_integer F_law_integer.kp b_law_integer
  have c_ex : ∀ n, C8.Cal PP w K mg base (n + 2) "_law_expr" (sp_law_expr K n) [] := fun n => by
    induction n with
    | zero => exact mkCal (fn_none no_lex) g_law_expr F_law_expr.kp b_law_expr
    | succ n ih => exact mkCal (ok_law_expr F_law_expr B c_in c_nx ih) g_law_expr F_law_expr.kp b_law_expr
  have c_ld : C8.Cal PP w K mg base 2 "_law_load" (sp_law_load K) [] := mkCal (ok_law_load F_law_load B c_nx) g_law_load F_law_load.kp b_law_load
  have c_st : ∀ n, C8.Cal PP w K mg base (2 * n + 10) "_law_statement" (sp_law_statement K n) [] := fun n => by
    induction n with
    | zero => exact mkCal (fn_none no_lst) g_law_statement F_law_statement.kp b_law_statement
    | succ n ih =>
      have cr : C8.Cal PP w K mg base (2 * n + 11) "_law_rows" (sp_law_rows K n) [] := mkCal (ok_law_rows F_law_rows B c_nx ih) g_law_rows F_law_rows.kp b_law_rows
      exact mkCalE (ok_law_statement F_law_statement B c_nx (c_ex 5) cr c_in c_ld) (by omega) g_law_statement F_law_statement.kp b_law_statement
  have c_rows : C8.Cal PP w K mg base 17 "_law_rows" (sp_law_rows K 3) [] := mkCal (ok_law_rows F_law_rows B c_nx (c_st 3)) g_law_rows F_law_rows.kp b_law_rows
  have c_fr : C8.Cal PP w K mg base 18 "_law_first_rows" (sp_law_first_rows K) [] := mkCal (ok_law_first_rows F_law_first_rows B c_rows c_in c_nx) g_law_first_rows F_law_first_rows.kp b_law_first_rows
  have c_pg : C8.Cal PP w K mg base 19 "_law_program" (sp_law_program K) [] := mkCal (ok_law_program F_law_program B c_fr c_rows c_ns) g_law_program F_law_program.kp b_law_program
  have c_wk : C8.Cal PP w K mg base 1 "_law_walked" (sp_law_walked K) [] := mkCal (ok_law_walked F_law_walked B) g_law_walked F_law_walked.kp b_law_walked
  have c_al0 : C8.Cal PP w K mg base 1 "_law_alike" sp_no [] := mkCal (fn_none fun vs H Q E z => z) g_law_alike F_law_alike.kp b_law_alike
  have c_al : C8.Cal PP w K mg base 2 "_law_alike" (sp_law_alike K) [] := mkCal (ok_law_alike F_law_alike B c_al0) g_law_alike F_law_alike.kp b_law_alike
  have sO := T_Outcome.c
  have pEnd : PSl PP w K mg base 1 (He.ga K "Outcome") "ending" (sp_Outcome_ending K (He.ga K "Outcome")) := ⟨⟨_, _, sO, q_Outcome_ending.1, q_Outcome_ending.2.1, q_Outcome_ending.2.2.1, q_Outcome_ending.2.2.2, rawNil (ok_Outcome_ending T_Outcome F_Outcome_ending B) b_Outcome_ending⟩⟩
  have pEv : PSl PP w K mg base 1 (He.ga K "Outcome") "events" (sp_Outcome_events K (He.ga K "Outcome")) := ⟨⟨_, _, sO, q_Outcome_events.1, q_Outcome_events.2.1, q_Outcome_events.2.2.1, q_Outcome_events.2.2.2, rawNil (ok_Outcome_events T_Outcome F_Outcome_events B) b_Outcome_events⟩⟩
  have sSt : MSl PP w K mg base 1 (He.ga K "Outcome") "status" (sp_Outcome_status K (He.ga K "Outcome")) := ⟨⟨_, sO, m_Outcome_status, rawNil (ok_Outcome_status T_Outcome F_Outcome_status B gk_ABSENT) b_Outcome_status⟩⟩
  exact ok_law T F_law B sSt c_al pEnd pEv c_wk kP ckR c_nx c_pg c_mx
end M


open PySem PySem.W PySem.Calls PyProof.Rows
theorem PySem.Challenge.cw_modlink_k07_whole_events_holds : PySem.Challenge.rw_modlink_k07_whole_events.Holds := by
  w_on; o_law
  refine HandSHeadRun.head_any (r := OpenLaw.row PySem.Challenge.rw_modlink_k07_whole_events) (q := view (OpenLaw.row PySem.Challenge.rw_modlink_k07_whole_events).prog [55]) (H := M.hk) (ob := M.ob) (M := 30000) (loose := M.nms) (d := HandSHeadRun.topDef (OpenLaw.row PySem.Challenge.rw_modlink_k07_whole_events).prog 55) (kwd := []) M.ob_eq
    (by kernel_rfl) (fun s => by kernel_rfl) M.run (by kernel_rfl) (by kernel_rfl) (by kernel_rfl) (by rfl) (by first | assumption | decide +kernel) (by decide +kernel) ⟨rfl, rfl, rfl, rfl, rfl, by decide +kernel⟩ ?hw ?hc
  case hw => w_witness2
  case hc =>
    refine L2.walk_ofE (l := PySem.Challenge.rw_modlink_k07_whole_events) (n := 63) (k := 216) (x := "_law_script") (CX := L2.CX0) rfl (by decide) (by kernel_rfl) ⟨rfl, by decide, by decide⟩ ?F (fun _ _ _ _ z => z)
    intro w mg fa h Y G hmg0
    obtain ⟨K, KX, c⟩ := Y
    have hmg : mg ("law" : PySem.Str) = some (.ref fa) := by
      have e : (HandSHeadRun.topDef (OpenLaw.row PySem.Challenge.rw_modlink_k07_whole_events).prog 55).name = ("law" : PySem.Str) := by kernel_rfl
      rw [← e]
      exact hmg0
    obtain ⟨fd, hb, hF⟩ := M.facts (w := w) KX G hmg c
    exact ⟨K, fd, M.sp_law K, KX, hb, fun H a ns hl _ hS => ⟨a, ns, rfl, hS, hl, fun _ => rfl⟩, hF⟩
