import PyProof.Rows.All
import Wide.All
import OpenK.AllK
import Wide.FinOn
import KE.KStateDown
import Lean
import HandS.ForMost
import HandS.More
import HandS.Conv
import HandS.Codes
import HandS.IsInst
import HandS.FStr
import HandS.Style
import HandS.TupAny
import HandS.Wide
import HandS.Flow
import HandS.Defaults
import HandS.WordsExc
import HandS.Head0
import HandS.Head1
import HandS.Head2
import HandS.HeadEnd
import HandS.HeadHook1
import HandS.HeadHook2
import HandS.HeadHook3
import PyProof.Rows.MatchSeqLen
import HandS.HeadHook4
import PySem.Challenge.RW_modlink_k17_blocks_written
set_option Elab.async false
set_option linter.all false
set_option maxRecDepth 100000
set_option maxHeartbeats 4000000
namespace M
open PySem PySem.Spec PyProof.Rows L2

/-! ### heaps that grow -/
structure Keep (S : List Addr) (H H' : Hp) : Prop where
  obj : ∀ b u, b ∉ S → H b = some u → H' b = some u
  tup : ∀ b xs, H b = some (.tup xs) → H' b = some (.tup xs)
  frz : ∀ b o u, H b = some (.frz o u) → H' b = some (.frz o u)
  dom : ∀ b u, H b = some u → ∃ u', H' b = some u'
theorem Keep.refl (S : List Addr) (H : Hp) : Keep S H H := ⟨fun _ _ _ e => e, fun _ _ e => e, fun _ _ _ e => e, fun _ u e => ⟨u, e⟩⟩
theorem Keep.trans {S : List Addr} {H H1 H2 : Hp} (a : Keep S H H1) (b : Keep S H1 H2) : Keep S H H2 :=
  ⟨fun c u n e => b.obj c u n (a.obj c u n e), fun c xs e => b.tup c xs (a.tup c xs e), fun c o u e => b.frz c o u (a.frz c o u e), fun c u e => let ⟨_, e1⟩ := a.dom c u e; b.dom c _ e1⟩
theorem Keep.mono {S T : List Addr} {H H1 : Hp} (a : Keep S H H1) (h : ∀ b ∈ S, b ∈ T) : Keep T H H1 :=
  ⟨fun c u n e => a.obj c u (fun z => n (h c z)) e, a.tup, a.frz, a.dom⟩
theorem Keep.nil {T : List Addr} {H H1 : Hp} (a : Keep [] H H1) : Keep T H H1 := a.mono (fun _ h => nomatch h)
theorem Keep.step {S T : List Addr} {H H1 H2 : Hp} (a : Keep S H H1) (b : Keep T H1 H2) (h : ∀ x ∈ T, x ∈ S ∨ H x = none) : Keep S H H2 := by
  refine ⟨fun c u n e => b.obj c u (fun z => ?_) (a.obj c u n e), fun c xs e => b.tup c xs (a.tup c xs e), fun c o u e => b.frz c o u (a.frz c o u e), fun c u e => let ⟨_, e1⟩ := a.dom c u e; b.dom c _ e1⟩
  rcases h c z with q | q
  · exact n q
  · rw [q] at e; cases e
theorem Keep.step0 {S : List Addr} {H H1 H2 : Hp} (a : Keep S H H1) (b : Keep [] H1 H2) : Keep S H H2 := a.step b (fun _ h => nomatch h)
theorem Keep.step1 {S : List Addr} {H H1 H2 : Hp} {l : Addr} (a : Keep S H H1) (b : Keep [l] H1 H2) (h : H l = none) : Keep S H H2 := a.step b (fun x m => by simp at m; subst m; exact .inr h)
theorem Keep.back {S : List Addr} {H H1 H2 : Hp} (b : Keep S H1 H2) (a : Keep S H H1) : Keep S H H2 := a.trans b
theorem Keep.back0 {S : List Addr} {H H1 H2 : Hp} (b : Keep [] H1 H2) (a : Keep S H H1) : Keep S H H2 := a.step0 b
theorem Keep.step1' {S : List Addr} {H H1 H2 : Hp} {l : Addr} (a : Keep S H H1) (b : Keep [l] H1 H2) : Keep (l :: S) H H2 := (a.mono (fun x m => List.mem_cons_of_mem _ m)).trans (b.mono (fun x m => by simp at m; subst m; exact List.mem_cons_self))
/-- .. from further back (hidden from the search) -/
structure KC (S : List Addr) (H H' : Hp) : Prop where
  k : Keep S H H'
theorem Keep.new {H : Hp} {p : Addr} {o : HO} (h : H p = none) : Keep [] H (upd H p o) := by
  have z : ∀ b u, H b = some u → upd H p o b = some u := fun b u e => by rw [upd_ne (ne_of_none e h)]; exact e
  exact ⟨fun b u _ e => z b u e, fun b xs e => z b _ e, fun b o u e => z b _ e, fun b u e => ⟨u, z b u e⟩⟩
theorem Keep.put {H : Hp} {l : Addr} {o u : HO} (h : H l = some o) (m : Mut (some o)) : Keep [l] H (upd H l u) := by
  have z : ∀ b v, b ≠ l → H b = some v → upd H l u b = some v := fun b v n e => by rw [upd_ne n]; exact e
  refine ⟨fun b v n e => z b v (fun q => n (by simp [q])) e, fun b xs e => z b _ (fun q => ?_) e, fun b ob v e => z b _ (fun q => ?_) e, fun b v e => ?_⟩
  · rw [q, h] at e; cases e; exact m
  · rw [q, h] at e; cases e; exact m
  · by_cases q : b = l
    · rw [q]; exact ⟨u, upd_same⟩
    · exact ⟨v, z b v q e⟩
theorem Keep.ne {S : List Addr} {H H' : Hp} (k : Keep S H H') {a p : Addr} {u : HO} (h : H a = some u) (n : H' p = none) : a ≠ p := by
  rintro rfl
  obtain ⟨u', e⟩ := k.dom a u h
  rw [n] at e; cases e
theorem Keep.free {S : List Addr} {H H' : Hp} (k : Keep S H H') {p : Addr} (n : H' p = none) : H p = none := by
  cases q : H p with
  | none => rfl
  | some u =>
    obtain ⟨u', e⟩ := k.dom p u q
    rw [n] at e; cases e
theorem Keep.sqT {S : List Addr} {K : PySem.W.Frag} {H H' : Hp} {a : Addr} {xs : List V} (k : Keep S H H') (h : SqT K H a xs) : SqT K H' a xs := by
  rcases h with (h | ⟨o, h⟩) | h
  · exact .inl (.inl (k.tup _ _ h))
  · exact .inl (.inr ⟨o, k.frz _ _ _ h⟩)
  · exact .inr h
theorem Keep.sqL {S : List Addr} {K : PySem.W.Frag} {H H' : Hp} {a : Addr} {xs : List V} (k : Keep S H H') (n : a ∉ S) (h : SqL K H a xs) : SqL K H' a xs := by
  rcases h with (h | ⟨o, h⟩) | h
  · exact .inl (.inl (k.obj _ _ n h))
  · exact .inl (.inr ⟨o, k.frz _ _ _ h⟩)
  · exact .inr h

/-! ### data that never changes -/
mutual
inductive Im (K : PySem.W.Frag) (H : Hp) : V → PyData → Prop
  | non : Im K H .non .none
  | bl (b : Bool) : Im K H (.bl b) (.bool b)
  | int (i : Int) : Im K H (.int i) (.int i)
  | str (x : Str) : Im K H (.str x) (.str x)
  | tup {a : Addr} {xs : List V} {ds : List PyData} : SqT K H a xs → ImAll K H xs ds → Im K H (.ref a) (.tuple ds)
inductive ImAll (K : PySem.W.Frag) (H : Hp) : List V → List PyData → Prop
  | nil : ImAll K H [] []
  | cons {v : V} {vs : List V} {d : PyData} {ds : List PyData} : Im K H v d → ImAll K H vs ds → ImAll K H (v :: vs) (d :: ds)
end
section
variable {K : PySem.W.Frag} {S : List Addr} {H H' : Hp}
mutual
theorem Im.mono (k : Keep S H H') : ∀ {v : V} {d : PyData}, Im K H v d → Im K H' v d
  | _, _, .non => .non
  | _, _, .bl b => .bl b
  | _, _, .int i => .int i
  | _, _, .str x => .str x
  | _, _, .tup h a => .tup (k.sqT h) (ImAll.mono k a)
theorem ImAll.mono (k : Keep S H H') : ∀ {vs : List V} {ds : List PyData}, ImAll K H vs ds → ImAll K H' vs ds
  | _, _, .nil => .nil
  | _, _, .cons h t => .cons (Im.mono k h) (ImAll.mono k t)
end
mutual
theorem Im.dp : ∀ {v : V} {d : PyData}, Im K H v d → Dp K H v d
  | _, _, .non => .non
  | _, _, .bl b => .bl b
  | _, _, .int i => .int i
  | _, _, .str x => .str x
  | _, _, .tup h a => .tup h (ImAll.dp a)
theorem ImAll.dp : ∀ {vs : List V} {ds : List PyData}, ImAll K H vs ds → DpAll K H vs ds
  | _, _, .nil => .nil
  | _, _, .cons h t => .cons (Im.dp h) (ImAll.dp t)
end
theorem Im.of_str {v : V} {x : Str} (h : Im K H v (.str x)) : v = .str x := by cases h; rfl
theorem Im.of_int {v : V} {x : Int} (h : Im K H v (.int x)) : v = .int x := by cases h; rfl
theorem Im.of_tup {v : V} {ds : List PyData} (h : Im K H v (.tuple ds)) : ∃ a xs, v = .ref a ∧ SqT K H a xs ∧ ImAll K H xs ds := by
  cases h with
  | tup h a => exact ⟨_, _, rfl, h, a⟩
theorem ImAll.of_nil {vs : List V} (h : ImAll K H vs []) : vs = [] := by cases h; rfl
theorem ImAll.of_cons {vs : List V} {d : PyData} {ds : List PyData} (h : ImAll K H vs (d :: ds)) : ∃ v r, vs = v :: r ∧ Im K H v d ∧ ImAll K H r ds := by
  cases h with
  | cons h t => exact ⟨_, _, rfl, h, t⟩
theorem ImAll.length : ∀ {vs : List V} {ds : List PyData}, ImAll K H vs ds → vs.length = ds.length
  | _, _, .nil => rfl
  | _, _, .cons _ t => by simp [ImAll.length t]
theorem ImAll.get : ∀ {vs : List V} {ds : List PyData} {i : Nat} {v : V}, ImAll K H vs ds → vs[i]? = some v → ∃ d, ds[i]? = some d ∧ Im K H v d
  | _, _, _, _, .nil, e => by simp at e
  | _, _, 0, _, .cons h _, e => by simp at e; subst e; exact ⟨_, rfl, h⟩
  | _, _, i + 1, _, .cons _ t, e => by
    obtain ⟨d, h1, h2⟩ := ImAll.get (i := i) t (by simpa using e)
    exact ⟨d, by simpa using h1, h2⟩
theorem ImAll.append : ∀ {vs ws : List V} {ds es : List PyData}, ImAll K H vs ds → ImAll K H ws es → ImAll K H (vs ++ ws) (ds ++ es)
  | _, _, _, _, .nil, s => s
  | _, _, _, _, .cons h t, s => .cons h (ImAll.append t s)
end

/-! ### operators over all kinds -/
section
variable {X : Cx}
def rAdd (K : PySem.W.Frag) : R2 := fun x y H Q => (rI0 fun i j => .int (i + j)) x y H Q ∨ ((fun x y H Q => ∃ i j, x = .str i ∧ y = .str j ∧ i.length + j.length ≤ sizeLine ∧ Q (.str (i ++ j)) H) : R2) x y H Q ∨ rCat x y H Q ∨ rCatA K x y H Q
theorem op_addX : OpR X (binaryOp .Add) (rAdd X.K) := OpR.or op_add (OpR.or op_add_str (OpR.or op_cat op_catA))
def rEqX (K : PySem.W.Frag) : R2 := fun x y H Q => rEq x y H Q ∨ rEqD K x y H Q
def rNeX (K : PySem.W.Frag) : R2 := fun x y H Q => rNe x y H Q ∨ rNeD K x y H Q
theorem op_eqX (hu : X.A.units + 64 < cLine) : OpR X (compareOp .Eq) (rEqX X.K) := OpR.or op_eq (op_eqD hu)
theorem op_neX (hu : X.A.units + 64 < cLine) : OpR X (compareOp .NotEq) (rNeX X.K) := OpR.or op_ne (op_neD hu)
abbrev rSubI : R2 := rI0 fun i j => .int (i - j)
abbrev rMulI : R2 := rI CMul fun i j => .int (i * j)
abbrev rDivI : R2 := rI CDivW fun i j => .int (i / j)
abbrev rModI : R2 := rI (fun _ j => 0 < j) fun i j => .int (i % j)
abbrev rPowI : R2 := rI CPow fun i j => .int (i ^ j.toNat)
abbrev rLtI : R2 := rI0 fun i j => .bl (decide (i < j))
abbrev rLeI : R2 := rI0 fun i j => .bl (decide (i ≤ j))
abbrev rGtI : R2 := rI0 fun i j => .bl (decide (j < i))
abbrev rGeI : R2 := rI0 fun i j => .bl (decide (j ≤ i))
abbrev rNegI : V → Hp → VK → Prop := rU fun i => .int (-i)
end
end M

namespace M
open PySem PySem.Spec PyProof.Rows L2

/-! ### match over tuples and lists: literals and captures -/
inductive PEl where
  | lit (x : Str) | cap (i : Nat) | any
def pmV : List PEl → List V → Option (List (Nat × V))
  | .lit x :: ps, v :: vs => if v = .str x then pmV ps vs else none
  | .cap i :: ps, v :: vs => (pmV ps vs).map ((i, v) :: ·)
  | .any :: ps, _ :: vs => pmV ps vs
  | _, _ => some []
def litOk : List PEl → List V → Prop
  | .lit _ :: ps, v :: vs => (∃ y, v = .str y) ∧ litOk ps vs
  | _ :: ps, _ :: vs => litOk ps vs
  | _, _ => True
section
variable {X : Cx}
inductive PPt (X : Cx) : List Pattern → List PEl → Prop
  | nil : PPt X [] []
  | lit {x : Str} {j : Nat} {p pos : Pos} {ps : List Pattern} {es : List PEl} : PPt X ps es → PPt X (.MatchValue (.Constant (.str x) j p) pos :: ps) (.lit x :: es)
  | cap {i : Nat} {n : Str} {pos : Pos} {ps : List Pattern} {es : List PEl} (hi : X.N[i]? = some n) (hx : Loc X.env.scope n) (hf : X.fn n = true ∨ X.env.scope.names.lookup n = some .local) : PPt X ps es → PPt X (.MatchAs none (some n) pos :: ps) (.cap i :: es)
  | any {pos : Pos} {ps : List Pattern} {es : List PEl} : PPt X ps es → PPt X (.MatchAs none none pos :: ps) (.any :: es)
theorem ppt_nil : PPt X [] [] := .nil
theorem ppt_lit {x : Str} {j : Nat} {p pos : Pos} {ps : List Pattern} {es : List PEl} (h : PPt X ps es) : PPt X (.MatchValue (.Constant (.str x) j p) pos :: ps) (.lit x :: es) := .lit h
theorem ppt_cap {i : Nat} {n : Str} {pos : Pos} {ps : List Pattern} {es : List PEl} (hi : X.N[i]? = some n) (hx : Loc X.env.scope n) (h : PPt X ps es)
    (hf : X.fn n = true ∨ X.env.scope.names.lookup n = some .local := by first | exact .inl rfl | exact .inr rfl | assumption) : PPt X (.MatchAs none (some n) pos :: ps) (.cap i :: es) := .cap hi hx hf h
theorem ppt_any {pos : Pos} {ps : List Pattern} {es : List PEl} (h : PPt X ps es) : PPt X (.MatchAs none none pos :: ps) (.any :: es) := .any h
def BsR (X : Cx) (b : Nat × V) (c : Str × Value) : Prop := X.N[b.1]? = some c.1 ∧ Loc X.env.scope c.1 ∧ (X.fn c.1 = true ∨ X.env.scope.names.lookup c.1 = some .local) ∧ RelV b.2 c.2
theorem each_ok {pins : List (Addr × Obj)} {σ : L2.St} {H : Hp} : ∀ {ps : List Pattern} {es : List PEl} {vs : List V} {us : List Value} {s : Shared}, PPt X ps es → Inv X pins σ H s → Vals vs us → litOk es vs → es.length = vs.length →
    wpAny (model X.prog X.w) X.A (matchEach ps X.env us) (fun r s1 => Inv X pins σ H s1 ∧ match pmV es vs with
      | none => r = none
      | some bs => ∃ cs, r = some cs ∧ Paired (BsR X) bs cs) X.xe s := by
  intro ps
  induction ps with
  | nil =>
    intro es vs us s P I r ok hl
    cases P
    exact wpAny_matchEach_nil ⟨I, [], rfl, .nil⟩
  | cons p ps ih =>
    intro es vs us s P I r ok hl
    cases P with
    | @lit x j pp pos _ es P =>
      cases r with
      | nil => simp at hl
      | @cons v u vs us r rs =>
        obtain ⟨⟨y, rfl⟩, ok⟩ := ok
        refine wpAny_matchEach_cons (wpAny_matchPattern_Value (Calls.Constant_str ?_))
        refine thn (op_eq pins _ σ H (.str y) (.str x) _ _ (fun b H' => b = .bl (decide ((V.str y) = .str x)) ∧ H' = H) (I.tok _) r ⟨_, rfl⟩ ⟨rfl, rfl, rfl⟩) fun c s2 ⟨b, H2, I2, rb, e1, e2⟩ => ?_
        subst e1 e2
        cases rb
        refine wpAny_truthy_bool ?_
        by_cases e : (V.str y) = .str x
        · rw [decide_eq_true e]
          refine thn (ih P I2 rs ok (by simpa using hl)) fun r' s3 ⟨I3, q⟩ => ?_
          unfold pmV
          rw [if_pos e]
          cases z : pmV es vs with
          | none =>
            rw [z] at q
            cases q
            exact ⟨I3, rfl⟩
          | some bs =>
            rw [z] at q
            obtain ⟨cs, rfl, pr⟩ := q
            exact ⟨I3, cs, rfl, pr⟩
        · rw [decide_eq_false e]
          unfold pmV
          rw [if_neg e]
          exact ⟨I2, rfl⟩
    | @cap i n pos _ es hi hx hf P =>
      cases r with
      | nil => simp at hl
      | @cons v u vs us r rs =>
        refine wpAny_matchEach_cons (wpAny_matchPattern_Capture ?_)
        refine thn (ih P I rs ok (by simpa using hl)) fun r' s3 ⟨I3, q⟩ => ?_
        unfold pmV
        cases z : pmV es vs with
        | none =>
          rw [z] at q
          cases q
          exact ⟨I3, rfl⟩
        | some bs =>
          rw [z] at q
          obtain ⟨cs, rfl, pr⟩ := q
          exact ⟨I3, _, rfl, .cons ⟨hi, hx, hf, r⟩ pr⟩
    | @any pos _ es P =>
      cases r with
      | nil => simp at hl
      | @cons v u vs us r rs =>
        refine wpAny_matchEach_cons (wpAny_matchPattern_Capture ?_)
        refine thn (ih P I rs ok (by simpa using hl)) fun r' s3 ⟨I3, q⟩ => ?_
        unfold pmV
        cases z : pmV es vs with
        | none =>
          rw [z] at q
          cases q
          exact ⟨I3, rfl⟩
        | some bs =>
          rw [z] at q
          obtain ⟨cs, rfl, pr⟩ := q
          exact ⟨I3, _, rfl, pr⟩
def bindsV (σ : L2.St) : List (Nat × V) → L2.St
  | [] => σ
  | b :: bs => bindsV (σ.set b.1 (some b.2)) bs
theorem binds_ok {pins : List (Addr × Obj)} {H : Hp} (hN : X.N.Nodup) : ∀ {bs : List (Nat × V)} {cs : List (Str × Value)} {σ : L2.St} {s : Shared}, Paired (BsR X) bs cs → Inv X pins σ H s →
    wpAny (model X.prog X.w) X.A (assignInOrder (cs.map fun (n, _) => bindName X.env n) (cs.map (·.2))) (fun _ s' => Inv X pins (bindsV σ bs) H s') X.xe s
  | _, _, _, _, .nil, I => wpAny_assignInOrder_none I
  | b :: bs, _, σ, _, .cons ⟨hi, hx, hf, r⟩ pr, I => by
    have go : ∀ s1, Inv X pins (σ.set b.1 (some b.2)) H s1 → _ := fun s1 I1 => binds_ok (bs := bs) (σ := σ.set b.1 (some b.2)) hN pr I1
    exact wpAny_assignInOrder_more (wpAny_bindName (store_ok I hN hi hx r (fun s1 I1 => go s1 I1) hf))
/-- the cases: none is «case _» -/
def tCases : List (Option (List PEl) × TS) → List V → TS
  | [], _ => fun D σ H => D.nx σ H
  | (none, t) :: _, _ => t
  | (some es, t) :: r, xs => fun D σ H => if es.length = xs.length then litOk es xs ∧ (match pmV es xs with
    | some bs => t D (bindsV σ bs) H
    | none => tCases r xs D σ H) else tCases r xs D σ H
inductive PCs (X : Cx) : List MatchCase → List (Option (List PEl) × TS) → Prop
  | nil : PCs X [] []
  | any {pos : Pos} {body : List Stmt} {rest : List MatchCase} {t : TS} {r : List (Option (List PEl) × TS)} : PSs X body t → PCs X rest r → PCs X (⟨.MatchAs none none pos, none, body⟩ :: rest) ((none, t) :: r)
  | cons {ps : List Pattern} {pos : Pos} {body : List Stmt} {rest : List MatchCase} {es : List PEl} {t : TS} {r : List (Option (List PEl) × TS)} : PPt X ps es → ps.findIdx? (·.isStar) = none →
      (ps.all fun p => p.isWildcard || (p.isStar && p.names.isEmpty)) = false → PSs X body t → PCs X rest r → PCs X (⟨.MatchSequence ps pos, none, body⟩ :: rest) ((some es, t) :: r)
theorem pcs_nil : PCs X [] [] := .nil
theorem pcs_any {pos : Pos} {body : List Stmt} {rest : List MatchCase} {t : TS} {r : List (Option (List PEl) × TS)} (h : PSs X body t) (k : PCs X rest r) : PCs X (⟨.MatchAs none none pos, none, body⟩ :: rest) ((none, t) :: r) := .any h k
theorem pcs_cons {ps : List Pattern} {pos : Pos} {body : List Stmt} {rest : List MatchCase} {es : List PEl} {t : TS} {r : List (Option (List PEl) × TS)} (h : PPt X ps es) (b : PSs X body t) (k : PCs X rest r)
    (h1 : ps.findIdx? (·.isStar) = none := by rfl) (h2 : (ps.all fun p => p.isWildcard || (p.isStar && p.names.isEmpty)) = false := by rfl) : PCs X (⟨.MatchSequence ps pos, none, body⟩ :: rest) ((some es, t) :: r) := .cons h h1 h2 b k
theorem ppt_length : ∀ {ps : List Pattern} {es : List PEl}, PPt X ps es → ps.length = es.length
  | _, _, .nil => rfl
  | _, _, .lit h => by simp [ppt_length h]
  | _, _, .cap _ _ _ h => by simp [ppt_length h]
  | _, _, .any h => by simp [ppt_length h]
theorem cases_ok {pins : List (Addr × Obj)} {σ : L2.St} {H : Hp} {a : Addr} {xs : List V} {D : Ends} (hc : X.calm = true) (hN : X.N.Nodup) (hq : SqT X.K H a xs) : ∀ {cs : List MatchCase} {ts : List (Option (List PEl) × TS)} {s : Shared} {b : Bool}, PCs X cs ts → Inv X pins σ H s → tCases ts xs D σ H →
    wpAny (model X.prog X.w) X.A (matchCases cs X.env (.ref a) b) (SP X pins D) X.xe s
  | _, _, _, _, .nil, I, h => wpAny_matchCases_nil ⟨σ, H, I, h⟩
  | _, _, _, _, .any B _, I, h => wpAny_matchCases_cons (wpAny_matchPattern_Capture (wpAny_assignInOrder_none (B.run _ _ _ _ _ I h)))
  | _, _, s, _, @PCs.cons _ ps pos body rest es t r P h1 h2 B C, I, h => by
    obtain ⟨its, rv, p, hz⟩ := I.tuple hq
    have hl := rv.length
    have fit : ((its.toArray.size : Nat) : Int) < 2 ^ 63 := by
      have := sizeLine_eq
      simp only [List.size_toArray]
      omega
    unfold tCases at h
    have pl := ppt_length P
    refine wpAny_matchCases_cons ?_
    by_cases e : es.length = xs.length
    · rw [if_pos e] at h
      obtain ⟨ok, h⟩ := h
      have en : its.toArray.size = ps.length := by simp; omega
      refine matchSeq_tuple_hit p fit en ?_ h1 h2
      rw [← en]
      refine unpackItems_tuple (I.ok.hd hc) p fun h' hx => ?_
      have I1 : Inv X pins σ H { s with heap := h', toks := s.toks + 1 + 1 } := (I.kept (t' := s.toks + 1 + 1) fun b o e => hx b o (Nat.ne_of_lt (Heap.lt_size e)) e)
      refine thn (each_ok P I1 (by simpa using rv) ok e) fun r' s2 ⟨I2, q⟩ => ?_
      cases z : pmV es xs with
      | none =>
        rw [z] at q h
        cases q
        exact cases_ok hc hN hq C I2 h
      | some bs =>
        rw [z] at q h
        obtain ⟨cs, rfl, pr⟩ := q
        exact thn (binds_ok hN pr I2) fun _ s3 I3 => B.run _ _ _ _ _ I3 h
    · rw [if_neg e] at h
      refine matchSeq_tuple_miss p fit (by simp; omega) ?_ h1 h2
      exact cases_ok hc hN hq C (I.tok _) h
def tMatch (K : PySem.W.Frag) (te : TE) (cs : List (Option (List PEl) × TS)) : TS := fun D σ H => te σ H fun x H1 => ∃ a xs, x = .ref a ∧ SqT K H1 a xs ∧ tCases cs xs D σ H1
theorem ps_match {e : Expr} {te : TE} {cases : List MatchCase} {cs : List (Option (List PEl) × TS)} {pos : Pos} (hc : X.calm = true) (hN : X.N.Nodup) (he : PE X e te) (h : PCs X cases cs) : PS X (.Match e cases pos) (tMatch X.K te cs) := by
  refine ⟨fun pins s σ H D I hw => ?_⟩
  refine wpAny_Match (thn (he.run pins s σ H _ I hw) fun v s1 ⟨x, H1, I1, r1, q1⟩ => ?_)
  obtain ⟨a, xs, rfl, hq, q⟩ := q1
  cases r1
  exact cases_ok hc hN hq h I1 q
end
end M

namespace M
open PySem PySem.Spec PyProof.Rows L2

/-! ### the built-in names, unbound in the module -/
structure Blt (mg : Str → Option Value) : Prop where
  isinstance : mg "isinstance" = none
  int : mg "int" = none
  bool : mg "bool" = none
  str : mg "str" = none
  len : mg "len" = none
  max : mg "max" = none
  min : mg "min" = none
  range : mg "range" = none
  list : mg "list" = none
  tuple : mg "tuple" = none
  dict : mg "dict" = none
  sorted : mg "sorted" = none
  enumerate : mg "enumerate" = none
theorem bt_isinstance : bootBuiltins "isinstance" = some (.builtin "isinstance") := by decide +kernel
theorem bt_max : bootBuiltins "max" = some (.builtin "max") := by decide +kernel
theorem bt_len : bootBuiltins "len" = some (.builtin "len") := by decide +kernel
theorem bt_int : bootBuiltins "int" = some (.type "int") := by decide +kernel
theorem bt_bool : bootBuiltins "bool" = some (.type "bool") := by decide +kernel
theorem bt_str : bootBuiltins "str" = some (.type "str") := by decide +kernel
theorem bt_list : bootBuiltins "list" = some (.type "list") := by decide +kernel
theorem bt_tuple : bootBuiltins "tuple" = some (.type "tuple") := by decide +kernel
theorem bt_dict : bootBuiltins "dict" = some (.type "dict") := by decide +kernel

/-! ### rules in short -/
section
variable {X : Cx}
theorem sN (i : Nat) {x : Str} {e : Expr} {te : TE} {pos pos' : Pos} (hN : X.N.Nodup) (he : PE X e te) (hi : X.N[i]? = some x := by rfl) (hx : Loc X.env.scope x := by first | exact Or.inl rfl | exact Or.inr rfl)
    (hs : swapsWith e (some (.Name x pos')) pos.line X.env = pure false := by rfl) (hf : X.fn x = true ∨ X.env.scope.names.lookup x = some .local := by first | exact .inl rfl | exact .inr rfl | assumption) :
    PS X (.Assign [.Name x pos'] e pos) (tAsg te (gName i)) := ps_set hN hi hx he hs hf
theorem gN (i : Nat) {x : Str} {pos : Pos} (hN : X.N.Nodup) (hi : X.N[i]? = some x := by rfl) (hx : Loc X.env.scope x := by first | exact Or.inl rfl | exact Or.inr rfl)
    (hf : X.fn x = true ∨ X.env.scope.names.lookup x = some .local := by first | exact .inl rfl | exact .inr rfl | assumption) : PG X (.Name x pos) (gName i) := pg_name hN hi hx hf
theorem cN (i : Nat) {n : Str} {pos : Pos} {ps : List Pattern} {es : List PEl} (h : PPt X ps es) (hi : X.N[i]? = some n := by rfl) (hx : Loc X.env.scope n := by first | exact Or.inl rfl | exact Or.inr rfl)
    (hf : X.fn n = true ∨ X.env.scope.names.lookup n = some .local := by first | exact .inl rfl | exact .inr rfl | assumption) : PPt X (.MatchAs none (some n) pos :: ps) (.cap i :: es) := .cap hi hx hf h
/-- a list or a tuple walked -/
def iSeq (K : PySem.W.Frag) (tl : TE) : TI := fun σ H R => tl σ H fun x H1 => ∃ a, x = .ref a ∧ ((∃ xs, SqL K H1 a xs) ∧ R (Itl K a) H1 ∨ (∃ xs, SqT K H1 a xs) ∧ R (Itt K a) H1)
theorem pi_seq {tg l : Expr} {tl : TE} (hl : PE X l tl) : PI X tg l (iSeq X.K tl) := by
  refine ⟨fun pins s σ H R I h => ?_⟩
  refine thn (hl.run pins s σ H _ I h) fun v s1 ⟨x, H1, I1, r1, q1⟩ => ?_
  obtain ⟨a, e, q⟩ := q1
  subst e
  cases r1
  rcases q with ⟨⟨xs, hq⟩, q⟩ | ⟨⟨xs, hq⟩, q⟩
  · obtain ⟨its, rv, p, hz⟩ := I1.list hq
    refine wpAny_pyIter_list p.isList ?_
    refine ⟨s1.heap.objs.size, [s1.heap.objs.size], _, _, H1, rfl, I1.kept (t' := s1.toks) fun b o e => Heap.get?_push_of_some _ e, turn_list a _, ⟨_, Heap.get?_push_size _ rfl, rfl, rfl⟩, fun b hb => ?_, q⟩
    have e : b = s1.heap.objs.size := by simpa using hb
    subst e
    exact I1.fpOk (Nat.le_refl _) (I1.hok.fresh (Nat.le_refl _))
  · obtain ⟨its, rv, p, hz⟩ := I1.tuple hq
    refine wpAny_pyIter_tuple (show s1.heap.IsTuple a its.toArray from p) ?_
    refine ⟨s1.heap.objs.size, [s1.heap.objs.size], _, _, H1, rfl, I1.kept (t' := s1.toks) fun b o e => Heap.get?_push_of_some _ e, turn_tuple a _, ⟨_, Heap.get?_push_size _ rfl, rfl, rfl⟩, fun b hb => ?_, q⟩
    have e : b = s1.heap.objs.size := by simpa using hb
    subst e
    exact I1.fpOk (Nat.le_refl _) (I1.hok.fresh (Nat.le_refl _))
/-- built-in calls -/
def rInt1 : List V → Hp → VK → Prop := fun xs H Q => (∃ i, xs = [.int i] ∧ Q (.int i) H) ∨ ∃ k, xs = [.bl k] ∧ Q (.int (if k then 1 else 0)) H
theorem cb_int : CallR X (.type "int") rInt1 := call_int1
def rStr1 : List V → Hp → VK → Prop := fun xs H Q => ∃ i, xs = [.int i] ∧ i.natAbs.log2 < 1920 ∧ Q (.str (toString i)) H
theorem cb_str : CallR X (.type "str") rStr1 := call_str_int
theorem cb_len : CallR X (.builtin "len") (rLen X.K) := call_len
def rMax2 : List V → Hp → VK → Prop := fun xs H Q => ∃ i j, xs = [.int i, .int j] ∧ Q (.int (if j > i then j else i)) H
theorem cb_max (hc : X.calm = true) : CallR X (.builtin "max") rMax2 := call_max2 hc
def rListOf (K : PySem.W.Frag) : List V → Hp → VK → Prop := fun xs H Q => ∃ p ys, xs = [V.ref p] ∧ (SqL K H p ys ∨ SqT K H p ys) ∧ ∀ l, H l = none → Q (V.ref l) (upd H l (HO.lst ys))
theorem cb_list : CallR X (.type "list") (rListOf X.K) := call_list_of
def rJoin (K : PySem.W.Frag) : V → List V → Hp → VK → Prop := fun x xs H Q => ∃ a p, ∃ ys : List Str, x = .str a ∧ xs = [.ref p] ∧ (SqL K H p (ys.map V.str) ∨ SqT K H p (ys.map V.str)) ∧
      (ys.map (·.length)).sum + ys.length * a.length ≤ 16777216 ∧ Q (.str (Txt.join a ys)) H
theorem pe_joinX {o e : Expr} {to te : TE} {apos pos : Pos} (ho : PE X o to) (he : PE X e te) (hs : starEach [e] X.env = [(false, eval e X.env)] := by rfl) (hbase : attributeBase o "join" X.env (eval o X.env) = eval o X.env := by rfl) (hline : (apos.endLine == pos.line) = true := by rfl) :
    PE X (.Call (.Attribute o "join" apos) [e] [] pos) (tM1 (rJoin X.K) to te) := pe_join ho he hs hbase hline
def tFS (ts : List TE) : TE := fun σ H Q => tJs ts Str.empty σ H fun out H1 => Q (.str out) H1
theorem pe_fs {v1 v2 : Expr} {rest : List Expr} {ts : List TE} {pos : Pos} (h : PJ X (v1 :: v2 :: rest) ts) : PE X (.JoinedStr (v1 :: v2 :: rest) pos) (tFS ts) := pe_joined h
end

/-! ### readings, step by step -/
section
variable {K : PySem.W.Frag} {σ : L2.St} {H : Hp} {Q : VK} {D : Ends}
theorem s_c {v : V} (h : Q v H) : tC v σ H Q := h
theorem s_op {r : R2} {ta tb : TE} (h : ta σ H fun x H1 => tb σ H1 fun y H2 => r x y H2 Q) : tOp r ta tb σ H Q := h
theorem s_un {r : V → Hp → VK → Prop} {ta : TE} (h : ta σ H fun x H1 => r x H1 Q) : tUn r ta σ H Q := h
theorem s_cb {r : List V → Hp → VK → Prop} {t : TA} (h : t σ H fun vs H1 => r vs H1 Q) : tCB r t σ H Q := h
theorem s_call {sp : Sp} {E : XK} {t : TA} (h : t σ H fun vs H1 => sp vs H1 Q E) : tCall sp [] E t σ H Q := by
  show t σ H fun vs H1 => sp (vs ++ []) H1 Q E
  have e : (fun vs H1 => sp (vs ++ []) H1 Q E) = fun vs H1 => sp vs H1 Q E := by funext vs H1; rw [List.append_nil]
  rw [e]; exact h
theorem s_nil {R : List V → Hp → Prop} (h : R [] H) : tNil σ H R := h
theorem s_cons {ta : TE} {tr : TA} {R : List V → Hp → Prop} (h : ta σ H fun x H1 => tr σ H1 fun xs H2 => R (x :: xs) H2) : tCons ta tr σ H R := h
theorem s_tup {t : TA} (h : t σ H fun xs H1 => xs.length ≤ sizeLine ∧ ∀ p H2, H1 p = none → Keep [] H1 H2 → SqT K H2 p xs → Q (.ref p) H2)
    (mono : ∀ R R' : List V → Hp → Prop, (∀ xs H1, R xs H1 → R' xs H1) → t σ H R → t σ H R') : tTup t σ H Q :=
  mono _ _ (fun xs H1 ⟨z, q⟩ => ⟨z, fun p hp => q p _ hp (Keep.new hp) (SqT.of upd_same)⟩) h
theorem s_if {c : TT} {ta tb : TE} (h : c σ H fun b H1 => if b = true then ta σ H1 Q else tb σ H1 Q) : tIf c ta tb σ H Q := h
theorem s_test {t : TE} {R : Bool → Hp → Prop} (h : t σ H fun x H' => ∃ k, x = .bl k ∧ R k H') : tTest t σ H R := h
theorem s_tB {t : TE} {R : Bool → Hp → Prop} (h : t σ H fun x H1 => ∃ c, x = .bl c ∧ R c H1) : tB t σ H R := h
theorem s_bl {b : Bool} {P : Bool → Prop} (h : P b) : ∃ k, V.bl b = .bl k ∧ P k := ⟨b, rfl, h⟩
theorem s_and {t u : TT} {R : Bool → Hp → Prop} (h : t σ H fun c H1 => if c = true then u σ H1 R else R false H1) : tAnd t u σ H R := h
theorem s_or {t u : TT} {R : Bool → Hp → Prop} (h : t σ H fun c H1 => if c = true then R true H1 else u σ H1 R) : tOr t u σ H R := h
theorem s_not {t : TT} {R : Bool → Hp → Prop} (h : t σ H fun c H1 => R (!c) H1) : tNot t σ H R := h
theorem s_andV {ta tb : TE} (h : ta σ H fun x H1 => ∃ c, x = .bl c ∧ if c = true then tb σ H1 Q else Q (.bl false) H1) : tAndV ta tb σ H Q := h
theorem s_orV {ta tb : TE} (h : ta σ H fun x H1 => ∃ c, x = .bl c ∧ if c = true then Q (.bl true) H1 else tb σ H1 Q) : tOrV ta tb σ H Q := h
theorem s_notV {ta : TE} (h : ta σ H fun x H1 => ∃ c, x = .bl c ∧ Q (.bl (!c)) H1) : tNotV ta σ H Q := h
theorem s_seq {t u : TS} (h : t { D with nx := u D } σ H) : tSeq t u D σ H := h
theorem s_asg {te : TE} {g : TG} (h : te σ H fun x H1 => g x σ H1 D.nx) : tAsg te g D σ H := h
theorem s_gN {i : Nat} {v : V} {R : L2.St → Hp → Prop} (h : R (σ.set i (some v)) H) : gName i v σ H R := h
theorem s_ret {te : TE} (h : te σ H D.rt) : tRet te D σ H := h
theorem s_ifS {c : TT} {t u : TS} (h : c σ H fun b H1 => if b = true then t D σ H1 else u D σ H1) : tIfS c t u D σ H := h
theorem s_drop {te : TE} (h : te σ H fun _ H1 => D.nx σ H1) : tDrop te D σ H := h
theorem s_next (h : D.nx σ H) : tNext D σ H := h
theorem s_then {ta : TE} {k : V → Hp → VK → Prop} (h : ta σ H fun x H1 => k x H1 Q) : tThen ta k σ H Q := h
theorem s_M1 {r : V → List V → Hp → VK → Prop} {to te : TE} (h : to σ H fun x H1 => (∃ a, x = .str a) ∧ te σ H1 fun y H2 => r x [y] H2 Q) : tM1 r to te σ H Q := h
theorem s_BM {T : String} {r : V → List V → Hp → VK → Prop} {to : TE} {t : TA} (h : to σ H fun x H1 => tyV K T x H1 ∧ t σ H1 fun xs H2 => r x xs H2 Q) : tBM K T r to t σ H Q := h
theorem ite_d {p A B : Prop} [Decidable p] (h : p) (a : A) : if decide p = true then A else B := by rw [decide_eq_true h]; exact iteT a
theorem ite_n {p A B : Prop} [Decidable p] (h : ¬ p) (b : B) : if decide p = true then A else B := by rw [decide_eq_false h]; exact iteF b
theorem ite_nd {p A B : Prop} [Decidable p] (h : p) (b : B) : if (!decide p) = true then A else B := by rw [decide_eq_true h]; exact iteF b
theorem ite_nn {p A B : Prop} [Decidable p] (h : ¬ p) (a : A) : if (!decide p) = true then A else B := by rw [decide_eq_false h]; exact iteT a
theorem ite_c {p A B : Prop} [Decidable p] (ha : p → A) (hb : ¬ p → B) : if decide p = true then A else B := by
  by_cases h : p
  · exact ite_d h (ha h)
  · exact ite_n h (hb h)
/-- operators by values -/
theorem v_addI {i j : Int} (h : Q (.int (i + j)) H) : rAdd K (.int i) (.int j) H Q := .inl ⟨i, j, rfl, rfl, h⟩
theorem v_addS {i j : Str} (l : i.length + j.length ≤ sizeLine) (h : Q (.str (i ++ j)) H) : rAdd K (.str i) (.str j) H Q := .inr (.inl ⟨i, j, rfl, rfl, l, h⟩)
theorem v_addL {a b : Addr} {xs ys : List V} (ha : H a = some (.lst xs)) (hb : H b = some (.lst ys)) (l : xs.length + ys.length ≤ sizeLine) (h : ∀ p H', H p = none → Keep [] H H' → H' p = some (.lst (xs ++ ys)) → Q (.ref p) H') : rAdd K (.ref a) (.ref b) H Q :=
  .inr (.inr (.inl ⟨a, b, xs, ys, rfl, rfl, ha, hb, l, fun p hp => h p _ hp (Keep.new hp) upd_same⟩))
theorem v_addT {a b : Addr} {xs ys : List V} (ha : SqT K H a xs) (hb : SqT K H b ys) (l : xs.length + ys.length ≤ sizeLine) (h : ∀ p H', Keep [] H H' → SqT K H' p (xs ++ ys) → Q (.ref p) H') : rAdd K (.ref a) (.ref b) H Q := by
  refine .inr (.inr (.inr ⟨a, b, xs, ys, rfl, rfl, ha, hb, l, fun e => ?_, fun _ e => ?_, fun _ _ p hp => h p _ (Keep.new hp) (SqT.of upd_same)⟩))
  · subst e; exact h b H (Keep.refl _ _) hb
  · subst e; exact h a H (Keep.refl _ _) (by rw [List.append_nil]; exact ha)
theorem v_subI {i j : Int} (h : Q (.int (i - j)) H) : rSubI (.int i) (.int j) H Q := ⟨i, j, rfl, rfl, h⟩
theorem v_mulI {i j : Int} (c : CMul i j) (h : Q (.int (i * j)) H) : rMulI (.int i) (.int j) H Q := ⟨i, j, rfl, rfl, c, h⟩
theorem v_divI {i j : Int} (c : CDivW i j) (h : Q (.int (i / j)) H) : rDivI (.int i) (.int j) H Q := ⟨i, j, rfl, rfl, c, h⟩
theorem v_modI {i j : Int} (c : 0 < j) (h : Q (.int (i % j)) H) : rModI (.int i) (.int j) H Q := ⟨i, j, rfl, rfl, c, h⟩
theorem v_powI {i j : Int} (c : CPow i j) (h : Q (.int (i ^ j.toNat)) H) : rPowI (.int i) (.int j) H Q := ⟨i, j, rfl, rfl, c, h⟩
theorem v_ltI {i j : Int} (h : Q (.bl (decide (i < j))) H) : rLtI (.int i) (.int j) H Q := ⟨i, j, rfl, rfl, h⟩
theorem v_leI {i j : Int} (h : Q (.bl (decide (i ≤ j))) H) : rLeI (.int i) (.int j) H Q := ⟨i, j, rfl, rfl, h⟩
theorem v_gtI {i j : Int} (h : Q (.bl (decide (j < i))) H) : rGtI (.int i) (.int j) H Q := ⟨i, j, rfl, rfl, h⟩
theorem v_geI {i j : Int} (h : Q (.bl (decide (j ≤ i))) H) : rGeI (.int i) (.int j) H Q := ⟨i, j, rfl, rfl, h⟩
theorem v_negI {i : Int} (h : Q (.int (-i)) H) : rNegI (.int i) H Q := ⟨i, rfl, h⟩
theorem v_eqS {a b : Str} (h : Q (.bl (decide (a = b))) H) : rEqX K (.str a) (.str b) H Q := by
  refine .inl ⟨rfl, ?_⟩
  have e : decide (V.str a = V.str b) = decide (a = b) := by
    by_cases q : a = b
    · rw [decide_eq_true q, decide_eq_true (congrArg V.str q)]
    · rw [decide_eq_false q, decide_eq_false fun z => q (V.str.inj z)]
  rw [e]; exact h
theorem v_eqI {a b : Int} (h : Q (.bl (decide (a = b))) H) : rEqX K (.int a) (.int b) H Q := by
  refine .inl ⟨rfl, ?_⟩
  have e : decide (V.int a = V.int b) = decide (a = b) := by
    by_cases q : a = b
    · rw [decide_eq_true q, decide_eq_true (congrArg V.int q)]
    · rw [decide_eq_false q, decide_eq_false fun z => q (V.int.inj z)]
  rw [e]; exact h
theorem v_neS {a b : Str} (h : Q (.bl (!decide (a = b))) H) : rNeX K (.str a) (.str b) H Q := by
  refine .inl ⟨rfl, ?_⟩
  have e : decide (V.str a = V.str b) = decide (a = b) := by
    by_cases q : a = b
    · rw [decide_eq_true q, decide_eq_true (congrArg V.str q)]
    · rw [decide_eq_false q, decide_eq_false fun z => q (V.str.inj z)]
  rw [e]; exact h
theorem v_neI {a b : Int} (h : Q (.bl (!decide (a = b))) H) : rNeX K (.int a) (.int b) H Q := by
  refine .inl ⟨rfl, ?_⟩
  have e : decide (V.int a = V.int b) = decide (a = b) := by
    by_cases q : a = b
    · rw [decide_eq_true q, decide_eq_true (congrArg V.int q)]
    · rw [decide_eq_false q, decide_eq_false fun z => q (V.int.inj z)]
  rw [e]; exact h
theorem v_ixT {a : Addr} {xs : List V} {i : Int} {v : V} (h : SqT K H a xs) (e : atI xs i = some v) (q : Q v H) : rIx K (.ref a) (.int i) H Q := .inr (.inl ⟨a, xs, i, v, rfl, rfl, h, e, q⟩)
theorem v_ixL {a : Addr} {xs : List V} {i : Int} {v : V} (h : SqL K H a xs) (e : atI xs i = some v) (q : Q v H) : rIx K (.ref a) (.int i) H Q := .inl ⟨a, xs, i, v, rfl, rfl, h, e, q⟩
theorem v_ixS {z : Str} {i : Int} {c : Nat} (l : z.length ≤ sizeLine) (e : atI z.cps.toList i = some c) (q : Q (.str ⟨#[c]⟩) H) : rIx K (.str z) (.int i) H Q := .inr (.inr ⟨z, i, c, rfl, rfl, l, e, q⟩)
theorem v_int {i : Int} (h : Q (.int i) H) : rInt1 [.int i] H Q := .inl ⟨i, rfl, h⟩
theorem v_intB {b : Bool} (h : Q (.int (if b then 1 else 0)) H) : rInt1 [.bl b] H Q := .inr ⟨b, rfl, h⟩
theorem v_str {i : Int} (l : i.natAbs.log2 < 1920) (h : Q (.str (toString i)) H) : rStr1 [.int i] H Q := ⟨i, rfl, l, h⟩
theorem v_lenL {a : Addr} {xs : List V} (s : SqL K H a xs) (h : Q (.int xs.length) H) : rLen K [.ref a] H Q := ⟨_, _, rfl, .inl ⟨xs, s, rfl⟩, h⟩
theorem v_lenT {a : Addr} {xs : List V} (s : SqT K H a xs) (h : Q (.int xs.length) H) : rLen K [.ref a] H Q := ⟨_, _, rfl, .inr ⟨xs, s, rfl⟩, h⟩
theorem v_lenS {z : Str} (l : z.length ≤ sizeLine) (h : Q (.int z.length) H) : rLen K [.str z] H Q := ⟨_, _, rfl, ⟨l, rfl⟩, h⟩
theorem v_max {i j : Int} (h : Q (.int (if j > i then j else i)) H) : rMax2 [.int i, .int j] H Q := ⟨i, j, rfl, h⟩
theorem tyx_tup {a : Addr} {xs : List V} (h : SqT K H a xs) : TyX K H (.ref a) (.type "tuple") := by
  rcases h with (h | ⟨o, h⟩) | ⟨o, its, n, hk, hc, _⟩
  · exact .base (.tup h)
  · exact .fTuple h
  · exact .kTuple hk hc
theorem v_isi {x : V} {t n : String} {b : Bool} (ty : TyX K H x (.type t)) (k : kitB t n = some b) (q : Q (.bl b) H) : rIsi K [x, .ty n] H Q := ⟨x, .ty n, .type t, .type n, b, rfl, .ty n, ty, kit_ty k, q⟩
theorem v_isiI {i : Int} {n : String} {b : Bool} (k : kitB "int" n = some b) (q : Q (.bl b) H) : rIsi K [.int i, .ty n] H Q := v_isi (.base (.int i)) k q
theorem v_isiB {i : Bool} {n : String} {b : Bool} (k : kitB "bool" n = some b) (q : Q (.bl b) H) : rIsi K [.bl i, .ty n] H Q := v_isi (.base (.bl i)) k q
theorem v_isiS {i : Str} {n : String} {b : Bool} (k : kitB "str" n = some b) (q : Q (.bl b) H) : rIsi K [.str i, .ty n] H Q := v_isi (.base (.str i)) k q
theorem v_isiT {a : Addr} {xs : List V} {n : String} {b : Bool} (s : SqT K H a xs) (k : kitB "tuple" n = some b) (q : Q (.bl b) H) : rIsi K [.ref a, .ty n] H Q := v_isi (tyx_tup s) k q
end
end M

namespace M
open PySem PySem.Spec PyProof.Rows L2
/-! ### new objects, told by what stands behind -/
def mkT (K : PySem.W.Frag) (xs : List V) (H : Hp) (Q : VK) : Prop := xs.length ≤ sizeLine ∧ ∀ p H2, H p = none → Keep [] H H2 → SqT K H2 p xs → Q (.ref p) H2
def mkL (xs : List V) (H : Hp) (Q : VK) : Prop := xs.length ≤ sizeLine ∧ ∀ p H2, H p = none → Keep [] H H2 → H2 p = some (.lst xs) → Q (.ref p) H2
def tTupX (K : PySem.W.Frag) (t : TA) : TE := fun σ H Q => t σ H fun xs H1 => mkT K xs H1 Q
def tLstX (t : TA) : TE := fun σ H Q => t σ H fun xs H1 => mkL xs H1 Q
section
variable {X : Cx}
theorem pe_tupX {es : List Expr} {t : TA} {x1} {pos : Pos} (h : PA X es t) : PE X (.Tuple es x1 pos) (tTupX X.K t) := by
  refine ⟨fun pins s σ H Q I hq => ?_⟩
  refine wpAny_Tuple_spliced (thn (h.run pos pins s σ H _ I hq) fun us s1 ⟨xs, H1, I1, r, z, q⟩ => ⟨by rw [← r.length]; exact z, ?_⟩)
  have hf : H1 s1.heap.objs.size = none := I1.hok.fresh (Nat.le_refl _)
  refine ⟨.ref s1.heap.objs.size, upd H1 s1.heap.objs.size (.tup xs), I1.laid (t' := s1.toks) (fun b u e => Heap.get?_push_of_some _ e) (Nat.le_refl _) ?_, rfl, q _ _ hf (Keep.new hf) (SqT.of upd_same)⟩
  exact ⟨z, us, r, ⟨_, Heap.get?_push_size _ rfl, rfl, _, rfl⟩⟩
theorem pe_lstX {es : List Expr} {t : TA} {pos : Pos} (h : PA X es t) : PE X (.List es pos) (tLstX t) := by
  refine ⟨fun pins s σ H Q I hq => ?_⟩
  refine wpAny_List_spliced (thn (h.run pos pins s σ H _ I hq) fun us s1 ⟨xs, H1, I1, r, z, q⟩ => ⟨by rw [← r.length]; exact z, ?_⟩)
  have hf : H1 s1.heap.objs.size = none := I1.hok.fresh (Nat.le_refl _)
  refine ⟨.ref s1.heap.objs.size, upd H1 s1.heap.objs.size (.lst xs), I1.laid (t' := s1.toks) (fun b u e => Heap.get?_push_of_some _ e) (Nat.le_refl _) ?_, rfl, q _ _ hf (Keep.new hf) upd_same⟩
  exact ⟨z, us, 0, r, Heap.get?_push_size _ rfl⟩
end
section
variable {K : PySem.W.Frag} {σ : L2.St} {H : Hp} {Q : VK} {D : Ends}
theorem s_tupX {t : TA} (h : t σ H fun xs H1 => mkT K xs H1 Q) : tTupX K t σ H Q := h
theorem s_lstX {t : TA} (h : t σ H fun xs H1 => mkL xs H1 Q) : tLstX t σ H Q := h
theorem v_mkT {xs : List V} (l : xs.length ≤ sizeLine) (h : ∀ p H2, H p = none → Keep [] H H2 → SqT K H2 p xs → Q (.ref p) H2) : mkT K xs H Q := ⟨l, h⟩
theorem v_mkL {xs : List V} (l : xs.length ≤ sizeLine) (h : ∀ p H2, H p = none → Keep [] H H2 → H2 p = some (.lst xs) → Q (.ref p) H2) : mkL xs H Q := ⟨l, h⟩
theorem v_append {l : Addr} {xs : List V} {y : V} (h : H l = some (.lst xs)) (z : xs.length < sizeLine) (q : ∀ H', Keep [l] H H' → H' l = some (.lst (xs ++ [y])) → Q .non H') : rAppend (.ref l) [y] H Q :=
  ⟨l, xs, y, rfl, rfl, h, z, q _ (Keep.put h True.intro) upd_same⟩
theorem v_ext {l b : Addr} {xs ys : List V} (h : H l = some (.lst xs)) (h2 : H b = some (.lst ys)) (z : xs.length + ys.length ≤ sizeLine) (q : ∀ H', Keep [l] H H' → H' l = some (.lst (xs ++ ys)) → Q (.ref l) H') : rExt2 (.ref l) (.ref b) H Q :=
  ⟨l, b, xs, ys, rfl, rfl, h, h2, z, q _ (Keep.put h True.intro) upd_same⟩
theorem v_setL {l : Addr} {xs : List V} {i : Int} {v : V} {j : Nat} {R : Hp → Prop} (h : H l = some (.lst xs)) (e : ixN xs.length i = some j) (q : ∀ H', Keep [l] H H' → H' l = some (.lst (xs.set j v)) → R H') : rSetL (.ref l) (.int i) v H R :=
  ⟨l, xs, i, j, rfl, rfl, h, e, q _ (Keep.put h True.intro) upd_same⟩
theorem v_listOf {p : Addr} {xs : List V} (h : SqL K H p xs ∨ SqT K H p xs) (q : ∀ l H', H l = none → Keep [] H H' → H' l = some (.lst xs) → Q (.ref l) H') : rListOf K [.ref p] H Q :=
  ⟨p, xs, rfl, h, fun l hl => q l _ hl (Keep.new hl) upd_same⟩
theorem v_tupOf {p : Addr} {xs : List V} (h : SqL K H p xs) (q : ∀ l H', H l = none → Keep [] H H' → SqT K H' l xs → Q (.ref l) H') : kTup K (.ref p) H Q :=
  .inl ⟨p, xs, rfl, h, fun l hl => q l _ hl (Keep.new hl) (SqT.of upd_same)⟩
theorem s_sub {to ti : TE} {t : TSet} {v : V} {R : L2.St → Hp → Prop} (h : to σ H fun o H1 => ti σ H1 fun i H2 => t o i v H2 fun H3 => R σ H3) : gSub to ti t v σ H R := h
theorem s_aug {i : Nat} {te : TE} {ti : TIp} {x : V} (e : σ[i]? = some (some x)) (h : te σ H fun y H1 => ti x y H1 fun z H2 => D.nx (σ.set i (some z)) H2) : tAug i te ti D σ H := ⟨x, e, h⟩
theorem s_par {i j : Nat} {ta : TA} (h : ta σ H fun vs H1 => ∃ v w, vs = [v, w] ∧ D.nx ((σ.set i (some v)).set j (some w)) H1) : tPar i j ta D σ H := h
theorem v_par {x y : V} {P : V → V → Prop} (h : P x y) : ∃ v w, [x, y] = [v, w] ∧ P v w := ⟨x, y, rfl, h⟩
theorem s_tup3 {n : Nat} {t : TGs} {a : Addr} {xs : List V} {R : L2.St → Hp → Prop} (h : SqT K H a xs) (l : xs.length = n) (q : t xs σ H R) : gTup K n t (.ref a) σ H R := ⟨a, xs, rfl, h, l, q⟩
theorem s_gc {t : TG} {u : TGs} {v : V} {r : List V} {R : L2.St → Hp → Prop} (q : t v σ H fun σ' H' => u r σ' H' R) : gCons t u (v :: r) σ H R := ⟨v, r, rfl, q⟩
theorem s_gn {R : L2.St → Hp → Prop} (q : R σ H) : gNil [] σ H R := ⟨rfl, q⟩
theorem s_fs {ts : List TE} (h : tJs ts Str.empty σ H fun out H1 => Q (.str out) H1) : tFS ts σ H Q := h
theorem s_js {t : TE} {ts : List TE} {acc : Str} {R : Str → Hp → Prop} (h : t σ H fun x H1 => ∃ y : Str, x = .str y ∧ (acc ++ y).length ≤ sizeLine ∧ tJs ts (acc ++ y) σ H1 R) : tJs (t :: ts) acc σ H R := h
theorem s_js0 {acc : Str} {R : Str → Hp → Prop} (h : R acc H) : tJs [] acc σ H R := h
theorem v_js {y : Str} {P : Str → Prop} {q : Str → Prop} (l : P y) (h : q y) : ∃ z : Str, V.str y = .str z ∧ P z ∧ q z := ⟨y, rfl, l, h⟩
theorem s_fmt {te : TE} (h : te σ H fun x H1 => (∃ y : Str, x = .str y ∧ y.length ≤ sizeLine ∧ Q (.str y) H1) ∨ ∃ i : Int, x = .int i ∧ i.natAbs.log2 < 1920 ∧ Q (.str (toString i)) H1) : tFmt te σ H Q := h
theorem v_fmtS {y : Str} {P : Str → Prop} {R : Prop} (l : y.length ≤ sizeLine) (h : P y) : (∃ z : Str, V.str y = .str z ∧ z.length ≤ sizeLine ∧ P z) ∨ R := .inl ⟨y, rfl, l, h⟩
theorem v_isStr {y : Str} {P : Prop} (h : P) : (∃ z : Str, V.str y = .str z) ∧ P := ⟨⟨y, rfl⟩, h⟩
theorem v_tyL {a : Addr} {xs : List V} {P : Prop} (h : H a = some (.lst xs)) (q : P) : tyV K "list" (.ref a) H ∧ P := ⟨.inl ⟨rfl, xs, SqL.of h⟩, q⟩
theorem v_join {a : Str} {p : Addr} {ys : List Str} (h : SqL K H p (ys.map V.str)) (l : (ys.map (·.length)).sum + ys.length * a.length ≤ 16777216) (q : Q (.str (Txt.join a ys)) H) : rJoin K (.str a) [.ref p] H Q := ⟨a, p, ys, rfl, rfl, .inl h, l, q⟩
theorem s_iseqL {tl : TE} {R : It → Hp → Prop} (h : tl σ H fun x H1 => ∃ a, x = .ref a ∧ ((∃ xs, SqL K H1 a xs) ∧ R (Itl K a) H1 ∨ (∃ xs, SqT K H1 a xs) ∧ R (Itt K a) H1)) : iSeq K tl σ H R := h
theorem v_itL {a : Addr} {xs : List V} {A : Addr → Prop} {B : Addr → Prop} {C : Addr → Prop} {P : Addr → Prop} (h : SqL K H a xs) (q : P a) : ∃ b, V.ref a = .ref b ∧ ((∃ xs, SqL K H b xs) ∧ P b ∨ B b) := ⟨a, rfl, .inl ⟨⟨xs, h⟩, q⟩⟩
theorem v_itT {a : Addr} {xs : List V} {A P : Addr → Prop} (h : SqT K H a xs) (q : P a) : ∃ b, V.ref a = .ref b ∧ (A b ∨ (∃ xs, SqT K H b xs) ∧ P b) := ⟨a, rfl, .inr ⟨⟨xs, h⟩, q⟩⟩
theorem s_match {te : TE} {cs : List (Option (List PEl) × TS)} (h : te σ H fun x H1 => ∃ a xs, x = .ref a ∧ SqT K H1 a xs ∧ tCases cs xs D σ H1) : tMatch K te cs D σ H := h
theorem v_match {a : Addr} {xs : List V} {P : List V → Prop} (h : SqT K H a xs) (q : P xs) : ∃ b ys, V.ref a = .ref b ∧ SqT K H b ys ∧ P ys := ⟨a, xs, rfl, h, q⟩
theorem c_no {es : List PEl} {t : TS} {r : List (Option (List PEl) × TS)} {xs : List V} (e : es.length ≠ xs.length) (h : tCases r xs D σ H) : tCases ((some es, t) :: r) xs D σ H := by
  unfold tCases; rw [if_neg e]; exact h
theorem c_miss {es : List PEl} {t : TS} {r : List (Option (List PEl) × TS)} {xs : List V} (e : es.length = xs.length) (o : litOk es xs) (z : pmV es xs = none) (h : tCases r xs D σ H) : tCases ((some es, t) :: r) xs D σ H := by
  unfold tCases; rw [if_pos e, z]; exact ⟨o, h⟩
theorem c_hit {es : List PEl} {t : TS} {r : List (Option (List PEl) × TS)} {xs : List V} {bs : List (Nat × V)} (e : es.length = xs.length) (o : litOk es xs) (z : pmV es xs = some bs) (h : t D (bindsV σ bs) H) : tCases ((some es, t) :: r) xs D σ H := by
  unfold tCases; rw [if_pos e, z]; exact ⟨o, h⟩
theorem c_end {xs : List V} (h : D.nx σ H) : tCases [] xs D σ H := h
end
end M

namespace M
open PySem
/-! ### expressions and statements as data -/
inductive Ex where
  | int (i : Int) | nm (n : Str) | of (n a : Str) | bin (s : Bool) (l r : Ex)
  deriving DecidableEq
def opW (s : Bool) : Str := if s then "sum" else "less"
def Ex.d : Ex → PyData
  | .int i => .int i
  | .nm n => .tuple [.str "name", .str n]
  | .of n a => .tuple [.str "of", .str n, .str a]
  | .bin s l r => .tuple [.str (opW s), l.d, r.d]
inductive Stm where
  | set (n : Str) (e : Ex) | del (n : Str) | shw (e : Ex) | call (e : Ex) | raise
  | imp (m n : Str) | frm (m w n : Str) | star (m : Str)
  | fn (n : Str) (b : List Stm) | ite (e : Ex) (b o : List Stm) | tri (k : Str) (b h : List Stm)
mutual
def Stm.d : Stm → PyData
  | .set n e => .tuple [.str "set", .str n, e.d]
  | .del n => .tuple [.str "del", .str n]
  | .shw e => .tuple [.str "show", e.d]
  | .call e => .tuple [.str "call", e.d]
  | .raise => .tuple [.str "raise"]
  | .imp m n => .tuple [.str "\x69mport", .str m, .str n]
  | .frm m w n => .tuple [.str "from", .str m, .str w, .str n]
  | .star m => .tuple [.str "star", .str m]
  | .fn n b => .tuple [.str "def", .str n, .tuple (blkD b)]
  | .ite e b o => .tuple [.str "if", e.d, .tuple (blkD b), .tuple (blkD o)]
  | .tri k b h => .tuple [.str "try", .str k, .tuple (blkD b), .tuple (blkD h)]
def blkD : List Stm → List PyData
  | [] => []
  | s :: r => s.d :: blkD r
end
theorem blkD_map : ∀ b : List Stm, blkD b = b.map Stm.d
  | [] => by simp [blkD]
  | s :: r => by simp [blkD, blkD_map r]
def Ex.dep : Ex → Nat
  | .bin _ l r => max l.dep r.dep + 1
  | _ => 0
mutual
def Stm.dep : Stm → Nat
  | .fn _ b => depL b + 1
  | .ite _ b o => max (depL b) (depL o) + 1
  | .tri _ b h => max (depL b) (depL h) + 1
  | _ => 0
def depL : List Stm → Nat
  | [] => 0
  | s :: r => max s.dep (depL r)
end
/-! ### the text -/
def Ex.txt : Ex → Str
  | .int i => (toString i : String)
  | .nm n => n
  | .of n a => n ++ "." ++ a
  | .bin s l r => "(" ++ l.txt ++ (if s then " + " else " < ") ++ r.txt ++ ")"
def Stm.head : Stm → Str
  | .set n e => "set " ++ n ++ " = " ++ e.txt
  | .del n => "del " ++ n
  | .shw e => "show" ++ " " ++ e.txt
  | .call e => "call" ++ " " ++ e.txt
  | .raise => "raise"
  | .imp m n => "\x69mport " ++ m ++ " as " ++ n
  | .frm m w n => "from " ++ m ++ " \x69mport " ++ w ++ " as " ++ n
  | .star m => "from " ++ m ++ " \x69mport *"
  | .fn n _ => "def" ++ " " ++ n ++ ":"
  | .ite e _ _ => "if " ++ e.txt ++ ":"
  | .tri k _ _ => "try" ++ " " ++ k ++ ":"
mutual
def Stm.lines (ind : Str) : Stm → List Str
  | .fn n b => [ind ++ (Stm.fn n b).head] ++ inner (ind ++ "  ") b
  | .ite e b o => [ind ++ (Stm.ite e b o).head] ++ inner (ind ++ "  ") b ++ [ind ++ "else:"] ++ inner (ind ++ "  ") o
  | .tri k b h => [ind ++ (Stm.tri k b h).head] ++ inner (ind ++ "  ") b ++ [ind ++ "except:"] ++ inner (ind ++ "  ") h
  | .set n e => [ind ++ (Stm.set n e).head]
  | .del n => [ind ++ (Stm.del n).head]
  | .shw e => [ind ++ (Stm.shw e).head]
  | .call e => [ind ++ (Stm.call e).head]
  | .raise => [ind ++ Stm.raise.head]
  | .imp m n => [ind ++ (Stm.imp m n).head]
  | .frm m w n => [ind ++ (Stm.frm m w n).head]
  | .star m => [ind ++ (Stm.star m).head]
def inner (ind : Str) : List Stm → List Str
  | [] => [ind ++ "pass"]
  | s :: r => s.lines ind ++ linesL ind r
def linesL (ind : Str) : List Stm → List Str
  | [] => []
  | s :: r => s.lines ind ++ linesL ind r
end
theorem inner_cons (ind : Str) (b : List Stm) (h : b ≠ []) : inner ind b = linesL ind b := by
  cases b with
  | nil => exact absurd rfl h
  | cons s r => simp [inner, linesL]
theorem linesL_append (ind : Str) : ∀ (a b : List Stm), linesL ind (a ++ b) = linesL ind a ++ linesL ind b
  | [], b => by simp [linesL]
  | s :: r, b => by simp [linesL, linesL_append ind r b]
/-- ints that have a text -/
def Ex.fits : Ex → Prop
  | .int i => i.natAbs.log2 < 1920
  | .bin _ l r => l.fits ∧ r.fits
  | _ => True
mutual
def Stm.fits : Stm → Prop
  | .set _ e => e.fits ∧ e.dep < 10
  | .shw e => e.fits ∧ e.dep < 10
  | .call e => e.fits ∧ e.dep < 10
  | .ite e b o => (e.fits ∧ e.dep < 10) ∧ fitsL b ∧ fitsL o
  | .fn _ b => fitsL b
  | .tri _ b h => fitsL b ∧ fitsL h
  | _ => True
def fitsL : List Stm → Prop
  | [] => True
  | s :: r => s.fits ∧ fitsL r
end
theorem fitsL_get : ∀ {b : List Stm} {i : Nat} {s : Stm}, fitsL b → b[i]? = some s → s.fits
  | [], _, _, _, e => by simp at e
  | t :: r, 0, s, h, e => by simp only [List.getElem?_cons_zero, Option.some.injEq] at e; subst e; simp only [fitsL] at h; exact h.1
  | t :: r, i + 1, s, h, e => by simp only [List.getElem?_cons_succ] at e; simp only [fitsL] at h; exact fitsL_get h.2 e
theorem depL_get : ∀ {b : List Stm} {i : Nat} {s : Stm}, b[i]? = some s → s.dep ≤ depL b
  | [], _, _, e => by simp at e
  | t :: r, 0, s, e => by simp only [List.getElem?_cons_zero, Option.some.injEq] at e; subst e; simp only [depL]; omega
  | t :: r, i + 1, s, e => by simp only [List.getElem?_cons_succ] at e; simp only [depL]; have := depL_get e; omega
/-- few and short lines -/
def Small (ls : List Str) : Prop := ls.length ≤ 4000 ∧ ∀ l ∈ ls, l.length ≤ 4000
theorem Small.left {a b : List Str} (h : Small (a ++ b)) : Small a := ⟨by have := h.1; simp at this; omega, fun l m => h.2 l (by simp [m])⟩
theorem Small.right {a b : List Str} (h : Small (a ++ b)) : Small b := ⟨by have := h.1; simp at this; omega, fun l m => h.2 l (by simp [m])⟩
theorem lines_split (ind : Str) {b : List Stm} {i : Nat} {s : Stm} (e : b[i]? = some s) : linesL ind b = linesL ind (b.take i) ++ (s.lines ind ++ linesL ind (b.drop (i + 1))) := by
  have h : b = b.take i ++ (s :: b.drop (i + 1)) := by
    obtain ⟨hi, e2⟩ := List.getElem?_eq_some_iff.mp e
    rw [← e2, ← List.drop_eq_getElem_cons hi, List.take_append_drop]
  conv => lhs; rw [h]
  rw [linesL_append]
  simp [linesL]
theorem lines_take (ind : Str) {b : List Stm} {i : Nat} {s : Stm} (e : b[i]? = some s) : linesL ind (b.take (i + 1)) = linesL ind (b.take i) ++ s.lines ind := by
  obtain ⟨hi, e2⟩ := List.getElem?_eq_some_iff.mp e
  rw [List.take_add_one, e, linesL_append]
  simp [linesL]
theorem blkD_get : ∀ {b : List Stm} {i : Nat} {d : PyData}, (blkD b)[i]? = some d → ∃ s, b[i]? = some s ∧ d = s.d
  | [], _, _, e => by simp [blkD] at e
  | t :: r, 0, d, e => by simp only [blkD, List.getElem?_cons_zero, Option.some.injEq] at e; exact ⟨t, by simp, e.symm⟩
  | t :: r, i + 1, d, e => by simp only [blkD, List.getElem?_cons_succ] at e; obtain ⟨s, h1, h2⟩ := blkD_get e; exact ⟨s, by simpa using h1, h2⟩
theorem blkD_length (b : List Stm) : (blkD b).length = b.length := by rw [blkD_map, List.length_map]
theorem str_e (x : Str) : Str.empty ++ x = x := by
  show (⟨#[] ++ x.cps⟩ : Str) = x
  simp
theorem str_len (a b : Str) : (a ++ b).length = a.length + b.length := Str.length_append a b
theorem sl_eq : sizeLine = 16777216 := rfl
end M

namespace M
open PySem PySem.Spec PyProof.Rows L2
section
variable {X : Cx}
/-- {x}, a text -/
def tFmtS (te : TE) : TE := fun σ H Q => te σ H fun x H1 => ∃ y : Str, x = .str y ∧ y.length ≤ sizeLine ∧ Q (.str y) H1
theorem pe_fmtS {e : Expr} {te : TE} {pos : Pos} (he : PE X e te) : PE X (.FormattedValue e (-1) none pos) (tFmtS te) := by
  refine ⟨fun pins s σ H Q I h => ?_⟩
  refine wpAny_FormattedValue_plain (thn (he.run pins s σ H _ I h) fun v s1 hv => ?_)
  obtain ⟨x, H1, I1, r1, q⟩ := hv
  obtain ⟨y, rfl, hz, q⟩ := q
  obtain ⟨t, rfl⟩ := r1
  exact wpAny_formatField_str ⟨.str y, H1, I1, ⟨t, rfl⟩, q⟩ ⟨.str y, H1, I1.tok _, ⟨_, rfl⟩, q⟩ hz
/-- x in xs, texts -/
def rInX (K : PySem.W.Frag) : R2 := fun x y H Q => rIn K false x y H Q ∨ (∃ (c : Nat) (z : Str), x = .str ⟨#[c]⟩ ∧ y = .str z ∧ Q (.bl (decide (c ∈ z.cps.toList))) H)
theorem op_inX : OpR X (compareOp .In) (rInX X.K) := OpR.or op_in_seq op_in_sign
def rNotInX (K : PySem.W.Frag) : R2 := fun x y H Q => rIn K true x y H Q ∨ (∃ (c : Nat) (z : Str), x = .str ⟨#[c]⟩ ∧ y = .str z ∧ Q (.bl (!decide (c ∈ z.cps.toList))) H)
theorem op_notInX : OpR X (compareOp .NotIn) (rNotInX X.K) := OpR.or op_notIn_seq op_notIn_sign
/-- op= -/
def rAddIp : TIp := fun x y H Q => (rI0 fun i j => .int (i + j)) x y H Q ∨ rExt2 x y H Q
theorem ip_addX : PIp X .Add rAddIp := OpR.or iop_add iop_ext
end
theorem inV_strs (x : Str) : ∀ l : List Str, inV (.str x) (l.map V.str) = decide (x ∈ l)
  | [] => by simp [inV]
  | y :: r => by
    have ih := inV_strs x r
    have e1 : inV (.str x) ((y :: r).map V.str) = (eqV (.str y) (.str x) || inV (.str x) (r.map V.str)) := rfl
    have e2 : eqV (.str y) (.str x) = decide (x = y) := by
      show (y == x) = _
      by_cases e : x = y
      · subst e; simp
      · have e2 : ¬ y = x := fun z => e z.symm
        simp [e, e2]
    rw [e1, ih, e2]
    simp only [List.mem_cons, Bool.decide_or]
theorem flat_strs : ∀ l : List Str, (l.map V.str).all flatV = true
  | [] => rfl
  | y :: r => by simp [flatV, flat_strs r]
/-! ### readings as equations -/
section
variable {K : PySem.W.Frag} {σ : L2.St} {H : Hp} {Q : VK} {D : Ends}
def csO (o : Option (List (Nat × V))) (t : TS) (D : Ends) (σ : L2.St) (H : Hp) (R : Prop) : Prop := match o with
  | some bs => t D (bindsV σ bs) H
  | none => R
def Nx (u : TS) (D : Ends) : L2.St → Hp → Prop := u D
theorem q_seq {t u : TS} (h : t { D with nx := Nx u D } σ H) : tSeq t u D σ H := h
theorem q_nx {u : TS} (h : u D σ H) : Nx u D σ H := h
theorem q_var0 {v : V} : tVar 0 (some v :: σ) H Q = Q v H := by
  apply propext
  constructor
  · rintro ⟨w, e, h⟩; simp at e; subst e; exact h
  · exact fun h => ⟨v, rfl, h⟩
theorem q_varS {i : Nat} {x : Option V} : tVar (i + 1) (x :: σ) H Q = tVar i σ H Q := by
  unfold tVar; simp
theorem q_c {v : V} : tC v σ H Q = Q v H := rfl
theorem q_op {r : R2} {ta tb : TE} : tOp r ta tb σ H Q = ta σ H fun x H1 => tb σ H1 fun y H2 => r x y H2 Q := rfl
theorem q_un {r : V → Hp → VK → Prop} {ta : TE} : tUn r ta σ H Q = ta σ H fun x H1 => r x H1 Q := rfl
theorem q_cb {r : List V → Hp → VK → Prop} {t : TA} : tCB r t σ H Q = t σ H fun vs H1 => r vs H1 Q := rfl
theorem q_call {sp : Sp} {E : XK} {t : TA} : tCall sp [] E t σ H Q = t σ H fun vs H1 => sp vs H1 Q E := by
  show (t σ H fun vs H1 => sp (vs ++ []) H1 Q E) = _
  have e : (fun vs H1 => sp (vs ++ []) H1 Q E) = fun vs H1 => sp vs H1 Q E := by funext vs H1; rw [List.append_nil]
  rw [e]
theorem q_nil {R : List V → Hp → Prop} : tNil σ H R = R [] H := rfl
theorem q_cons {ta : TE} {tr : TA} {R : List V → Hp → Prop} : tCons ta tr σ H R = ta σ H fun x H1 => tr σ H1 fun xs H2 => R (x :: xs) H2 := rfl
theorem q_if {c : TT} {ta tb : TE} : tIf c ta tb σ H Q = c σ H fun b H1 => if b = true then ta σ H1 Q else tb σ H1 Q := rfl
theorem q_test {t : TE} {R : Bool → Hp → Prop} : tTest t σ H R = t σ H fun x H' => ∃ k, x = .bl k ∧ R k H' := rfl
theorem q_tB {t : TE} {R : Bool → Hp → Prop} : tB t σ H R = t σ H fun x H1 => ∃ c, x = .bl c ∧ R c H1 := rfl
theorem q_bl {b : Bool} {P : Bool → Prop} : (∃ k, V.bl b = .bl k ∧ P k) = P b := by
  apply propext; constructor
  · rintro ⟨k, e, h⟩; cases e; exact h
  · exact fun h => ⟨b, rfl, h⟩
theorem q_and {t u : TT} {R : Bool → Hp → Prop} : tAnd t u σ H R = t σ H fun c H1 => if c = true then u σ H1 R else R false H1 := rfl
theorem q_or {t u : TT} {R : Bool → Hp → Prop} : tOr t u σ H R = t σ H fun c H1 => if c = true then R true H1 else u σ H1 R := rfl
theorem q_not {t : TT} {R : Bool → Hp → Prop} : tNot t σ H R = t σ H fun c H1 => R (!c) H1 := rfl
theorem q_andV {ta tb : TE} : tAndV ta tb σ H Q = ta σ H fun x H1 => ∃ c, x = .bl c ∧ if c = true then tb σ H1 Q else Q (.bl false) H1 := rfl
theorem q_orV {ta tb : TE} : tOrV ta tb σ H Q = ta σ H fun x H1 => ∃ c, x = .bl c ∧ if c = true then Q (.bl true) H1 else tb σ H1 Q := rfl
theorem q_notV {ta : TE} : tNotV ta σ H Q = ta σ H fun x H1 => ∃ c, x = .bl c ∧ Q (.bl (!c)) H1 := rfl
theorem q_asg {te : TE} {g : TG} : tAsg te g D σ H = te σ H fun x H1 => g x σ H1 D.nx := rfl
theorem q_gN {i : Nat} {v : V} {R : L2.St → Hp → Prop} : gName i v σ H R = R (σ.set i (some v)) H := rfl
theorem q_ret {te : TE} : tRet te D σ H = te σ H D.rt := rfl
theorem q_retN : tRetN D σ H = D.rt .non H := rfl
theorem q_ifS {c : TT} {t u : TS} : tIfS c t u D σ H = c σ H fun b H1 => if b = true then t D σ H1 else u D σ H1 := rfl
theorem q_drop {te : TE} : tDrop te D σ H = te σ H fun _ H1 => D.nx σ H1 := rfl
theorem q_next : tNext D σ H = D.nx σ H := rfl
theorem q_then {ta : TE} {k : V → Hp → VK → Prop} : tThen ta k σ H Q = ta σ H fun x H1 => k x H1 Q := rfl
theorem q_tupX {t : TA} : tTupX K t σ H Q = t σ H fun xs H1 => mkT K xs H1 Q := rfl
theorem q_lstX {t : TA} : tLstX t σ H Q = t σ H fun xs H1 => mkL xs H1 Q := rfl
theorem q_sub {to ti : TE} {t : TSet} {v : V} {R : L2.St → Hp → Prop} : gSub to ti t v σ H R = to σ H fun o H1 => ti σ H1 fun i H2 => t o i v H2 fun H3 => R σ H3 := rfl
theorem q_par {i j : Nat} {ta : TA} : tPar i j ta D σ H = ta σ H fun vs H1 => ∃ v w, vs = [v, w] ∧ D.nx ((σ.set i (some v)).set j (some w)) H1 := rfl
theorem q_par1 {x y : V} {P : V → V → Prop} : (∃ v w, [x, y] = [v, w] ∧ P v w) = P x y := by
  apply propext; constructor
  · rintro ⟨v, w, e, h⟩; cases e; exact h
  · exact fun h => ⟨x, y, rfl, h⟩
theorem q_par3 {i j l : Nat} {ta : TA} : tPar3 i j l ta D σ H = ta σ H fun vs H1 => ∃ u v w, vs = [u, v, w] ∧ D.nx (((σ.set i (some u)).set j (some v)).set l (some w)) H1 := rfl
theorem q_par31 {x y z : V} {P : V → V → V → Prop} : (∃ u v w, [x, y, z] = [u, v, w] ∧ P u v w) = P x y z := by
  apply propext; constructor
  · rintro ⟨u, v, w, e, h⟩; cases e; exact h
  · exact fun h => ⟨x, y, z, rfl, h⟩
theorem q_M1 {r : V → List V → Hp → VK → Prop} {to te : TE} : tM1 r to te σ H Q = to σ H fun x H1 => (∃ a, x = .str a) ∧ te σ H1 fun y H2 => r x [y] H2 Q := rfl
theorem q_isStr {y : Str} : (∃ z : Str, V.str y = .str z) = True := eq_true ⟨y, rfl⟩
theorem q_BM {T : String} {r : V → List V → Hp → VK → Prop} {to : TE} {t : TA} : tBM K T r to t σ H Q = to σ H fun x H1 => tyV K T x H1 ∧ t σ H1 fun xs H2 => r x xs H2 Q := rfl
theorem q_fs {ts : List TE} : tFS ts σ H Q = tJs ts Str.empty σ H fun out H1 => Q (.str out) H1 := rfl
theorem q_js {t : TE} {ts : List TE} {acc : Str} {R : Str → Hp → Prop} : tJs (t :: ts) acc σ H R = t σ H fun x H1 => ∃ y : Str, x = .str y ∧ (acc ++ y).length ≤ sizeLine ∧ tJs ts (acc ++ y) σ H1 R := rfl
theorem q_js0 {acc : Str} {R : Str → Hp → Prop} : tJs [] acc σ H R = R acc H := rfl
theorem q_js1 {y : Str} {P : Str → Prop} : (∃ z : Str, V.str y = .str z ∧ P z) = P y := by
  apply propext; constructor
  · rintro ⟨k, e, h⟩; cases e; exact h
  · exact fun h => ⟨y, rfl, h⟩
theorem q_fmt {te : TE} : tFmt te σ H Q = te σ H fun x H1 => (∃ y : Str, x = .str y ∧ y.length ≤ sizeLine ∧ Q (.str y) H1) ∨ ∃ i : Int, x = .int i ∧ i.natAbs.log2 < 1920 ∧ Q (.str (toString i : String)) H1 := rfl
theorem q_fmtS {te : TE} : tFmtS te σ H Q = te σ H fun x H1 => ∃ y : Str, x = .str y ∧ y.length ≤ sizeLine ∧ Q (.str y) H1 := rfl
theorem v_inT {x : Str} {a : Addr} {l : List Str} (h : SqT K H a (l.map V.str)) (q : Q (.bl (decide (x ∈ l))) H) : rInX K (.str x) (.ref a) H Q := .inl ⟨a, _, rfl, .inr h, rfl, flat_strs l, by simpa [inV_strs] using q⟩
theorem v_inL {x : Str} {a : Addr} {l : List Str} (h : SqL K H a (l.map V.str)) (q : Q (.bl (decide (x ∈ l))) H) : rInX K (.str x) (.ref a) H Q := .inl ⟨a, _, rfl, .inl h, rfl, flat_strs l, by simpa [inV_strs] using q⟩
theorem v_ninT {x : Str} {a : Addr} {l : List Str} (h : SqT K H a (l.map V.str)) (q : Q (.bl (!decide (x ∈ l))) H) : rNotInX K (.str x) (.ref a) H Q := .inl ⟨a, _, rfl, .inr h, rfl, flat_strs l, by simpa [inV_strs] using q⟩
theorem v_ninL {x : Str} {a : Addr} {l : List Str} (h : SqL K H a (l.map V.str)) (q : Q (.bl (!decide (x ∈ l))) H) : rNotInX K (.str x) (.ref a) H Q := .inl ⟨a, _, rfl, .inl h, rfl, flat_strs l, by simpa [inV_strs] using q⟩
theorem v_in2 {x a b : Str} {p : Addr} (h : SqT K H p [.str a, .str b]) (q : Q (.bl (decide (x = a) || decide (x = b))) H) : rInX K (.str x) (.ref p) H Q :=
  v_inT (l := [a, b]) h (by simpa [Bool.decide_or] using q)
theorem v_in3 {x a b c : Str} {p : Addr} (h : SqT K H p [.str a, .str b, .str c]) (q : Q (.bl (decide (x = a) || decide (x = b) || decide (x = c))) H) : rInX K (.str x) (.ref p) H Q :=
  v_inT (l := [a, b, c]) h (by simpa [Bool.decide_or, Bool.or_assoc] using q)
theorem v_ipL {l b : Addr} {xs ys : List V} (h : H l = some (.lst xs)) (h2 : H b = some (.lst ys)) (z : xs.length + ys.length ≤ sizeLine) (q : ∀ H', Keep [l] H H' → H' l = some (.lst (xs ++ ys)) → Q (.ref l) H') : rAddIp (.ref l) (.ref b) H Q := .inr (v_ext h h2 z q)
theorem v_ipI {i j : Int} (q : Q (.int (i + j)) H) : rAddIp (.int i) (.int j) H Q := .inl ⟨i, j, rfl, rfl, q⟩
theorem q_aug {i : Nat} {te : TE} {ti : TIp} : tAug i te ti D σ H = ∃ x, σ[i]? = some (some x) ∧ te σ H fun y H1 => ti x y H1 fun z H2 => D.nx (σ.set i (some z)) H2 := rfl
theorem q_get {v : V} {P : V → Prop} : (∃ x, some (some v) = some (some x) ∧ P x) = P v := by
  apply propext; constructor
  · rintro ⟨x, e, h⟩; cases e; exact h
  · exact fun h => ⟨v, rfl, h⟩
theorem q_fmt1 {y : Str} {P : Str → Prop} {P2 : Int → Prop} : ((∃ z : Str, V.str y = .str z ∧ P z) ∨ ∃ i : Int, V.str y = .int i ∧ P2 i) = P y := by
  apply propext; constructor
  · rintro (⟨k, e, h⟩ | ⟨i, e, _⟩)
    · cases e; exact h
    · cases e
  · exact fun h => .inl ⟨y, rfl, h⟩
theorem q_iseq {tl : TE} {R : It → Hp → Prop} : iSeq K tl σ H R = tl σ H fun x H1 => ∃ a, x = .ref a ∧ ((∃ xs, SqL K H1 a xs) ∧ R (Itl K a) H1 ∨ (∃ xs, SqT K H1 a xs) ∧ R (Itt K a) H1) := rfl
theorem q_ref {a : Addr} {P : Addr → Prop} : (∃ b, V.ref a = .ref b ∧ P b) = P a := by
  apply propext; constructor
  · rintro ⟨k, e, h⟩; cases e; exact h
  · exact fun h => ⟨a, rfl, h⟩
theorem q_match {te : TE} {cs : List (Option (List PEl) × TS)} : tMatch K te cs D σ H = te σ H fun x H1 => ∃ a xs, x = .ref a ∧ SqT K H1 a xs ∧ tCases cs xs D σ H1 := rfl
theorem q_yes {R : Bool → Hp → Prop} : tYes σ H R = R true H := rfl
theorem q_iteT {A B : Prop} : (if true = true then A else B) = A := by simp
theorem q_iteF {A B : Prop} : (if false = true then A else B) = B := by simp
theorem ite_and {p q A T : Prop} [Decidable p] [Decidable q] (ha : p → q → A) (t : T) : if decide p = true then (if decide q = true then A else T) else T := by
  by_cases hp : p
  · refine ite_d hp ?_
    by_cases hq : q
    · exact ite_d hq (ha hp hq)
    · exact ite_n hq t
  · exact ite_n hp t
theorem q_set0 {α : Type} {x y : α} {l : List α} : (x :: l).set 0 y = y :: l := rfl
theorem q_setS {α : Type} {x y : α} {l : List α} {i : Nat} : (x :: l).set (i + 1) y = x :: l.set i y := rfl
theorem map_toNat_inj : ∀ {a b : List Char}, a.map Char.toNat = b.map Char.toNat → a = b
  | [], [], _ => rfl
  | [], _ :: _, h => by simp at h
  | _ :: _, [], h => by simp at h
  | x :: a, y :: b, h => by
    simp only [List.map_cons, List.cons.injEq] at h
    rw [map_toNat_inj h.2, Char.ext (UInt32.toNat_inj.mp h.1)]
theorem q_lit {a b : String} : (Str.ofString a = Str.ofString b) = (a = b) := by
  apply propext; constructor
  · intro h
    rw [Str.ofString_eq_toList, Str.ofString_eq_toList] at h
    have h2 := congrArg (fun s : Str => s.cps.toList) h
    simp only at h2
    exact String.toList_inj.mp (map_toNat_inj h2)
  · exact fun h => by rw [h]
/-! loops -/
def LoopX (J : It) (g : TG) (tb : TS) (D : Ends) (σ : L2.St) (H : Hp) : Prop := ∃ W : Nat → Nat → L2.St → Hp → Prop, (∃ m, W 0 m σ H) ∧ ∀ i m σ H, W i m σ H →
  (J.stop i H ∧ D.nx σ H) ∨ (J.go i H ∧ ∃ N : L2.St → Hp → Prop, (∀ σ' H', N σ' H' → ∃ m', m' < m ∧ W (i + 1) m' σ' H') ∧ ∀ x H', J.yld i H x H' → g x σ H' fun σ2 H2 => tb { D with nx := N, ct := N, bk := D.nx } σ2 H2)
theorem q_for {wi : TI} {g : TG} {tb : TS} : tFor wi g tb D σ H = wi σ H fun J H1 => LoopX J g tb D σ H1 := rfl
theorem loop_T {a : Addr} {xs : List V} {g : TG} {tb : TS} (Pv : Nat → L2.St → Hp → Prop) (h0 : Pv 0 σ H) (hl : ∀ i σ H, i ≤ xs.length → Pv i σ H → SqT K H a xs)
    (hs : ∀ i x σ H, xs[i]? = some x → Pv i σ H → g x σ H fun σ2 H2 => tb { D with nx := Pv (i + 1), ct := Pv (i + 1), bk := D.nx } σ2 H2) (hd : ∀ σ H, Pv xs.length σ H → D.nx σ H) : LoopX (Itt K a) g tb D σ H := for_tup Pv h0 hl hs hd
theorem loop_L {a : Addr} {xs : List V} {g : TG} {tb : TS} (Pv : Nat → L2.St → Hp → Prop) (h0 : Pv 0 σ H) (hl : ∀ i σ H, i ≤ xs.length → Pv i σ H → SqL K H a xs)
    (hs : ∀ i x σ H, xs[i]? = some x → Pv i σ H → g x σ H fun σ2 H2 => tb { D with nx := Pv (i + 1), ct := Pv (i + 1), bk := D.nx } σ2 H2) (hd : ∀ σ H, Pv xs.length σ H → D.nx σ H) : LoopX (Itl K a) g tb D σ H := for_list Pv h0 hl hs hd
theorem loop_R {lo : Int} {n : Nat} {g : TG} {tb : TS} (Pv : Nat → L2.St → Hp → Prop) (h0 : Pv 0 σ H)
    (hs : ∀ i σ H, i < n → Pv i σ H → g (.int (lo + i)) σ H fun σ2 H2 => tb { D with nx := Pv (i + 1), ct := Pv (i + 1), bk := D.nx } σ2 H2) (hd : ∀ σ H, Pv n σ H → D.nx σ H) : LoopX (Itr lo n) g tb D σ H := for_range Pv h0 hs hd
theorem q_rng1 {ta : TA} {R : It → Hp → Prop} : iRng1 ta σ H R = ta σ H fun vs H1 => ∃ j : Int, vs = [.int j] ∧ -(2 ^ 62) ≤ j ∧ j < 2 ^ 62 ∧ R (Itr 0 j.toNat) H1 := rfl
theorem q_one {i : Int} {P : Int → Prop} : (∃ j, [V.int i] = [.int j] ∧ P j) = P i := by
  apply propext; constructor
  · rintro ⟨j, e, h⟩; cases e; exact h
  · exact fun h => ⟨i, rfl, h⟩
/-! comprehensions -/
def CompX (J : It) (g : TG) (tt : TT) (te : TE) (vs : List Nat) (σ : L2.St) (H1 : Hp) (Q : VK) : Prop := ∀ D, H1 D = none → ∃ W : Nat → Nat → Hp → Prop, (∃ m, W 0 m (upd H1 D (.lst []))) ∧ ∀ i m H, W i m H →
  (J.stop i H ∧ Q (.ref D) H) ∨ (J.go i H ∧ ∃ Nx : Hp → Prop, (∀ H', Nx H' → ∃ m', m' < m ∧ W (i + 1) m' H') ∧ ∀ x H', J.yld i H x H' → g x (wipe σ vs) H' fun σ2 H2 => wipe σ2 vs = wipe σ vs ∧ tt σ2 H2 fun b H3 =>
    if b = true then te σ2 H3 fun y H4 => ∃ acc, H4 D = some (.lst acc) ∧ acc.length < sizeLine ∧ Nx (upd H4 D (.lst (acc ++ [y]))) else Nx H3)
theorem q_lc {wi : TI} {g : TG} {tt : TT} {te : TE} {vs : List Nat} : tLc wi g tt te vs σ H Q = wi σ H fun J H1 => CompX J g tt te vs σ H1 Q := rfl
/-- what is wanted of a turn's element: it is laid at the end of D -/
def Laid (D : Addr) (R : Hp → List V → Prop) (y : V) (H4 : Hp) : Prop := ∃ acc, H4 D = some (.lst acc) ∧ acc.length < sizeLine ∧ ∀ H5, Keep [D] H4 H5 → H5 D = some (.lst (acc ++ [y])) → R H5 (acc ++ [y])
theorem comp_gen {J : It} {g : TG} {tt : TT} {te : TE} {vs : List Nat} (n : Nat) (Pv : Addr → Nat → Hp → Prop) (h0 : ∀ D H2, H D = none → Keep [] H H2 → H2 D = some (.lst []) → Pv D 0 H2)
    (hstop : ∀ D H2, Pv D n H2 → J.stop n H2) (hgo : ∀ D i H2, i < n → Pv D i H2 → J.go i H2)
    (hs : ∀ D i H2 x H3, H D = none → i < n → Pv D i H2 → J.yld i H2 x H3 → g x (wipe σ vs) H3 fun σ2 H4 => wipe σ2 vs = wipe σ vs ∧ tt σ2 H4 fun b H5 =>
      if b = true then te σ2 H5 fun y H6 => ∃ acc, H6 D = some (.lst acc) ∧ acc.length < sizeLine ∧ Pv D (i + 1) (upd H6 D (.lst (acc ++ [y]))) else Pv D (i + 1) H5)
    (hd : ∀ D H2, H D = none → Pv D n H2 → Q (.ref D) H2) : CompX J g tt te vs σ H Q := by
  intro D hD
  refine ⟨fun i m H2 => m = n - i ∧ i ≤ n ∧ Pv D i H2, ⟨n, by simp, Nat.zero_le _, h0 D _ hD (Keep.new hD) upd_same⟩, ?_⟩
  rintro i m H2 ⟨rfl, hi, p⟩
  by_cases hlt : i < n
  · exact .inr ⟨hgo D i H2 hlt p, Pv D (i + 1), fun H' p' => ⟨n - (i + 1), by omega, rfl, hlt, p'⟩, fun x H3 y => hs D i H2 x H3 hD hlt p y⟩
  · have e : i = n := by omega
    subst e
    exact .inl ⟨hstop D H2 p, hd D H2 hD p⟩
theorem q_wp0 {σ : L2.St} : wipe σ [] = σ := rfl
theorem q_wpS {σ : L2.St} {v : Nat} {vs : List Nat} : wipe σ (v :: vs) = (wipe σ vs).set v none := rfl
/-! cases -/
theorem q_cs0 {xs : List V} : tCases [] xs D σ H = D.nx σ H := rfl
theorem q_csN {t : TS} {r : List (Option (List PEl) × TS)} {xs : List V} : tCases ((none, t) :: r) xs D σ H = t D σ H := rfl
theorem q_cs {es : List PEl} {t : TS} {r : List (Option (List PEl) × TS)} {xs : List V} : tCases ((some es, t) :: r) xs D σ H = if es.length = xs.length then litOk es xs ∧ csO (pmV es xs) t D σ H (tCases r xs D σ H) else tCases r xs D σ H := by
  conv => lhs; unfold tCases
  unfold csO
  cases pmV es xs <;> rfl
theorem q_csO {bs : List (Nat × V)} {t : TS} {R : Prop} : csO (some bs) t D σ H R = t D (bindsV σ bs) H := rfl
theorem q_csM {t : TS} {R : Prop} : csO none t D σ H R = R := rfl
theorem q_pm0 {vs : List V} : pmV [] vs = some [] := by unfold pmV; rfl
theorem q_pmL {x y : Str} {ps : List PEl} {vs : List V} : pmV (.lit x :: ps) (.str y :: vs) = if y = x then pmV ps vs else none := by
  rw [pmV]
  by_cases e : y = x
  · rw [if_pos e, if_pos (congrArg V.str e)]
  · rw [if_neg e, if_neg fun z => e (V.str.inj z)]
theorem q_pmC {i : Nat} {v : V} {ps : List PEl} {vs : List V} : pmV (.cap i :: ps) (v :: vs) = (pmV ps vs).map ((i, v) :: ·) := by rw [pmV]
theorem q_pmA {v : V} {ps : List PEl} {vs : List V} : pmV (.any :: ps) (v :: vs) = pmV ps vs := by rw [pmV]
theorem q_lo0 {vs : List V} : litOk [] vs = True := by unfold litOk; rfl
theorem q_loL {x y : Str} {ps : List PEl} {vs : List V} : litOk (.lit x :: ps) (.str y :: vs) = litOk ps vs := by
  rw [litOk]; exact propext ⟨fun h => h.2, fun h => ⟨⟨y, rfl⟩, h⟩⟩
theorem q_loC {i : Nat} {v : V} {ps : List PEl} {vs : List V} : litOk (.cap i :: ps) (v :: vs) = litOk ps vs := by rw [litOk]; intro x h; cases h
theorem q_loA {v : V} {ps : List PEl} {vs : List V} : litOk (.any :: ps) (v :: vs) = litOk ps vs := by rw [litOk]; intro x h; cases h
theorem q_bv0 : bindsV σ [] = σ := rfl
theorem q_bvS {i : Nat} {v : V} {bs : List (Nat × V)} : bindsV σ ((i, v) :: bs) = bindsV (σ.set i (some v)) bs := rfl
/-! values -/
theorem q_addI {i j : Int} : rAdd K (.int i) (.int j) H Q = Q (.int (i + j)) H := by
  apply propext; constructor
  · rintro (⟨a, b, e1, e2, h⟩ | ⟨a, b, e1, _⟩ | ⟨a, b, _, _, e1, _⟩ | ⟨a, b, _, _, e1, _⟩) <;> cases e1
    cases e2; exact h
  · exact v_addI
theorem q_addS {i j : Str} : rAdd K (.str i) (.str j) H Q = (i.length + j.length ≤ sizeLine ∧ Q (.str (i ++ j)) H) := by
  apply propext; constructor
  · rintro (⟨a, b, e1, e2, h⟩ | ⟨a, b, e1, e2, h⟩ | ⟨a, b, _, _, e1, _⟩ | ⟨a, b, _, _, e1, _⟩) <;> cases e1
    cases e2; exact h
  · exact fun h => v_addS h.1 h.2
theorem q_i0 {g : Int → Int → V} {i j : Int} : rI0 g (.int i) (.int j) H Q = Q (g i j) H := by
  apply propext; constructor
  · rintro ⟨a, b, e1, e2, h⟩; cases e1; cases e2; exact h
  · exact fun h => ⟨i, j, rfl, rfl, h⟩
theorem q_i {C : Int → Int → Prop} {g : Int → Int → V} {i j : Int} : rI C g (.int i) (.int j) H Q = (C i j ∧ Q (g i j) H) := by
  apply propext; constructor
  · rintro ⟨a, b, e1, e2, h⟩; cases e1; cases e2; exact h
  · exact fun h => ⟨i, j, rfl, rfl, h⟩
theorem q_u {g : Int → V} {i : Int} : rU g (.int i) H Q = Q (g i) H := by
  apply propext; constructor
  · rintro ⟨a, e1, h⟩; cases e1; exact h
  · exact fun h => ⟨i, rfl, h⟩
theorem dec_str {a b : Str} : decide (V.str a = V.str b) = decide (a = b) := by
  by_cases q : a = b
  · rw [decide_eq_true q, decide_eq_true (congrArg V.str q)]
  · rw [decide_eq_false q, decide_eq_false fun z => q (V.str.inj z)]
theorem dec_int {a b : Int} : decide (V.int a = V.int b) = decide (a = b) := by
  by_cases q : a = b
  · rw [decide_eq_true q, decide_eq_true (congrArg V.int q)]
  · rw [decide_eq_false q, decide_eq_false fun z => q (V.int.inj z)]
theorem q_eqS {a b : Str} : rEqX K (.str a) (.str b) H Q = Q (.bl (decide (a = b))) H := by
  apply propext; constructor
  · rintro (⟨_, h⟩ | ⟨d, e, hd, he, _, _, h⟩)
    · rw [dec_str] at h; exact h
    · cases hd; cases he
      have e : PyData.eqv (.str a) (.str b) = decide (a = b) := by simp [PyData.eqv]; rfl
      rw [e] at h; exact h
  · exact v_eqS
theorem q_neS {a b : Str} : rNeX K (.str a) (.str b) H Q = Q (.bl (!decide (a = b))) H := by
  apply propext; constructor
  · rintro (⟨_, h⟩ | ⟨d, e, hd, he, _, _, h⟩)
    · rw [dec_str] at h; exact h
    · cases hd; cases he
      have e : PyData.eqv (.str a) (.str b) = decide (a = b) := by simp [PyData.eqv]; rfl
      rw [e] at h; exact h
  · exact v_neS
theorem q_eqI {a b : Int} : rEqX K (.int a) (.int b) H Q = Q (.bl (decide (a = b))) H := by
  apply propext; constructor
  · rintro (⟨_, h⟩ | ⟨d, e, hd, he, _, _, h⟩)
    · rw [dec_int] at h; exact h
    · cases hd; cases he
      have e : PyData.eqv (.int a) (.int b) = decide (a = b) := by simp [PyData.eqv]; rfl
      rw [e] at h; exact h
  · exact v_eqI
theorem q_neI {a b : Int} : rNeX K (.int a) (.int b) H Q = Q (.bl (!decide (a = b))) H := by
  apply propext; constructor
  · rintro (⟨_, h⟩ | ⟨d, e, hd, he, _, _, h⟩)
    · rw [dec_int] at h; exact h
    · cases hd; cases he
      have e : PyData.eqv (.int a) (.int b) = decide (a = b) := by simp [PyData.eqv]; rfl
      rw [e] at h; exact h
  · exact v_neI
theorem q_int1 {i : Int} : rInt1 [.int i] H Q = Q (.int i) H := by
  apply propext; constructor
  · rintro (⟨a, e, h⟩ | ⟨a, e, h⟩) <;> cases e; exact h
  · exact v_int
theorem q_int1B {b : Bool} : rInt1 [.bl b] H Q = Q (.int (if b then 1 else 0)) H := by
  apply propext; constructor
  · rintro (⟨a, e, h⟩ | ⟨a, e, h⟩) <;> cases e; exact h
  · exact v_intB
theorem q_str1 {i : Int} : rStr1 [.int i] H Q = (i.natAbs.log2 < 1920 ∧ Q (.str (toString i : String)) H) := by
  apply propext; constructor
  · rintro ⟨a, e, h⟩; cases e; exact h
  · exact fun h => v_str h.1 h.2
theorem q_max2 {i j : Int} : rMax2 [.int i, .int j] H Q = Q (.int (if j > i then j else i)) H := by
  apply propext; constructor
  · rintro ⟨a, b, e, h⟩; cases e; exact h
  · exact v_max
end
end M

namespace M
open PySem PySem.Spec PyProof.Rows L2
/-! ### a written dict of texts -/
/-- the dict at d of the written part has just these texts -/
structure KTab (K : PySem.W.Frag) (w : World) (d : Addr) (kvs : List (Str × Str)) : Prop where
  dict : ∃ es n, KDict K w d es n
  has : ∀ p ∈ kvs, ∃ u, PySem.W.nsIn K d p.1 = some (some u) ∧ RelV (.str p.2) u
  not : ∀ x : Str, (∀ p ∈ kvs, p.1 ≠ x) → PySem.W.nsIn K d x = some none
def rKin (d : Addr) (kvs : List (Str × Str)) : R2 := fun x y H Q => ∃ z : Str, x = .str z ∧ y = .ref d ∧ Q (.bl (kvs.any fun p => decide (p.1 = z))) H
def rKget (d : Addr) (kvs : List (Str × Str)) : R2 := fun x y H Q => ∃ (z v : Str), x = .ref d ∧ y = .str z ∧ (z, v) ∈ kvs ∧ Q (.str v) H
section
variable {X : Cx}
theorem op_kin {d : Addr} {kvs : List (Str × Str)} (T : KTab X.K X.w d kvs) : OpR X (compareOp .In) (rKin d kvs) := by
  intro pins s σ H x y v u Q I rx ry h
  obtain ⟨z, rfl, rfl, q⟩ := h
  obtain ⟨es, n, D⟩ := T.dict
  refine op_in_kd D pins s σ H _ _ v u Q I rx ry ?_
  by_cases e : ∃ p ∈ kvs, p.1 = z
  · obtain ⟨p, hp, rfl⟩ := e
    obtain ⟨u0, h1, h2⟩ := T.has p hp
    refine ⟨p.1, some u0, rfl, rfl, h1, ?_⟩
    have e2 : (kvs.any fun q => decide (q.1 = p.1)) = true := List.any_eq_true.mpr ⟨p, hp, by simp⟩
    rw [e2] at q
    exact q
  · refine ⟨z, none, rfl, rfl, T.not z fun p hp e2 => e ⟨p, hp, e2⟩, ?_⟩
    have e2 : (kvs.any fun q => decide (q.1 = z)) = false := by
      rw [List.any_eq_false]
      intro p hp
      simp only [decide_eq_true_eq]
      exact fun e3 => e ⟨p, hp, e3⟩
    rw [e2] at q
    exact q
theorem ix_kget {d : Addr} {kvs : List (Str × Str)} (T : KTab X.K X.w d kvs) : IxR X (rKget d kvs) := by
  intro value slice pins s σ H x y v u Q I rx ry h hs
  obtain ⟨z, t, rfl, rfl, hp, q⟩ := h
  obtain ⟨es, n, D⟩ := T.dict
  obtain ⟨u0, h1, h2⟩ := T.has _ hp
  exact ix_kdict value slice pins s σ H _ _ v u Q I rx ry ⟨d, z, .str t, rfl, rfl, ⟨es, n, u0, D.at_, D.lit, h1, h2⟩, q⟩ hs
end
section
variable {K : PySem.W.Frag} {σ : L2.St} {H : Hp} {Q : VK} {D : Ends}
theorem q_kin {d : Addr} {kvs : List (Str × Str)} {z : Str} : rKin d kvs (.str z) (.ref d) H Q = Q (.bl (kvs.any fun p => decide (p.1 = z))) H := by
  apply propext; constructor
  · rintro ⟨z', e, _, h⟩; cases e; exact h
  · exact fun h => ⟨z, rfl, rfl, h⟩
theorem v_kget {d : Addr} {kvs : List (Str × Str)} {z : Str} (v : Str) (m : (z, v) ∈ kvs) (q : Q (.str v) H) : rKget d kvs (.ref d) (.str z) H Q := ⟨z, v, rfl, rfl, m, q⟩
/-- == with the empty tuple -/
theorem v_eqE {a p : Addr} {ds : List PyData} (h : Im K H (.ref a) (.tuple ds)) (h2 : SqT K H p []) (sh : SeqAt.shaped (.tuple ds) = true) (q : Q (.bl ds.isEmpty) H) : rEqX K (.ref a) (.ref p) H Q := by
  refine .inr ⟨.tuple ds, .tuple [], h.dp, .tup h2 .nil, sh, by decide +kernel, ?_⟩
  have e : PyData.eqv (.tuple ds) (.tuple []) = ds.isEmpty := by
    cases ds <;> simp [PyData.eqv, PyData.eqvAll]
  rw [e]; exact q
end
/-! ### blocks that == can look at -/
def LayB (b : List Stm) : Prop := SeqAt.shaped (.tuple (blkD b)) = true
theorem shaped_iff (d : PyData) : SeqAt.shaped d = true ↔ d.canLay0 = true ∧ d.depth ≤ 64 := by
  unfold SeqAt.shaped; simp
theorem lay_tup (ds : List PyData) : SeqAt.shaped (.tuple ds) = true ↔ (∀ d ∈ ds, d.canLay0 = true ∧ d.depth ≤ 63) := by
  rw [shaped_iff]
  simp only [PyData.canLay0, PyData.depth]
  have h1 : ∀ l : List PyData, PyData.canLayAll0 l = true ↔ ∀ d ∈ l, d.canLay0 = true := by
    intro l
    induction l with
    | nil => simp [PyData.canLayAll0]
    | cons x r ih => simp [PyData.canLayAll0, ih]
  have h2 : ∀ (l : List PyData) (n : Nat), PyData.depthAll l ≤ n ↔ ∀ d ∈ l, d.depth ≤ n := by
    intro l n
    induction l with
    | nil => simp [PyData.depthAll]
    | cons x r ih =>
      simp only [PyData.depthAll, List.mem_cons, forall_eq_or_imp, ← ih]
      omega
  rw [h1, show PyData.depthAll ds + 1 ≤ 64 ↔ PyData.depthAll ds ≤ 63 by omega, h2]
  constructor
  · exact fun h d m => ⟨h.1 d m, h.2 d m⟩
  · exact fun h => ⟨fun d m => (h d m).1, fun d m => (h d m).2⟩
theorem lay_sub {ds es : List PyData} (h : SeqAt.shaped (.tuple ds) = true) (m : .tuple es ∈ ds) : SeqAt.shaped (.tuple es) = true := by
  have h2 := (lay_tup ds).mp h _ m
  exact (shaped_iff _).mpr ⟨h2.1, by omega⟩
theorem LayB.get {b : List Stm} (h : LayB b) {i : Nat} {s : Stm} (e : b[i]? = some s) : SeqAt.shaped s.d = true := by
  have m : s.d ∈ blkD b := by rw [blkD_map]; exact List.mem_map_of_mem (List.mem_of_getElem? e)
  have h2 := (lay_tup (blkD b)).mp h _ m
  exact (shaped_iff _).mpr ⟨h2.1, by omega⟩
end M

namespace M
open PySem L2
def isIntD : PyData → Bool
  | .int _ => true
  | _ => false
def sp_is_integer (K : PySem.W.Frag) : Sp := fun vs H Q _ => ∃ v d, vs = [v] ∧ Im K H v d ∧ Q (.bl (isIntD d)) H
theorem v_isint {K : PySem.W.Frag} {H : Hp} {Q : VK} {E : XK} {v : V} {d : PyData} (h : Im K H v d) (q : Q (.bl (isIntD d)) H) : sp_is_integer K [v] H Q E := ⟨v, d, rfl, h, q⟩
theorem v_isintI {K : PySem.W.Frag} {H : Hp} {Q : VK} {E : XK} {i : Int} (q : Q (.bl true) H) : sp_is_integer K [.int i] H Q E := ⟨_, _, rfl, .int i, q⟩
theorem v_isintT {K : PySem.W.Frag} {H : Hp} {Q : VK} {E : XK} {a : Addr} {ds : List PyData} (h : Im K H (.ref a) (.tuple ds)) (q : Q (.bl false) H) : sp_is_integer K [.ref a] H Q E := ⟨_, _, rfl, h, q⟩
end M
open PySem L2 M
local macro_rules | `(tactic| row_readAll sq) => `(tactic| first | assumption | exact Keep.sqT (by assumption) (by row_readAll sq))
local macro_rules | `(tactic| row_readAll im) => `(tactic| first | assumption | exact Im.mono (by assumption) (by row_readAll im))
local macro_rules | `(tactic| row_readAll ni) => `(tactic| first | exact List.not_mem_nil | (simp only [List.mem_cons, List.not_mem_nil, or_false, not_or]; first | assumption | (exact Ne.symm (by assumption)) | (refine ⟨?_, ?_⟩ <;> first | assumption | (exact Ne.symm (by assumption)))))
local macro_rules | `(tactic| row_readAll ob) => `(tactic| first | assumption | exact Keep.obj (by assumption) _ _ (by row_readAll ni) (by row_readAll ob))
local macro_rules | `(tactic| row_readAll n) => `(tactic| simp only [q_var0, q_varS, q_c, q_op, q_un, q_cb, q_call, q_nil, q_cons, q_if, q_test, q_tB, q_bl, q_and, q_or, q_not, q_andV, q_orV, q_notV, q_asg, q_gN, q_ret, q_retN, q_ifS, q_drop, q_next, q_then, q_tupX, q_lstX, q_sub, q_par, q_par1, q_par3, q_par31,
  q_M1, q_isStr, q_BM, q_fs, q_js, q_js0, q_js1, q_fmtS, str_e, q_iseq, q_ref, q_for, q_rng1, q_one, q_lc, q_wp0, q_wpS, q_kin, q_aug, q_get, List.getElem?_cons_zero, List.getElem?_cons_succ,  q_match, q_yes, q_iteT, q_iteF, q_set0, q_setS, q_addI, q_addS, q_i0, q_i, q_u, q_eqS, q_neS, q_eqI, q_neI, q_int1, q_int1B, q_str1, q_max2, Bool.not_true, Bool.not_false, true_and, if_true, if_false, Bool.false_eq_true, decide_true, decide_false, q_lit, String.reduceEq, opW, q_cs0, q_csN, q_cs, q_csO, q_csM, q_pm0, q_pmL, q_pmC, q_pmA, q_lo0, q_loL, q_loC, q_loA, q_bv0, q_bvS, List.length_cons, List.length_nil, Nat.reduceAdd, Nat.reduceEqDiff, Option.map_some, Option.map_none])
local macro_rules | `(tactic| row_readAll br) => `(tactic| first
  | with_reducible refine ite_d (by with_reducible rfl) ?_
  | with_reducible refine ite_n (by decide +kernel) ?_
  | with_reducible refine ite_nd (by with_reducible rfl) ?_
  | with_reducible refine ite_nn (by decide +kernel) ?_)
local macro_rules | `(tactic| row_readAll s2) => `(tactic| first
  | ((with_reducible show rIx _ (V.ref _) (V.int _) _ _); refine v_ixT (by row_readAll sq) (by rfl) ?_)
  | with_reducible refine v_match (by row_readAll sq) ?_
  | with_reducible refine v_isintI ?_
  | ((with_reducible show sp_is_integer _ [V.ref _] _ _ _); refine v_isintT (by row_readAll im) ?_)
  | ((with_reducible show rIsi _ [V.int _, V.ty _] _ _); first | refine v_isiI (b := true) (by rfl) ?_ | refine v_isiI (b := false) (by rfl) ?_)
  | ((with_reducible show rIsi _ [V.bl _, V.ty _] _ _); first | refine v_isiB (b := true) (by rfl) ?_ | refine v_isiB (b := false) (by rfl) ?_)
  | ((with_reducible show rIsi _ [V.str _, V.ty _] _ _); first | refine v_isiS (b := true) (by rfl) ?_ | refine v_isiS (b := false) (by rfl) ?_)
  | ((with_reducible show rIsi _ [V.non, V.ty _] _ _); first | refine v_isi (b := true) (.base .non) (by rfl) ?_ | refine v_isi (b := false) (.base .non) (by rfl) ?_)
  | ((with_reducible show rIsi _ [V.ref _, V.ty _] _ _); first | refine v_isiT (b := true) (by row_readAll sq) (by rfl) ?_ | refine v_isiT (b := false) (by row_readAll sq) (by rfl) ?_))
local macro_rules | `(tactic| row_readAll op) => `(tactic| (
  (try simp only [Stm.d, Ex.d] at hi); obtain ⟨a, xs, rfl, hs, ha⟩ := hi.of_tup; (try (obtain ⟨v0, r, rfl, h0, ha⟩ := ha.of_cons; cases h0.of_str));
  (try (obtain ⟨v1, r, rfl, h1, ha⟩ := ha.of_cons; try cases h1.of_str)); (try (obtain ⟨v2, r, rfl, h2, ha⟩ := ha.of_cons; try cases h2.of_str));
  (try (obtain ⟨v3, r, rfl, h3, ha⟩ := ha.of_cons; try cases h3.of_str)); cases ha.of_nil))
local macro_rules | `(tactic| row_readAll sz) => `(tactic| first | omega | (simp only [sl_eq, str_len]; omega) | (simp only [sl_eq, str_len] at *; omega))
local macro_rules | `(tactic| row_readAll nx) => `(tactic| first | with_reducible refine q_seq ?_ | with_reducible refine q_nx ?_)
local macro_rules | `(tactic| row_readAll s) => `(tactic| first | row_readAll n | row_readAll s2 | row_readAll br | row_readAll nx)
local macro_rules | `(tactic| row_readAll go) => `(tactic| repeat row_readAll s)
local macro_rules | `(tactic| row_readAll kp) => `(tactic| first | assumption | exact Keep.refl _ _ | exact Keep.back (by assumption) (by row_readAll kp) | exact Keep.back0 (by assumption) (by row_readAll kp))
local macro_rules | `(tactic| row_readAll ln) => `(tactic| (simp only [List.length_cons, List.length_nil, sl_eq]; decide))
local macro_rules | `(tactic| row_readAll s3) => `(tactic| first
  | row_readAll s
  | ((with_reducible show _ ≤ sizeLine ∧ _); refine ⟨by row_readAll sz, ?_⟩)
  | ((with_reducible show mkT _ _ _ _); refine v_mkT (by row_readAll ln) fun _ _ _ _ _ => ?_)
  | ((with_reducible show rInX _ (V.str _) (V.ref _) _ _); first | refine v_in2 (by row_readAll sq) ?_ | refine v_in3 (by row_readAll sq) ?_)
  | (simp only [Bool.or_false, Bool.or_true, Bool.true_or, Bool.false_or, Bool.and_true, Bool.true_and, Bool.false_and, Bool.and_false]))
local macro_rules | `(tactic| row_readAll ga) => `(tactic| repeat row_readAll s3)
namespace M
open PySem L2
def t_is_integer (K : PySem.W.Frag)  : TS := (tRet (tAndV (tCB (rIsi K) (tCons (tVar 0) (tCons (tC (.ty "int")) tNil))) (tNotV (tCB (rIsi K) (tCons (tVar 0) (tCons (tC (.ty "bool")) tNil))))))
def n_is_integer : List Str := ["value"]
theorem pure_is_integer {K : PySem.W.Frag} (vs : List V) (H : Hp) (Q : VK) (E : XK) (h : sp_is_integer K vs H Q E) : t_is_integer K { nx := fun _ H' => Q .non H', rt := Q } (start n_is_integer vs) H := by
  obtain ⟨v, d, rfl, hi, q⟩ := h
  show t_is_integer K _ [some v] H
  unfold t_is_integer
  cases hi <;> (row_readAll go; exact q)
def t_format_expression (K : PySem.W.Frag) (sp : Sp) : TS := (tSeq (tIfS (tB (tCall (sp_is_integer K) [] E0 (tCons (tVar 0) tNil))) (tRet (tCB rStr1 (tCons (tVar 0) tNil))) tNext)
  (tSeq (tIfS (tTest (tOp (rEqX K) (tOp (rIx K) (tVar 0) (tC (.int 0))) (tC (.str "name")))) (tRet (tOp (rIx K) (tVar 0) (tC (.int 1)))) tNext)
  (tSeq (tIfS (tTest (tOp (rEqX K) (tOp (rIx K) (tVar 0) (tC (.int 0))) (tC (.str "of")))) (tRet (tOp (rAdd K) (tOp (rAdd K) (tOp (rIx K) (tVar 0) (tC (.int 1))) (tC (.str "."))) (tOp (rIx K) (tVar 0) (tC (.int 2))))) tNext)
  (tSeq (tAsg (tIf (tTest (tOp (rEqX K) (tOp (rIx K) (tVar 0) (tC (.int 0))) (tC (.str "sum")))) (tC (.str " + ")) (tC (.str " < "))) (gName 1))
  (tRet (tOp (rAdd K) (tOp (rAdd K) (tOp (rAdd K) (tOp (rAdd K) (tC (.str "(")) (tCall sp [] E0 (tCons (tOp (rIx K) (tVar 0) (tC (.int 1))) tNil))) (tVar 1)) (tCall sp [] E0 (tCons (tOp (rIx K) (tVar 0) (tC (.int 2))) tNil))) (tC (.str ")"))))))))
def n_format_expression : List Str := ["expr", "sign"]
def sp_format_expression (K : PySem.W.Frag) (n : Nat) : Sp := fun vs H Q _ => ∃ v e, vs = [v] ∧ Im K H v (Ex.d e) ∧ e.fits ∧ e.txt.length ≤ 100000 ∧ e.dep < n ∧ Q (.str e.txt) H
theorem v_fe {K : PySem.W.Frag} {n : Nat} {H : Hp} {Q : VK} {E : XK} {v : V} {e : Ex} (h : Im K H v e.d) (f : e.fits) (l : e.txt.length ≤ 100000) (d : e.dep < n) (q : Q (.str e.txt) H) : sp_format_expression K n [v] H Q E := ⟨v, e, rfl, h, f, l, d, q⟩
theorem pure_format_expression {K : PySem.W.Frag} {n : Nat} (vs : List V) (H : Hp) (Q : VK) (E : XK) (h : sp_format_expression K (n + 1) vs H Q E) : t_format_expression K (sp_format_expression K n) { nx := fun _ H' => Q .non H', rt := Q } (start n_format_expression vs) H := by
  obtain ⟨v, e, rfl, hi, hf, hl, hd, q⟩ := h
  show t_format_expression K _ _ [some v, none] H
  unfold t_format_expression
  cases e with
  | int i =>
    cases hi
    row_readAll go
    exact ⟨hf, q⟩
  | nm m =>
    obtain ⟨a, xs, rfl, hs, ha⟩ := hi.of_tup
    obtain ⟨v0, r, rfl, h0, ha⟩ := ha.of_cons
    obtain ⟨v1, r, rfl, h1, ha⟩ := ha.of_cons
    cases ha.of_nil; cases h0.of_str; cases h1.of_str
    row_readAll go
    exact q
  | of m b =>
    obtain ⟨a, xs, rfl, hs, ha⟩ := hi.of_tup
    obtain ⟨v0, r, rfl, h0, ha⟩ := ha.of_cons
    obtain ⟨v1, r, rfl, h1, ha⟩ := ha.of_cons
    obtain ⟨v2, r, rfl, h2, ha⟩ := ha.of_cons
    cases ha.of_nil; cases h0.of_str; cases h1.of_str; cases h2.of_str
    simp only [Ex.txt, str_len] at hl
    row_readAll go
    refine ⟨by rw [sl_eq]; omega, ?_⟩
    row_readAll go
    refine ⟨by rw [sl_eq, str_len]; omega, ?_⟩
    exact q
  | bin s l r =>
    obtain ⟨a, xs, rfl, hs, ha⟩ := hi.of_tup
    obtain ⟨v0, rr, rfl, h0, ha⟩ := ha.of_cons
    obtain ⟨v1, rr, rfl, h1, ha⟩ := ha.of_cons
    obtain ⟨v2, rr, rfl, h2, ha⟩ := ha.of_cons
    cases ha.of_nil; cases h0.of_str
    simp only [Ex.dep] at hd
    obtain ⟨f1, f2⟩ := hf
    have hl' := hl
    cases s <;> simp only [Ex.txt, str_len, Bool.false_eq_true, if_false, if_true] at hl'
    all_goals
      row_readAll go
      refine v_fe h1 f1 (by omega) (by omega) ?_
      row_readAll go
      refine ⟨by rw [sl_eq]; omega, by simp only [sl_eq, str_len]; omega, ?_⟩
      row_readAll go
      refine v_fe h2 f2 (by omega) (by omega) ?_
      row_readAll go
      refine ⟨by simp only [sl_eq, str_len]; omega, by simp only [sl_eq, str_len]; omega, ?_⟩
      exact q
end M

namespace M
open PySem L2
def t_format_head (K : PySem.W.Frag)  : TS := (tSeq (tMatch K (tVar 0) [(some [.lit "set", .cap 1, .cap 2], (tRet (tFS [(tC (.str "set ")), (tFmtS (tVar 1)), (tC (.str " = ")), (tFmtS (tCall (sp_format_expression K 10) [] E0 (tCons (tVar 2) tNil)))]))),
   (some [.lit "\x69mport", .cap 3, .cap 1], (tRet (tFS [(tC (.str "\x69mport ")), (tFmtS (tVar 3)), (tC (.str " as ")), (tFmtS (tVar 1))]))),
   (some [.lit "from", .cap 3, .cap 4, .cap 1], (tRet (tFS [(tC (.str "from ")), (tFmtS (tVar 3)), (tC (.str " \x69mport ")), (tFmtS (tVar 4)), (tC (.str " as ")), (tFmtS (tVar 1))]))),
   (some [.lit "star", .cap 3], (tRet (tFS [(tC (.str "from ")), (tFmtS (tVar 3)), (tC (.str " \x69mport *"))]))),
   (some [.lit "def", .cap 1, .cap 5], (tRet (tFS [(tC (.str "def ")), (tFmtS (tVar 1)), (tC (.str ":"))]))),
   (some [.lit "if", .cap 2, .cap 5, .cap 6], (tRet (tFS [(tC (.str "if ")), (tFmtS (tCall (sp_format_expression K 10) [] E0 (tCons (tVar 2) tNil))), (tC (.str ":"))]))),
   (some [.lit "try", .cap 7, .cap 5, .cap 8], (tRet (tFS [(tC (.str "try ")), (tFmtS (tVar 7)), (tC (.str ":"))]))),
   (some [.lit "del", .cap 1], (tRet (tFS [(tC (.str "del ")), (tFmtS (tVar 1))]))),
   (some [.cap 9, .cap 2], (tRet (tFS [(tFmtS (tVar 9)), (tC (.str " ")), (tFmtS (tCall (sp_format_expression K 10) [] E0 (tCons (tVar 2) tNil)))])))])
  (tRet (tC (.str "raise"))))
def n_format_head : List Str := ["statement", "name", "expr", "module", "wanted", "block", "other", "kind", "handler", "word"]
def sp_format_head (K : PySem.W.Frag) : Sp := fun vs H Q _ => ∃ v s, vs = [v] ∧ Im K H v (Stm.d s) ∧ s.fits ∧ s.head.length ≤ 100000 ∧ Q (.str s.head) H
theorem pure_format_head {K : PySem.W.Frag} (vs : List V) (H : Hp) (Q : VK) (E : XK) (h : sp_format_head K vs H Q E) : t_format_head K { nx := fun _ H' => Q .non H', rt := Q } (start n_format_head vs) H := by
  obtain ⟨v, s, rfl, hi, hf, hl, q⟩ := h
  show t_format_head K _ [some v, none, none, none, none, none, none, none, none, none] H
  unfold t_format_head
  have sl := sl_eq
  cases s with
  | set n e =>
    simp only [Stm.d] at hi
    obtain ⟨a, xs, rfl, hs, ha⟩ := hi.of_tup
    obtain ⟨v0, r, rfl, h0, ha⟩ := ha.of_cons
    obtain ⟨v1, r, rfl, h1, ha⟩ := ha.of_cons
    obtain ⟨v2, r, rfl, h2, ha⟩ := ha.of_cons
    cases ha.of_nil; cases h0.of_str; cases h1.of_str
    simp only [Stm.head, str_len] at hl
    simp only [Stm.fits] at hf
    row_readAll go
    (try simp only [str_len])
    refine ⟨by row_readAll sz, by row_readAll sz, by row_readAll sz, by row_readAll sz, v_fe h2 hf.1 (by row_readAll sz) hf.2 ?_⟩
    row_readAll go
    exact ⟨by row_readAll sz, by row_readAll sz, q⟩
  | shw e =>
    simp only [Stm.d] at hi
    obtain ⟨a, xs, rfl, hs, ha⟩ := hi.of_tup
    obtain ⟨v0, r, rfl, h0, ha⟩ := ha.of_cons
    obtain ⟨v2, r, rfl, h2, ha⟩ := ha.of_cons
    cases ha.of_nil; cases h0.of_str
    simp only [Stm.head, str_len] at hl
    simp only [Stm.fits] at hf
    row_readAll go
    (try simp only [str_len])
    refine ⟨by row_readAll sz, by row_readAll sz, by row_readAll sz, v_fe h2 hf.1 (by row_readAll sz) hf.2 ?_⟩
    row_readAll go
    exact ⟨by row_readAll sz, by row_readAll sz, q⟩
  | call e =>
    simp only [Stm.d] at hi
    obtain ⟨a, xs, rfl, hs, ha⟩ := hi.of_tup
    obtain ⟨v0, r, rfl, h0, ha⟩ := ha.of_cons
    obtain ⟨v2, r, rfl, h2, ha⟩ := ha.of_cons
    cases ha.of_nil; cases h0.of_str
    simp only [Stm.head, str_len] at hl
    simp only [Stm.fits] at hf
    row_readAll go
    (try simp only [str_len])
    refine ⟨by row_readAll sz, by row_readAll sz, by row_readAll sz, v_fe h2 hf.1 (by row_readAll sz) hf.2 ?_⟩
    row_readAll go
    exact ⟨by row_readAll sz, by row_readAll sz, q⟩
  | ite e b o =>
    simp only [Stm.d] at hi
    obtain ⟨a, xs, rfl, hs, ha⟩ := hi.of_tup
    obtain ⟨v0, r, rfl, h0, ha⟩ := ha.of_cons
    obtain ⟨v2, r, rfl, h2, ha⟩ := ha.of_cons
    obtain ⟨v3, r, rfl, h3, ha⟩ := ha.of_cons
    obtain ⟨v4, r, rfl, h4, ha⟩ := ha.of_cons
    cases ha.of_nil; cases h0.of_str
    simp only [Stm.head, str_len] at hl
    simp only [Stm.fits] at hf
    row_readAll go
    refine ⟨by row_readAll sz, v_fe h2 hf.1.1 (by row_readAll sz) hf.1.2 ?_⟩
    row_readAll go
    (try simp only [str_len])
    exact ⟨by row_readAll sz, by row_readAll sz, by row_readAll sz, q⟩
  | raise =>
    simp only [Stm.d] at hi
    obtain ⟨a, xs, rfl, hs, ha⟩ := hi.of_tup
    obtain ⟨v0, r, rfl, h0, ha⟩ := ha.of_cons
    cases ha.of_nil; cases h0.of_str
    row_readAll go
    exact q
  | del n =>
    simp only [Stm.d] at hi
    obtain ⟨a, xs, rfl, hs, ha⟩ := hi.of_tup
    obtain ⟨v0, r, rfl, h0, ha⟩ := ha.of_cons
    obtain ⟨v1, r, rfl, h1, ha⟩ := ha.of_cons
    cases ha.of_nil; cases h0.of_str; cases h1.of_str
    simp only [Stm.head, str_len] at hl
    row_readAll go
    (try simp only [str_len])
    exact ⟨by row_readAll sz, by row_readAll sz, by row_readAll sz, q⟩
  | imp m n =>
    simp only [Stm.d] at hi
    obtain ⟨a, xs, rfl, hs, ha⟩ := hi.of_tup
    obtain ⟨v0, r, rfl, h0, ha⟩ := ha.of_cons
    obtain ⟨v1, r, rfl, h1, ha⟩ := ha.of_cons
    obtain ⟨v2, r, rfl, h2, ha⟩ := ha.of_cons
    cases ha.of_nil; cases h0.of_str; cases h1.of_str; cases h2.of_str
    simp only [Stm.head, str_len] at hl
    row_readAll go
    (try simp only [str_len])
    exact ⟨by row_readAll sz, by row_readAll sz, by row_readAll sz, by row_readAll sz, by row_readAll sz, by row_readAll sz, q⟩
  | frm m w n =>
    simp only [Stm.d] at hi
    obtain ⟨a, xs, rfl, hs, ha⟩ := hi.of_tup
    obtain ⟨v0, r, rfl, h0, ha⟩ := ha.of_cons
    obtain ⟨v1, r, rfl, h1, ha⟩ := ha.of_cons
    obtain ⟨v2, r, rfl, h2, ha⟩ := ha.of_cons
    obtain ⟨v3, r, rfl, h3, ha⟩ := ha.of_cons
    cases ha.of_nil; cases h0.of_str; cases h1.of_str; cases h2.of_str; cases h3.of_str
    simp only [Stm.head, str_len] at hl
    row_readAll go
    (try simp only [str_len])
    exact ⟨by row_readAll sz, by row_readAll sz, by row_readAll sz, by row_readAll sz, by row_readAll sz, by row_readAll sz, by row_readAll sz, by row_readAll sz, by row_readAll sz, q⟩
  | star m =>
    simp only [Stm.d] at hi
    obtain ⟨a, xs, rfl, hs, ha⟩ := hi.of_tup
    obtain ⟨v0, r, rfl, h0, ha⟩ := ha.of_cons
    obtain ⟨v1, r, rfl, h1, ha⟩ := ha.of_cons
    cases ha.of_nil; cases h0.of_str; cases h1.of_str
    simp only [Stm.head, str_len] at hl
    row_readAll go
    (try simp only [str_len])
    exact ⟨by row_readAll sz, by row_readAll sz, by row_readAll sz, by row_readAll sz, q⟩
  | fn n b =>
    simp only [Stm.d] at hi
    obtain ⟨a, xs, rfl, hs, ha⟩ := hi.of_tup
    obtain ⟨v0, r, rfl, h0, ha⟩ := ha.of_cons
    obtain ⟨v1, r, rfl, h1, ha⟩ := ha.of_cons
    obtain ⟨v2, r, rfl, h2, ha⟩ := ha.of_cons
    cases ha.of_nil; cases h0.of_str; cases h1.of_str
    have e : (Stm.fn n b).head = "def " ++ n ++ ":" := by simp only [Stm.head]; rw [show ("def" : Str) ++ " " = "def " by decide +kernel]
    rw [e] at q hl
    simp only [str_len] at hl
    row_readAll go
    (try simp only [str_len])
    exact ⟨by row_readAll sz, by row_readAll sz, by row_readAll sz, by row_readAll sz, q⟩
  | tri k b h =>
    simp only [Stm.d] at hi
    obtain ⟨a, xs, rfl, hs, ha⟩ := hi.of_tup
    obtain ⟨v0, r, rfl, h0, ha⟩ := ha.of_cons
    obtain ⟨v1, r, rfl, h1, ha⟩ := ha.of_cons
    obtain ⟨v2, r, rfl, h2, ha⟩ := ha.of_cons
    obtain ⟨v3, r, rfl, h3, ha⟩ := ha.of_cons
    cases ha.of_nil; cases h0.of_str; cases h1.of_str
    have e : (Stm.tri k b h).head = "try " ++ k ++ ":" := by simp only [Stm.head]; rw [show ("try" : Str) ++ " " = "try " by decide +kernel]
    rw [e] at q hl
    simp only [str_len] at hl
    row_readAll go
    (try simp only [str_len])
    exact ⟨by row_readAll sz, by row_readAll sz, by row_readAll sz, by row_readAll sz, q⟩
end M

namespace M
open PySem L2
/-- a new list of texts -/
def NewL (K : PySem.W.Frag) (ls : List Str) (H : Hp) (Q : VK) : Prop := ∀ p H', H p = none → Keep [] H H' → H' p = some (.lst (ls.map V.str)) → Q (.ref p) H'
def t_format_inner (K : PySem.W.Frag) (sp : Sp) : TS := (tSeq (tIfS (tTest (tOp (rEqX K) (tVar 0) (tTupX K tNil))) (tRet (tLstX (tCons (tOp (rAdd K) (tVar 1) (tC (.str "pass"))) tNil))) tNext)
  (tRet (tCall sp [] E0 (tCons (tVar 0) (tCons (tVar 1) tNil)))))
def n_format_inner : List Str := ["block", "indent"]
def sp_format_lines (K : PySem.W.Frag) (n : Nat) : Sp := fun vs H Q _ => ∃ v ind b, vs = [v, .str ind] ∧ Im K H v (.tuple (blkD b)) ∧ fitsL b ∧ LayB b ∧ Small (linesL ind b) ∧ depL b < n ∧ NewL K (linesL ind b) H Q
def sp_format_inner (K : PySem.W.Frag) (n : Nat) : Sp := fun vs H Q _ => ∃ v ind b, vs = [v, .str ind] ∧ Im K H v (.tuple (blkD b)) ∧ fitsL b ∧ LayB b ∧ Small (inner ind b) ∧ depL b < n ∧ NewL K (inner ind b) H Q
theorem pure_format_inner {K : PySem.W.Frag} {n : Nat} (vs : List V) (H : Hp) (Q : VK) (E : XK) (h : sp_format_inner K n vs H Q E) : t_format_inner K (sp_format_lines K n) { nx := fun _ H' => Q .non H', rt := Q } (start n_format_inner vs) H := by
  obtain ⟨v, ind, b, rfl, hi, hf, hy, hs, hd, q⟩ := h
  show t_format_inner K _ _ [some v, some (.str ind)] H
  unfold t_format_inner
  have sl := sl_eq
  obtain ⟨a, xs, rfl, hq, ha⟩ := hi.of_tup
  row_readAll go
  refine v_mkT (by show 0 ≤ sizeLine; omega) fun p H1 hp k1 hp1 => ?_
  refine v_eqE (hi.mono k1) hp1 hy ?_
  row_readAll go
  cases b with
  | nil =>
    simp only [blkD, List.isEmpty_nil]
    row_readAll go
    have h5 := hs.2 _ (show ind ++ ("pass" : Str) ∈ inner ind [] by simp [inner])
    rw [str_len] at h5
    refine ⟨by row_readAll sz, ?_⟩
    refine v_mkL (by show 1 ≤ sizeLine; omega) fun p2 H2 hp2 k2 hp3 => ?_
    exact q p2 H2 (k1.free hp2) (k1.trans k2) (by simpa [inner] using hp3)
  | cons s r =>
    simp only [blkD, List.isEmpty_cons]
    row_readAll go
    rw [inner_cons _ _ (by simp)] at hs q
    exact ⟨_, ind, s :: r, rfl, hi.mono k1, hf, hy, hs, hd, fun p2 H2 hp2 k2 h2 => q p2 H2 (k1.free hp2) (k1.trans k2) h2⟩
def t_format_lines (K : PySem.W.Frag) (cl : Addr) (sp : Sp) : TS := (tSeq (tAsg (tLstX tNil) (gName 2))
  (tSeq (tFor (iSeq K (tVar 0)) (gName 3) (tSeq (tDrop (tBM K "list" rAppend (tVar 2) (tCons (tOp (rAdd K) (tVar 1) (tCall (sp_format_head K) [] E0 (tCons (tVar 3) tNil))) tNil)))
  (tIfS (tTest (tOp (rEqX K) (tOp (rIx K) (tVar 3) (tC (.int 0))) (tC (.str "def")))) (tAug 2 (tCall sp [] E0 (tCons (tOp (rIx K) (tVar 3) (tC (.int 2))) (tCons (tOp (rAdd K) (tVar 1) (tC (.str "  "))) tNil))) rAddIp) (tIfS (tTest (tOp (rKin cl [("if", "else:"), ("try", "except:")]) (tOp (rIx K) (tVar 3) (tC (.int 0))) (tC (.ref cl)))) (tSeq (tAug 2 (tCall sp [] E0 (tCons (tOp (rIx K) (tVar 3) (tC (.int 2))) (tCons (tOp (rAdd K) (tVar 1) (tC (.str "  "))) tNil))) rAddIp)
  (tSeq (tDrop (tBM K "list" rAppend (tVar 2) (tCons (tOp (rAdd K) (tVar 1) (tOp (rKget cl [("if", "else:"), ("try", "except:")]) (tC (.ref cl)) (tOp (rIx K) (tVar 3) (tC (.int 0))))) tNil)))
  (tAug 2 (tCall sp [] E0 (tCons (tOp (rIx K) (tVar 3) (tC (.int 3))) (tCons (tOp (rAdd K) (tVar 1) (tC (.str "  "))) tNil))) rAddIp))) tNext))))
  (tRet (tVar 2))))
def n_format_lines : List Str := ["block", "indent", "lines", "statement"]
theorem v_fh {K : PySem.W.Frag} {H : Hp} {Q : VK} {E : XK} {v : V} {s : Stm} (h : Im K H v s.d) (f : s.fits) (l : s.head.length ≤ 100000) (q : Q (.str s.head) H) : sp_format_head K [v] H Q E := ⟨v, s, rfl, h, f, l, q⟩
theorem v_fi {K : PySem.W.Frag} {n : Nat} {H : Hp} {Q : VK} {E : XK} {v : V} {ind : Str} {b : List Stm} (h : Im K H v (.tuple (blkD b))) (f : fitsL b) (y : LayB b) (s : Small (inner ind b)) (d : depL b < n) (q : NewL K (inner ind b) H Q) : sp_format_inner K n [v, .str ind] H Q E := ⟨v, ind, b, rfl, h, f, y, s, d, q⟩
def Stm.word : Stm → Str
  | .set .. => "set" | .del .. => "del" | .shw .. => "show" | .call .. => "call" | .raise => "raise" | .imp .. => "\x69mport" | .frm .. => "from" | .star .. => "star" | .fn .. => "def" | .ite .. => "if" | .tri .. => "try"
theorem Im.word {K : PySem.W.Frag} {H : Hp} {v : V} {s : Stm} (h : Im K H v s.d) : ∃ a r, v = .ref a ∧ SqT K H a (.str s.word :: r) := by
  have key : ∃ ds, s.d = .tuple (.str s.word :: ds) := by cases s <;> exact ⟨_, by simp only [Stm.d, Stm.word]; rfl⟩
  obtain ⟨ds, e⟩ := key
  rw [e] at h
  obtain ⟨a, xs, rfl, hs, ha⟩ := h.of_tup
  obtain ⟨v0, r, rfl, h0, ha⟩ := ha.of_cons
  cases h0.of_str
  exact ⟨a, r, rfl, hs⟩
theorem atI_0 {α : Type} {x : α} {r : List α} : atI (x :: r) 0 = some x := atI_nat (j := 0) rfl
theorem map_str_append_one (a : List Str) (x : Str) : (a ++ [x]).map V.str = a.map V.str ++ [V.str x] := by simp
theorem map_str_append (a b : List Str) : a.map V.str ++ b.map V.str = (a ++ b).map V.str := by simp
theorem pure_format_lines {K : PySem.W.Frag} {cl : Addr} {n : Nat} (vs : List V) (H : Hp) (Q : VK) (E : XK) (h : sp_format_lines K (n + 1) vs H Q E) : t_format_lines K cl (sp_format_inner K n) { nx := fun _ H' => Q .non H', rt := Q } (start n_format_lines vs) H := by
  obtain ⟨v, ind, b, rfl, hi, hf, hy, hs, hd, q⟩ := h
  show t_format_lines K _ _ _ [some v, some (.str ind), none, none] H
  unfold t_format_lines
  have sl := sl_eq
  obtain ⟨a, xs, rfl, hq, ha⟩ := hi.of_tup
  row_readAll go
  refine v_mkL (by show 0 ≤ sizeLine; omega) fun l H1 hl k1 hl1 => ?_
  row_readAll go
  have hlen : xs.length = b.length := by rw [ha.length, blkD_length]
  refine .inr ⟨⟨xs, k1.sqT hq⟩, loop_T (fun i σ' H' => ∃ x, σ' = [some (.ref a), some (.str ind), some (.ref l), x] ∧ Keep [] H H' ∧ H' l = some (.lst ((linesL ind (b.take i)).map V.str))) ⟨none, rfl, k1, by simpa [linesL] using hl1⟩ (fun i σ' H' _ ⟨x, _, k, _⟩ => k.sqT hq) ?_ ?_⟩
  · rintro i x σ' H' hx ⟨y, rfl, k, hL⟩
    obtain ⟨d, hd1, hx1⟩ := ha.get hx
    obtain ⟨s, hs1, rfl⟩ := blkD_get hd1
    have hi2 : Im K H' x s.d := hx1.mono k
    have hfit := fitsL_get hf hs1
    have hdep := depL_get hs1
    have hlay := hy.get hs1
    have hsm := hs
    rw [lines_split ind hs1] at hsm
    have hsS : Small (s.lines ind) := hsm.right.left
    have hcnt : (linesL ind (b.take i)).length + (s.lines ind).length ≤ 4000 := by have := hsm.1; simp at this; omega
    have hhead : (ind ++ s.head).length ≤ 4000 := hsS.2 _ (by cases s <;> simp [Stm.lines])
    rw [str_len] at hhead
    have l2 : (Str.ofString "  ").length = 2 := by decide +kernel
    have hone : 1 ≤ (s.lines ind).length := by cases s <;> simp [Stm.lines]
    row_readAll go
    refine ⟨.inl ⟨rfl, _, SqL.of hL⟩, v_fh hi2 hfit (by omega) ?_⟩
    row_readAll go
    refine ⟨by row_readAll sz, v_append hL (by simp; omega) fun H2 k2 hL2 => ?_⟩
    have k3 : Keep [] H H2 := k.step1 k2 hl
    have hi3 : Im K H2 x s.d := hx1.mono k3
    row_readAll go
    have fin : ∀ (H3 : Hp) (ls : List Str), Keep [] H H3 → ls = (linesL ind (b.take i) ++ s.lines ind) → H3 l = some (.lst (ls.map V.str)) → H3 l = some (.lst ((linesL ind (b.take (i + 1))).map V.str)) := fun H3 ls _ e h => by rw [lines_take ind hs1, ← e]; exact h
    cases s with
    | fn n2 b2 =>
      simp only [Stm.d] at hi3
      obtain ⟨c, ys, rfl, hc, hz⟩ := hi3.of_tup
      obtain ⟨v0, r, rfl, h0, hz⟩ := hz.of_cons
      obtain ⟨v1, r, rfl, h1, hz⟩ := hz.of_cons
      obtain ⟨v2, r, rfl, h2, hz⟩ := hz.of_cons
      cases hz.of_nil; cases h0.of_str
      simp only [Stm.fits] at hfit
      simp only [Stm.dep] at hdep
      simp only [Stm.lines] at hsS hcnt
      simp only [Stm.d] at hlay
      simp only [List.length_append, List.length_singleton] at hcnt
      row_readAll go
      refine ⟨by row_readAll sz, v_fi h2 hfit (lay_sub hlay (by simp)) hsS.right (by omega) fun p3 H3 hp3 k4 h3 => ?_⟩
      refine v_ipL (xs := (linesL ind (List.take i b) ++ [ind ++ (Stm.fn n2 b2).head]).map V.str) (ys := (inner (ind ++ "  ") b2).map V.str) (by rw [k4.obj l _ List.not_mem_nil hL2]; simp) h3 (by simp; omega) fun H4 k5 h4 => ?_
      refine ⟨_, rfl, (k3.trans k4).step1 k5 hl, ?_⟩
      rw [map_str_append] at h4
      exact fin H4 _ ((k3.trans k4).step1 k5 hl) (by simp [Stm.lines]) h4
    | ite e2 b2 o2 =>
      simp only [Stm.d] at hi3
      obtain ⟨c, ys, rfl, hc, hz⟩ := hi3.of_tup
      obtain ⟨v0, r, rfl, h0, hz⟩ := hz.of_cons
      obtain ⟨v1, r, rfl, h1, hz⟩ := hz.of_cons
      obtain ⟨v2, r, rfl, h2, hz⟩ := hz.of_cons
      obtain ⟨v3, r, rfl, h3, hz⟩ := hz.of_cons
      cases hz.of_nil; cases h0.of_str
      simp only [Stm.fits] at hfit
      simp only [Stm.dep] at hdep
      simp only [Stm.lines] at hsS hcnt
      simp only [Stm.d] at hlay
      simp only [List.length_append, List.length_singleton] at hcnt
      have h5 := hsS.2 (ind ++ "else:") (by simp)
      rw [str_len] at h5
      row_readAll go
      simp only [List.any_cons, List.any_nil, q_lit, String.reduceEq, decide_true, decide_false, Bool.or_false, Bool.or_true, Bool.true_or]
      row_readAll go
      refine ⟨by row_readAll sz, v_fi h2 hfit.2.1 (lay_sub hlay (by simp)) hsS.left.left.right (by omega) fun p3 H3 hp3 k4 g3 => ?_⟩
      refine v_ipL (xs := (linesL ind (List.take i b) ++ [ind ++ (Stm.ite e2 b2 o2).head]).map V.str) (ys := (inner (ind ++ "  ") b2).map V.str) (by rw [k4.obj l _ List.not_mem_nil hL2]; simp) g3 (by simp; omega) fun H4 k5 g4 => ?_
      rw [map_str_append] at g4
      have k6 := (k3.trans k4).step1 k5 hl
      row_readAll go
      refine ⟨.inl ⟨rfl, _, SqL.of g4⟩, ?_⟩
      refine v_ixT (k5.sqT (k4.sqT hc)) rfl ?_
      refine v_kget "else:" (by simp) ?_
      row_readAll go
      refine ⟨by row_readAll sz, v_append g4 (by simp; omega) fun H5 k7 g5 => ?_⟩
      have k8 := k6.step1 k7 hl
      row_readAll go
      refine v_ixT (k7.sqT (k5.sqT (k4.sqT hc))) rfl ?_
      refine ⟨by row_readAll sz, v_fi ((h3.mono k4).mono k5 |>.mono k7) hfit.2.2 (lay_sub hlay (by simp)) hsS.right (by omega) fun p6 H6 hp6 k9 g6 => ?_⟩
      refine v_ipL (k9.obj l _ List.not_mem_nil g5) g6 (by simp; omega) fun H7 k10 g7 => ?_
      refine ⟨_, rfl, (k8.trans k9).step1 k10 hl, ?_⟩
      exact fin H7 ((linesL ind (List.take i b) ++ [ind ++ (Stm.ite e2 b2 o2).head] ++ inner (ind ++ "  ") b2) ++ [ind ++ "else:"] ++ inner (ind ++ "  ") o2) ((k8.trans k9).step1 k10 hl) (by simp [Stm.lines]) (by rw [g7]; simp)
    | tri e2 b2 o2 =>
      simp only [Stm.d] at hi3
      obtain ⟨c, ys, rfl, hc, hz⟩ := hi3.of_tup
      obtain ⟨v0, r, rfl, h0, hz⟩ := hz.of_cons
      obtain ⟨v1, r, rfl, h1, hz⟩ := hz.of_cons
      obtain ⟨v2, r, rfl, h2, hz⟩ := hz.of_cons
      obtain ⟨v3, r, rfl, h3, hz⟩ := hz.of_cons
      cases hz.of_nil; cases h0.of_str
      simp only [Stm.fits] at hfit
      simp only [Stm.dep] at hdep
      simp only [Stm.lines] at hsS hcnt
      simp only [Stm.d] at hlay
      simp only [List.length_append, List.length_singleton] at hcnt
      have h5 := hsS.2 (ind ++ "except:") (by simp)
      rw [str_len] at h5
      row_readAll go
      simp only [List.any_cons, List.any_nil, q_lit, String.reduceEq, decide_true, decide_false, Bool.or_false, Bool.or_true, Bool.true_or]
      row_readAll go
      refine ⟨by row_readAll sz, v_fi h2 hfit.1 (lay_sub hlay (by simp)) hsS.left.left.right (by omega) fun p3 H3 hp3 k4 g3 => ?_⟩
      refine v_ipL (xs := (linesL ind (List.take i b) ++ [ind ++ (Stm.tri e2 b2 o2).head]).map V.str) (ys := (inner (ind ++ "  ") b2).map V.str) (by rw [k4.obj l _ List.not_mem_nil hL2]; simp) g3 (by simp; omega) fun H4 k5 g4 => ?_
      rw [map_str_append] at g4
      have k6 := (k3.trans k4).step1 k5 hl
      row_readAll go
      refine ⟨.inl ⟨rfl, _, SqL.of g4⟩, ?_⟩
      refine v_ixT (k5.sqT (k4.sqT hc)) rfl ?_
      refine v_kget "except:" (by simp) ?_
      row_readAll go
      refine ⟨by row_readAll sz, v_append g4 (by simp; omega) fun H5 k7 g5 => ?_⟩
      have k8 := k6.step1 k7 hl
      row_readAll go
      refine v_ixT (k7.sqT (k5.sqT (k4.sqT hc))) rfl ?_
      refine ⟨by row_readAll sz, v_fi ((h3.mono k4).mono k5 |>.mono k7) hfit.2 (lay_sub hlay (by simp)) hsS.right (by omega) fun p6 H6 hp6 k9 g6 => ?_⟩
      refine v_ipL (k9.obj l _ List.not_mem_nil g5) g6 (by simp; omega) fun H7 k10 g7 => ?_
      refine ⟨_, rfl, (k8.trans k9).step1 k10 hl, ?_⟩
      exact fin H7 ((linesL ind (List.take i b) ++ [ind ++ (Stm.tri e2 b2 o2).head] ++ inner (ind ++ "  ") b2) ++ [ind ++ "except:"] ++ inner (ind ++ "  ") o2) ((k8.trans k9).step1 k10 hl) (by simp [Stm.lines]) (by rw [g7]; simp)
    | _ =>
      obtain ⟨c, r, rfl, hc⟩ := hi3.word
      simp only [Stm.word] at hc
      refine v_ixT hc atI_0 ?_
      row_readAll go
      refine v_ixT hc atI_0 ?_
      row_readAll go
      simp only [List.any_cons, List.any_nil, q_lit, String.reduceEq, decide_true, decide_false, Bool.or_false]
      row_readAll go
      refine ⟨_, rfl, k3, ?_⟩
      refine fin H2 _ k3 rfl ?_
      rw [hL2, ← map_str_append]
      simp only [Stm.lines, List.map_cons, List.map_nil]
  · rintro σ' H' ⟨x, rfl, k, hL⟩
    row_readAll go
    rw [hlen, List.take_length] at hL
    exact q l H' hl k hL
end M

namespace M
open PySem L2
def txtOf (ls : List Str) : Str := Txt.join "" (ls.map fun l => l ++ "\n")
theorem join_small {ls : List Str} (h : Small ls) : (((ls.map fun l => l ++ ("\n" : Str)).map (·.length)).sum) + (ls.map fun l => l ++ ("\n" : Str)).length * (Str.ofString "").length ≤ 16777216 := by
  have e0 : (Str.ofString "").length = 0 := by decide +kernel
  have e1 : (Str.ofString "\n").length = 1 := by decide +kernel
  have key : ∀ l : List Str, (∀ x ∈ l, x.length ≤ 4000) → ((l.map fun l => l ++ ("\n" : Str)).map (·.length)).sum ≤ l.length * 4001 := by
    intro l
    induction l with
    | nil => simp
    | cons x r ih =>
      intro hx
      have h1 := ih fun y hy => hx y (by simp [hy])
      have h2 := hx x (by simp)
      simp only [List.map_cons, List.sum_cons, List.length_cons, str_len, e1] at h1 ⊢
      omega
  have h1 := key ls h.2
  have h2 := h.1
  rw [e0]
  have h3 : ls.length * 4001 ≤ 4000 * 4001 := Nat.mul_le_mul_right _ h2
  omega
/-- [line + '\n' for line in a list of texts]: at each turn -/
theorem comp_nl {K : PySem.W.Frag} {H : Hp} {Q : VK} {p : Addr} {ls : List Str} {x0 : Option V} (hp : H p = some (.lst (ls.map V.str))) (hs : Small ls)
    (q : ∀ D H', H D = none → Keep [] H H' → H' D = some (.lst ((ls.map fun l => l ++ ("\n" : Str)).map V.str)) → Q (.ref D) H') :
    CompX (Itl K p) (gName 1) tYes (tOp (rAdd K) (tVar 1) (tC (.str "\n"))) [1] [x0, none] H Q := by
  have sl := sl_eq
  refine comp_gen ls.length (fun D i H' => Keep [] H H' ∧ H' D = some (.lst (((ls.take i).map fun l => l ++ ("\n" : Str)).map V.str))) (fun D H2 hD k h2 => ⟨k, by simpa using h2⟩) ?_ ?_ ?_ ?_
  · rintro D H2 ⟨k, h⟩
    exact ⟨ls.map V.str, SqL.of (k.obj _ _ List.not_mem_nil hp), by simp⟩
  · rintro D i H2 hi ⟨k, h⟩
    exact ⟨ls.map V.str, V.str ls[i], SqL.of (k.obj _ _ List.not_mem_nil hp), by simp [hi]⟩
  · rintro D i H2 x H3 hD hi ⟨k, h⟩ ⟨rfl, hy⟩
    have e := hy _ (SqL.of (k.obj _ _ List.not_mem_nil hp))
    simp only [List.getElem?_map, List.getElem?_eq_getElem hi, Option.map_some, Option.some.injEq] at e
    subst e
    have h4 := hs.2 ls[i] (List.getElem_mem hi)
    have e1 : (Str.ofString "\n").length = 1 := by decide +kernel
    have hs1 := hs.1
    row_readAll go
    refine ⟨by row_readAll sz, ?_⟩
    refine ⟨_, h, by simp; omega, k.step1 (Keep.put h True.intro) hD, ?_⟩
    have e9 : List.take (i + 1) ls = List.take i ls ++ [ls[i]] := by rw [List.take_add_one, List.getElem?_eq_getElem hi]; rfl
    rw [upd_same, e9, List.map_append, List.map_append]
    rfl
  · rintro D H2 hD ⟨k, h⟩
    rw [List.take_length] at h
    exact q D H2 hD k h
def t_format_block (K : PySem.W.Frag)  : TS := (tRet (tM1 (rJoin K) (tC (.str "")) (tLc (iSeq K (tCall (sp_format_lines K 6) [] E0 (tCons (tVar 0) (tCons (tC (.str "")) tNil)))) (gName 1) tYes (tOp (rAdd K) (tVar 1) (tC (.str "\n"))) [1])))
def n_format_block : List Str := ["block", "line"]
def sp_format_block (K : PySem.W.Frag) : Sp := fun vs H Q _ => ∃ v b, vs = [v] ∧ Im K H v (.tuple (blkD b)) ∧ fitsL b ∧ LayB b ∧ Small (linesL "" b) ∧ depL b < 6 ∧ ∀ H', Keep [] H H' → Q (.str (txtOf (linesL "" b))) H'
theorem pure_format_block {K : PySem.W.Frag} (vs : List V) (H : Hp) (Q : VK) (E : XK) (h : sp_format_block K vs H Q E) : t_format_block K { nx := fun _ H' => Q .non H', rt := Q } (start n_format_block vs) H := by
  obtain ⟨v, b, rfl, hi, hf, hy, hs, hd, q⟩ := h
  show t_format_block K _ [some v, none] H
  unfold t_format_block
  row_readAll go
  refine ⟨v, "", b, rfl, hi, hf, hy, hs, hd, fun p H1 hp k1 h1 => ?_⟩
  row_readAll go
  refine .inl ⟨⟨_, SqL.of h1⟩, comp_nl h1 hs fun D H2 hD k2 h2 => ?_⟩
  refine v_join (SqL.of h2) (join_small hs) ?_
  exact q H2 (k1.trans k2)
end M

namespace M
open PySem L2
def t_law_expr_text (K : PySem.W.Frag) (sp : Sp) : TS := (tSeq (tIfS (tB (tCB (rIsi K) (tCons (tVar 0) (tCons (tC (.ty "int")) tNil)))) (tRet (tCB rStr1 (tCons (tVar 0) tNil))) tNext)
  (tSeq (tIfS (tTest (tOp (rEqX K) (tOp (rIx K) (tVar 0) (tC (.int 0))) (tC (.str "name")))) (tRet (tOp (rIx K) (tVar 0) (tC (.int 1)))) tNext)
  (tSeq (tIfS (tTest (tOp (rEqX K) (tOp (rIx K) (tVar 0) (tC (.int 0))) (tC (.str "of")))) (tRet (tOp (rAdd K) (tOp (rAdd K) (tOp (rIx K) (tVar 0) (tC (.int 1))) (tC (.str "."))) (tOp (rIx K) (tVar 0) (tC (.int 2))))) tNext)
  (tRet (tOp (rAdd K) (tOp (rAdd K) (tOp (rAdd K) (tOp (rAdd K) (tC (.str "(")) (tCall sp [] E0 (tCons (tOp (rIx K) (tVar 0) (tC (.int 1))) tNil))) (tOp (rIx K) (tLstX (tCons (tC (.str " + ")) (tCons (tC (.str " < ")) tNil))) (tCB rInt1 (tCons (tOp (rEqX K) (tOp (rIx K) (tVar 0) (tC (.int 0))) (tC (.str "less"))) tNil)))) (tCall sp [] E0 (tCons (tOp (rIx K) (tVar 0) (tC (.int 2))) tNil))) (tC (.str ")")))))))
def n_law_expr_text : List Str := ["_law_expr_here"]
def sp_law_expr_text (K : PySem.W.Frag) (n : Nat) : Sp := fun vs H Q _ => ∃ v e, vs = [v] ∧ Im K H v (Ex.d e) ∧ e.fits ∧ e.txt.length ≤ 100000 ∧ e.dep < n ∧ ∀ H', Keep [] H H' → Q (.str e.txt) H'
theorem v_let {K : PySem.W.Frag} {n : Nat} {H : Hp} {Q : VK} {E : XK} {v : V} {e : Ex} (h : Im K H v e.d) (f : e.fits) (l : e.txt.length ≤ 100000) (d : e.dep < n) (q : ∀ H', Keep [] H H' → Q (.str e.txt) H') : sp_law_expr_text K n [v] H Q E := ⟨v, e, rfl, h, f, l, d, q⟩
theorem pure_law_expr_text {K : PySem.W.Frag} {n : Nat} (vs : List V) (H : Hp) (Q : VK) (E : XK) (h : sp_law_expr_text K (n + 1) vs H Q E) : t_law_expr_text K (sp_law_expr_text K n) { nx := fun _ H' => Q .non H', rt := Q } (start n_law_expr_text vs) H := by
  obtain ⟨v, e, rfl, hi, hf, hl, hd, q⟩ := h
  show t_law_expr_text K _ _ [some v] H
  unfold t_law_expr_text
  cases e with
  | int i =>
    cases hi
    row_readAll go
    exact ⟨hf, q _ (Keep.refl _ _)⟩
  | nm m =>
    obtain ⟨a, xs, rfl, hs, ha⟩ := hi.of_tup
    obtain ⟨v0, r, rfl, h0, ha⟩ := ha.of_cons
    obtain ⟨v1, r, rfl, h1, ha⟩ := ha.of_cons
    cases ha.of_nil; cases h0.of_str; cases h1.of_str
    row_readAll go
    exact q _ (Keep.refl _ _)
  | of m b =>
    obtain ⟨a, xs, rfl, hs, ha⟩ := hi.of_tup
    obtain ⟨v0, r, rfl, h0, ha⟩ := ha.of_cons
    obtain ⟨v1, r, rfl, h1, ha⟩ := ha.of_cons
    obtain ⟨v2, r, rfl, h2, ha⟩ := ha.of_cons
    cases ha.of_nil; cases h0.of_str; cases h1.of_str; cases h2.of_str
    simp only [Ex.txt, str_len] at hl
    row_readAll go
    refine ⟨by rw [sl_eq]; omega, ?_⟩
    row_readAll go
    refine ⟨by rw [sl_eq, str_len]; omega, ?_⟩
    exact q _ (Keep.refl _ _)
  | bin s l r =>
    obtain ⟨a, xs, rfl, hs, ha⟩ := hi.of_tup
    obtain ⟨v0, rr, rfl, h0, ha⟩ := ha.of_cons
    obtain ⟨v1, rr, rfl, h1, ha⟩ := ha.of_cons
    obtain ⟨v2, rr, rfl, h2, ha⟩ := ha.of_cons
    cases ha.of_nil; cases h0.of_str
    simp only [Ex.dep] at hd
    obtain ⟨f1, f2⟩ := hf
    have hl' := hl
    cases s <;> simp only [Ex.txt, str_len, Bool.false_eq_true, if_false, if_true] at hl'
    all_goals
      row_readAll go
      refine v_let h1 f1 (by omega) (by omega) fun H1 k1 => ?_
      row_readAll go
      refine ⟨by rw [sl_eq]; omega, ?_⟩
      refine v_mkL (by show 2 ≤ sizeLine; rw [sl_eq]; omega) fun p H2 hp k2 h3 => ?_
      row_readAll go
      refine v_ixL (SqL.of h3) rfl ?_
      row_readAll go
      refine ⟨by simp only [sl_eq, str_len]; omega, ?_⟩
      row_readAll go
      refine v_let ((h2.mono k1).mono k2) f2 (by omega) (by omega) fun H3 k3 => ?_
      row_readAll go
      refine ⟨by simp only [sl_eq, str_len]; omega, by simp only [sl_eq, str_len]; omega, ?_⟩
      exact q H3 ((k1.trans k2).trans k3)
def t_law_head (K : PySem.W.Frag)  : TS := (tSeq (tIfS (tTest (tOp (rEqX K) (tOp (rIx K) (tVar 0) (tC (.int 0))) (tC (.str "set")))) (tRet (tOp (rAdd K) (tOp (rAdd K) (tOp (rAdd K) (tC (.str "set ")) (tOp (rIx K) (tVar 0) (tC (.int 1)))) (tC (.str " = "))) (tCall (sp_law_expr_text K 10) [] E0 (tCons (tOp (rIx K) (tVar 0) (tC (.int 2))) tNil)))) tNext)
  (tSeq (tIfS (tTest (tOp (rInX K) (tOp (rIx K) (tVar 0) (tC (.int 0))) (tTupX K (tCons (tC (.str "show")) (tCons (tC (.str "call")) tNil))))) (tRet (tOp (rAdd K) (tOp (rAdd K) (tOp (rIx K) (tVar 0) (tC (.int 0))) (tC (.str " "))) (tCall (sp_law_expr_text K 10) [] E0 (tCons (tOp (rIx K) (tVar 0) (tC (.int 1))) tNil)))) tNext)
  (tSeq (tIfS (tTest (tOp (rEqX K) (tOp (rIx K) (tVar 0) (tC (.int 0))) (tC (.str "\x69mport")))) (tRet (tOp (rAdd K) (tOp (rAdd K) (tOp (rAdd K) (tC (.str "\x69mport ")) (tOp (rIx K) (tVar 0) (tC (.int 1)))) (tC (.str " as "))) (tOp (rIx K) (tVar 0) (tC (.int 2))))) tNext)
  (tSeq (tIfS (tTest (tOp (rEqX K) (tOp (rIx K) (tVar 0) (tC (.int 0))) (tC (.str "from")))) (tRet (tOp (rAdd K) (tOp (rAdd K) (tOp (rAdd K) (tOp (rAdd K) (tOp (rAdd K) (tC (.str "from ")) (tOp (rIx K) (tVar 0) (tC (.int 1)))) (tC (.str " \x69mport "))) (tOp (rIx K) (tVar 0) (tC (.int 2)))) (tC (.str " as "))) (tOp (rIx K) (tVar 0) (tC (.int 3))))) tNext)
  (tSeq (tIfS (tTest (tOp (rEqX K) (tOp (rIx K) (tVar 0) (tC (.int 0))) (tC (.str "star")))) (tRet (tOp (rAdd K) (tOp (rAdd K) (tC (.str "from ")) (tOp (rIx K) (tVar 0) (tC (.int 1)))) (tC (.str " \x69mport *")))) tNext)
  (tSeq (tIfS (tTest (tOp (rEqX K) (tOp (rIx K) (tVar 0) (tC (.int 0))) (tC (.str "if")))) (tRet (tOp (rAdd K) (tOp (rAdd K) (tC (.str "if ")) (tCall (sp_law_expr_text K 10) [] E0 (tCons (tOp (rIx K) (tVar 0) (tC (.int 1))) tNil))) (tC (.str ":")))) tNext)
  (tSeq (tIfS (tTest (tOp (rInX K) (tOp (rIx K) (tVar 0) (tC (.int 0))) (tTupX K (tCons (tC (.str "def")) (tCons (tC (.str "try")) tNil))))) (tRet (tOp (rAdd K) (tOp (rAdd K) (tOp (rAdd K) (tOp (rIx K) (tVar 0) (tC (.int 0))) (tC (.str " "))) (tOp (rIx K) (tVar 0) (tC (.int 1)))) (tC (.str ":")))) tNext)
  (tRet (tIf (tTest (tOp (rEqX K) (tOp (rIx K) (tVar 0) (tC (.int 0))) (tC (.str "raise")))) (tOp (rIx K) (tVar 0) (tC (.int 0))) (tOp (rAdd K) (tC (.str "del ")) (tOp (rIx K) (tVar 0) (tC (.int 1)))))))))))))
def n_law_head : List Str := ["_law_row"]
def sp_law_head (K : PySem.W.Frag) : Sp := fun vs H Q _ => ∃ v s, vs = [v] ∧ Im K H v (Stm.d s) ∧ s.fits ∧ s.head.length ≤ 100000 ∧ ∀ H', Keep [] H H' → Q (.str s.head) H'
theorem pure_law_head {K : PySem.W.Frag} (vs : List V) (H : Hp) (Q : VK) (E : XK) (h : sp_law_head K vs H Q E) : t_law_head K { nx := fun _ H' => Q .non H', rt := Q } (start n_law_head vs) H := by
  obtain ⟨v, s, rfl, hi, hf, hl, q⟩ := h
  show t_law_head K _ [some v] H
  unfold t_law_head
  have sl := sl_eq
  cases s with
  | set n e =>
    simp only [Stm.d] at hi
    obtain ⟨a, xs, rfl, hs, ha⟩ := hi.of_tup
    obtain ⟨v0, r, rfl, h0, ha⟩ := ha.of_cons
    obtain ⟨v1, r, rfl, h1, ha⟩ := ha.of_cons
    obtain ⟨v2, r, rfl, h2, ha⟩ := ha.of_cons
    cases ha.of_nil; cases h0.of_str; cases h1.of_str
    simp only [Stm.head, str_len] at hl
    simp only [Stm.fits] at hf
    row_readAll ga
    refine v_let (by row_readAll im) hf.1 (by row_readAll sz) hf.2 fun H9 k9 => ?_
    row_readAll ga
    exact q _ (by row_readAll kp)
  | shw e =>
    simp only [Stm.d] at hi
    obtain ⟨a, xs, rfl, hs, ha⟩ := hi.of_tup
    obtain ⟨v0, r, rfl, h0, ha⟩ := ha.of_cons
    obtain ⟨v1, r, rfl, h1, ha⟩ := ha.of_cons
    cases ha.of_nil; cases h0.of_str
    simp only [Stm.head, str_len] at hl
    simp only [Stm.fits] at hf
    row_readAll ga
    refine v_let (by row_readAll im) hf.1 (by row_readAll sz) hf.2 fun H9 k9 => ?_
    row_readAll ga
    exact q _ (by row_readAll kp)
  | call e =>
    simp only [Stm.d] at hi
    obtain ⟨a, xs, rfl, hs, ha⟩ := hi.of_tup
    obtain ⟨v0, r, rfl, h0, ha⟩ := ha.of_cons
    obtain ⟨v1, r, rfl, h1, ha⟩ := ha.of_cons
    cases ha.of_nil; cases h0.of_str
    simp only [Stm.head, str_len] at hl
    simp only [Stm.fits] at hf
    row_readAll ga
    refine v_let (by row_readAll im) hf.1 (by row_readAll sz) hf.2 fun H9 k9 => ?_
    row_readAll ga
    exact q _ (by row_readAll kp)
  | ite e b o =>
    simp only [Stm.d] at hi
    obtain ⟨a, xs, rfl, hs, ha⟩ := hi.of_tup
    obtain ⟨v0, r, rfl, h0, ha⟩ := ha.of_cons
    obtain ⟨v1, r, rfl, h1, ha⟩ := ha.of_cons
    obtain ⟨v2, r, rfl, h2, ha⟩ := ha.of_cons
    obtain ⟨v3, r, rfl, h3, ha⟩ := ha.of_cons
    cases ha.of_nil; cases h0.of_str
    simp only [Stm.head, str_len] at hl
    simp only [Stm.fits] at hf
    row_readAll ga
    refine v_let (by row_readAll im) hf.1.1 (by row_readAll sz) hf.1.2 fun H9 k9 => ?_
    row_readAll ga
    exact q _ (by row_readAll kp)
  | raise =>
    simp only [Stm.d] at hi
    obtain ⟨a, xs, rfl, hs, ha⟩ := hi.of_tup
    obtain ⟨v0, r, rfl, h0, ha⟩ := ha.of_cons
    cases ha.of_nil; cases h0.of_str
    row_readAll ga
    exact q _ (by row_readAll kp)
  | del n =>
    simp only [Stm.d] at hi
    obtain ⟨a, xs, rfl, hs, ha⟩ := hi.of_tup
    obtain ⟨v0, r, rfl, h0, ha⟩ := ha.of_cons
    obtain ⟨v1, r, rfl, h1, ha⟩ := ha.of_cons
    cases ha.of_nil; cases h0.of_str; cases h1.of_str
    simp only [Stm.head, str_len] at hl
    row_readAll ga
    exact q _ (by row_readAll kp)
  | imp m n =>
    simp only [Stm.d] at hi
    obtain ⟨a, xs, rfl, hs, ha⟩ := hi.of_tup
    obtain ⟨v0, r, rfl, h0, ha⟩ := ha.of_cons
    obtain ⟨v1, r, rfl, h1, ha⟩ := ha.of_cons
    obtain ⟨v2, r, rfl, h2, ha⟩ := ha.of_cons
    cases ha.of_nil; cases h0.of_str; cases h1.of_str; cases h2.of_str
    simp only [Stm.head, str_len] at hl
    row_readAll ga
    exact q _ (by row_readAll kp)
  | frm m w n =>
    simp only [Stm.d] at hi
    obtain ⟨a, xs, rfl, hs, ha⟩ := hi.of_tup
    obtain ⟨v0, r, rfl, h0, ha⟩ := ha.of_cons
    obtain ⟨v1, r, rfl, h1, ha⟩ := ha.of_cons
    obtain ⟨v2, r, rfl, h2, ha⟩ := ha.of_cons
    obtain ⟨v3, r, rfl, h3, ha⟩ := ha.of_cons
    cases ha.of_nil; cases h0.of_str; cases h1.of_str; cases h2.of_str; cases h3.of_str
    simp only [Stm.head, str_len] at hl
    row_readAll ga
    exact q _ (by row_readAll kp)
  | star m =>
    simp only [Stm.d] at hi
    obtain ⟨a, xs, rfl, hs, ha⟩ := hi.of_tup
    obtain ⟨v0, r, rfl, h0, ha⟩ := ha.of_cons
    obtain ⟨v1, r, rfl, h1, ha⟩ := ha.of_cons
    cases ha.of_nil; cases h0.of_str; cases h1.of_str
    simp only [Stm.head, str_len] at hl
    row_readAll ga
    exact q _ (by row_readAll kp)
  | fn n b =>
    simp only [Stm.d] at hi
    obtain ⟨a, xs, rfl, hs, ha⟩ := hi.of_tup
    obtain ⟨v0, r, rfl, h0, ha⟩ := ha.of_cons
    obtain ⟨v1, r, rfl, h1, ha⟩ := ha.of_cons
    obtain ⟨v2, r, rfl, h2, ha⟩ := ha.of_cons
    cases ha.of_nil; cases h0.of_str; cases h1.of_str
    simp only [Stm.head, str_len] at hl
    row_readAll ga
    exact q _ (by row_readAll kp)
  | tri k b h =>
    simp only [Stm.d] at hi
    obtain ⟨a, xs, rfl, hs, ha⟩ := hi.of_tup
    obtain ⟨v0, r, rfl, h0, ha⟩ := ha.of_cons
    obtain ⟨v1, r, rfl, h1, ha⟩ := ha.of_cons
    obtain ⟨v2, r, rfl, h2, ha⟩ := ha.of_cons
    obtain ⟨v3, r, rfl, h3, ha⟩ := ha.of_cons
    cases ha.of_nil; cases h0.of_str; cases h1.of_str
    simp only [Stm.head, str_len] at hl
    row_readAll ga
    exact q _ (by row_readAll kp)
end M

namespace M
open PySem L2
def t_law_inner (K : PySem.W.Frag) (sp : Sp) : TS := (tRet (tIf (tTest (tOp (rEqX K) (tVar 0) (tTupX K tNil))) (tLstX (tCons (tOp (rAdd K) (tVar 1) (tC (.str "pass"))) tNil)) (tCall sp [] E0 (tCons (tVar 0) (tCons (tVar 1) tNil)))))
def n_law_inner : List Str := ["_law_block", "_law_indent"]
abbrev sp_law_lines := sp_format_lines
abbrev sp_law_inner := sp_format_inner
theorem pure_law_inner {K : PySem.W.Frag} {n : Nat} (vs : List V) (H : Hp) (Q : VK) (E : XK) (h : sp_law_inner K n vs H Q E) : t_law_inner K (sp_law_lines K n) { nx := fun _ H' => Q .non H', rt := Q } (start n_law_inner vs) H := by
  obtain ⟨v, ind, b, rfl, hi, hf, hy, hs, hd, q⟩ := h
  show t_law_inner K _ _ [some v, some (.str ind)] H
  unfold t_law_inner
  have sl := sl_eq
  obtain ⟨a, xs, rfl, hq, ha⟩ := hi.of_tup
  row_readAll go
  refine v_mkT (by show 0 ≤ sizeLine; omega) fun p H1 hp k1 hp1 => ?_
  refine v_eqE (hi.mono k1) hp1 hy ?_
  row_readAll go
  cases b with
  | nil =>
    simp only [blkD, List.isEmpty_nil]
    row_readAll go
    have h5 := hs.2 _ (show ind ++ ("pass" : Str) ∈ inner ind [] by simp [inner])
    rw [str_len] at h5
    refine ⟨by row_readAll sz, ?_⟩
    refine v_mkL (by show 1 ≤ sizeLine; omega) fun p2 H2 hp2 k2 hp3 => ?_
    exact q p2 H2 (k1.free hp2) (k1.trans k2) (by simpa [inner] using hp3)
  | cons s r =>
    simp only [blkD, List.isEmpty_cons]
    row_readAll go
    rw [inner_cons _ _ (by simp)] at hs q
    exact ⟨_, ind, s :: r, rfl, hi.mono k1, hf, hy, hs, hd, fun p2 H2 hp2 k2 h2 => q p2 H2 (k1.free hp2) (k1.trans k2) h2⟩
theorem v_lh {K : PySem.W.Frag} {H : Hp} {Q : VK} {E : XK} {v : V} {s : Stm} (h : Im K H v s.d) (f : s.fits) (l : s.head.length ≤ 100000) (q : ∀ H', Keep [] H H' → Q (.str s.head) H') : sp_law_head K [v] H Q E := ⟨v, s, rfl, h, f, l, q⟩
def t_law_lines (K : PySem.W.Frag) (sp : Sp) : TS := (tSeq (tAsg (tLstX tNil) (gName 2))
  (tSeq (tFor (iSeq K (tVar 0)) (gName 3) (tSeq (tDrop (tBM K "list" rAppend (tVar 2) (tCons (tOp (rAdd K) (tVar 1) (tCall (sp_law_head K) [] E0 (tCons (tVar 3) tNil))) tNil)))
  (tSeq (tIfS (tTest (tOp (rInX K) (tOp (rIx K) (tVar 3) (tC (.int 0))) (tTupX K (tCons (tC (.str "def")) (tCons (tC (.str "if")) (tCons (tC (.str "try")) tNil)))))) (tAsg (tOp (rAdd K) (tVar 2) (tCall sp [] E0 (tCons (tOp (rIx K) (tVar 3) (tC (.int 2))) (tCons (tOp (rAdd K) (tVar 1) (tC (.str "  "))) tNil)))) (gName 2)) tNext)
  (tIfS (tTest (tOp (rInX K) (tOp (rIx K) (tVar 3) (tC (.int 0))) (tTupX K (tCons (tC (.str "if")) (tCons (tC (.str "try")) tNil))))) (tSeq (tDrop (tBM K "list" rAppend (tVar 2) (tCons (tOp (rAdd K) (tVar 1) (tOp (rIx K) (tLstX (tCons (tC (.str "else:")) (tCons (tC (.str "except:")) tNil))) (tCB rInt1 (tCons (tOp (rEqX K) (tOp (rIx K) (tVar 3) (tC (.int 0))) (tC (.str "try"))) tNil)))) tNil)))
  (tAsg (tOp (rAdd K) (tVar 2) (tCall sp [] E0 (tCons (tOp (rIx K) (tVar 3) (tC (.int 3))) (tCons (tOp (rAdd K) (tVar 1) (tC (.str "  "))) tNil)))) (gName 2))) tNext))))
  (tRet (tVar 2))))
def n_law_lines : List Str := ["_law_block", "_law_indent", "_law_found", "_law_row"]
theorem pure_law_lines {K : PySem.W.Frag} {n : Nat} (vs : List V) (H : Hp) (Q : VK) (E : XK) (h : sp_law_lines K (n + 1) vs H Q E) : t_law_lines K (sp_law_inner K n) { nx := fun _ H' => Q .non H', rt := Q } (start n_law_lines vs) H := by
  obtain ⟨v, ind, b, rfl, hi, hf, hy, hs, hd, q⟩ := h
  show t_law_lines K _ _ [some v, some (.str ind), none, none] H
  unfold t_law_lines
  have sl := sl_eq
  obtain ⟨a, xs, rfl, hq, ha⟩ := hi.of_tup
  row_readAll go
  refine v_mkL (by show 0 ≤ sizeLine; omega) fun l H1 hl k1 hl1 => ?_
  row_readAll go
  have hlen : xs.length = b.length := by rw [ha.length, blkD_length]
  refine .inr ⟨⟨xs, k1.sqT hq⟩, loop_T (fun i σ' H' => ∃ l x, σ' = [some (.ref a), some (.str ind), some (.ref l), x] ∧ Keep [] H H' ∧ H l = none ∧ H' l = some (.lst ((linesL ind (b.take i)).map V.str))) ⟨l, none, rfl, k1, hl, by simpa [linesL] using hl1⟩ (fun i σ' H' _ ⟨l, x, _, k, _, _⟩ => k.sqT hq) ?_ ?_⟩
  · rintro i x σ' H' hx ⟨l, y, rfl, k, hl, hL⟩
    obtain ⟨d, hd1, hx1⟩ := ha.get hx
    obtain ⟨s, hs1, rfl⟩ := blkD_get hd1
    have hi2 : Im K H' x s.d := hx1.mono k
    have hfit := fitsL_get hf hs1
    have hdep := depL_get hs1
    have hlay := hy.get hs1
    have hsm := hs
    rw [lines_split ind hs1] at hsm
    have hsS : Small (s.lines ind) := hsm.right.left
    have hcnt : (linesL ind (b.take i)).length + (s.lines ind).length ≤ 4000 := by have := hsm.1; simp at this; omega
    have hhead : (ind ++ s.head).length ≤ 4000 := hsS.2 _ (by cases s <;> simp [Stm.lines])
    rw [str_len] at hhead
    have l2 : (Str.ofString "  ").length = 2 := by decide +kernel
    have hone : 1 ≤ (s.lines ind).length := by cases s <;> simp [Stm.lines]
    row_readAll go
    refine ⟨.inl ⟨rfl, _, SqL.of hL⟩, v_lh hi2 hfit (by omega) fun H1' k1' => ?_⟩
    row_readAll go
    refine ⟨by row_readAll sz, v_append (k1'.obj _ _ List.not_mem_nil hL) (by simp; omega) fun H2 k2 hL2 => ?_⟩
    have k3 : KC [] H H2 := ⟨(k.trans k1').step1 k2 hl⟩
    have hi3 : Im K H2 x s.d := hx1.mono k3.k
    obtain ⟨c, r0, rfl, hcw⟩ := hi3.word
    row_readAll go
    refine v_ixT hcw atI_0 ?_
    refine v_mkT (by row_readAll ln) fun p4 H4 _ k4 h4 => ?_
    refine v_in3 h4 ?_
    rw [← map_str_append_one] at hL2
    have fin : ∀ (H3 : Hp) (l3 : Addr) (ls : List Str), ls = (linesL ind (b.take i) ++ s.lines ind) → H3 l3 = some (.lst (ls.map V.str)) → H3 l3 = some (.lst ((linesL ind (b.take (i + 1))).map V.str)) := fun H3 l3 ls e h => by rw [lines_take ind hs1, ← e]; exact h
    have k5 : KC [] H H4 := ⟨k3.k.trans k4⟩
    have hL4 := k4.obj _ _ List.not_mem_nil hL2
    cases s with
    | fn n2 b2 =>
      simp only [Stm.d] at hi3
      obtain ⟨c, ys, e0, hc, hz⟩ := hi3.of_tup
      cases e0
      clear hcw
      obtain ⟨v0, r, rfl, h0, hz⟩ := hz.of_cons
      obtain ⟨v1, r, rfl, h1, hz⟩ := hz.of_cons
      obtain ⟨v2, r, rfl, h2, hz⟩ := hz.of_cons
      cases hz.of_nil; cases h0.of_str
      simp only [Stm.fits] at hfit
      simp only [Stm.dep] at hdep
      simp only [Stm.lines] at hsS hcnt
      simp only [Stm.d] at hlay
      simp only [List.length_append, List.length_singleton] at hcnt
      simp only [Stm.word]
      row_readAll ga
      refine v_fi (n := n) (b := b2) (h2.mono k4) hfit (lay_sub hlay (by simp)) hsS.right (by omega) fun p6 H6 hp6 k6 h6 => ?_
      refine v_addL (k6.obj _ _ List.not_mem_nil hL4) h6 (by simp; omega) fun p7 H7 hp7 k7 h7 => ?_
      row_readAll ga
      refine ⟨p7, _, rfl, ((k5.k.trans k6).trans k7).trans (by assumption), (k5.k.trans k6).free hp7, ?_⟩
      rw [map_str_append] at h7
      rename Keep [] H7 _ => k8
      exact fin _ _ _ (by simp [Stm.lines]) (k8.obj _ _ List.not_mem_nil h7)
    | ite e2 b2 o2 =>
      simp only [Stm.d] at hi3
      obtain ⟨c, ys, e0, hc, hz⟩ := hi3.of_tup
      cases e0
      clear hcw
      obtain ⟨v0, r, rfl, h0, hz⟩ := hz.of_cons
      obtain ⟨v1, r, rfl, h1, hz⟩ := hz.of_cons
      obtain ⟨v2, r, rfl, h2, hz⟩ := hz.of_cons
      obtain ⟨v3, r, rfl, h3, hz⟩ := hz.of_cons
      cases hz.of_nil; cases h0.of_str
      simp only [Stm.fits] at hfit
      simp only [Stm.dep] at hdep
      simp only [Stm.lines] at hsS hcnt
      simp only [Stm.d] at hlay
      simp only [List.length_append, List.length_singleton] at hcnt
      have h5 := hsS.2 (ind ++ "else:") (by simp)
      rw [str_len] at h5
      simp only [Stm.word]
      row_readAll ga
      refine v_fi (n := n) (b := b2) (h2.mono k4) hfit.2.1 (lay_sub hlay (by simp)) hsS.left.left.right (by omega) fun p6 H6 hp6 k6 h6 => ?_
      refine v_addL (k6.obj _ _ List.not_mem_nil hL4) h6 (by simp; omega) fun p7 H7 hp7 k7 h7 => ?_
      rw [map_str_append] at h7
      have f7 : H p7 = none := (k5.k.trans k6).free hp7
      have k8 : KC [] H H7 := ⟨(k5.k.trans k6).trans k7⟩
      have hc7 := k7.sqT (k6.sqT (k4.sqT hc))
      have h37 := ((h3.mono k4).mono k6).mono k7
      clear h2 h3 hc hi3 hi2 hx1 hi
      row_readAll ga
      rename Keep [] H7 _ => k9
      have h9 := k9.obj _ _ List.not_mem_nil h7
      refine ⟨.inl ⟨rfl, _, SqL.of h9⟩, v_mkL (by row_readAll ln) fun p10 H10 _ k10 h10 => ?_⟩
      row_readAll ga
      refine v_ixL (SqL.of h10) rfl ?_
      row_readAll ga
      refine v_append (k10.obj _ _ List.not_mem_nil h9) (by simp; omega) fun H11 k11 h11 => ?_
      rw [← map_str_append_one] at h11
      have k12 : KC [] H H11 := ⟨((k8.k.trans k9).trans k10).step1 k11 f7⟩
      have h12 := ((h37.mono k9).mono k10).mono k11
      have hc12 := k11.sqT (k10.sqT (k9.sqT hc7))
      clear h37 hc7
      row_readAll ga
      refine v_fi (n := n) (b := o2) h12 hfit.2.2 (lay_sub hlay (by simp)) hsS.right (by omega) fun p13 H13 hp13 k13 h13 => ?_
      refine v_addL (k13.obj _ _ List.not_mem_nil h11) h13 (by simp; omega) fun p14 H14 hp14 k14 h14 => ?_
      rw [map_str_append] at h14
      refine ⟨p14, _, rfl, (k12.k.trans k13).trans k14, (k12.k.trans k13).free hp14, ?_⟩
      exact fin _ _ _ (by simp [Stm.lines]) h14
    | tri e2 b2 o2 =>
      simp only [Stm.d] at hi3
      obtain ⟨c, ys, e0, hc, hz⟩ := hi3.of_tup
      cases e0
      clear hcw
      obtain ⟨v0, r, rfl, h0, hz⟩ := hz.of_cons
      obtain ⟨v1, r, rfl, h1, hz⟩ := hz.of_cons
      obtain ⟨v2, r, rfl, h2, hz⟩ := hz.of_cons
      obtain ⟨v3, r, rfl, h3, hz⟩ := hz.of_cons
      cases hz.of_nil; cases h0.of_str
      simp only [Stm.fits] at hfit
      simp only [Stm.dep] at hdep
      simp only [Stm.lines] at hsS hcnt
      simp only [Stm.d] at hlay
      simp only [List.length_append, List.length_singleton] at hcnt
      have h5 := hsS.2 (ind ++ "except:") (by simp)
      rw [str_len] at h5
      simp only [Stm.word]
      row_readAll ga
      refine v_fi (n := n) (b := b2) (h2.mono k4) hfit.1 (lay_sub hlay (by simp)) hsS.left.left.right (by omega) fun p6 H6 hp6 k6 h6 => ?_
      refine v_addL (k6.obj _ _ List.not_mem_nil hL4) h6 (by simp; omega) fun p7 H7 hp7 k7 h7 => ?_
      rw [map_str_append] at h7
      have f7 : H p7 = none := (k5.k.trans k6).free hp7
      have k8 : KC [] H H7 := ⟨(k5.k.trans k6).trans k7⟩
      have hc7 := k7.sqT (k6.sqT (k4.sqT hc))
      have h37 := ((h3.mono k4).mono k6).mono k7
      clear h2 h3 hc hi3 hi2 hx1 hi
      row_readAll ga
      rename Keep [] H7 _ => k9
      have h9 := k9.obj _ _ List.not_mem_nil h7
      refine ⟨.inl ⟨rfl, _, SqL.of h9⟩, v_mkL (by row_readAll ln) fun p10 H10 _ k10 h10 => ?_⟩
      row_readAll ga
      refine v_ixL (SqL.of h10) rfl ?_
      row_readAll ga
      refine v_append (k10.obj _ _ List.not_mem_nil h9) (by simp; omega) fun H11 k11 h11 => ?_
      rw [← map_str_append_one] at h11
      have k12 : KC [] H H11 := ⟨((k8.k.trans k9).trans k10).step1 k11 f7⟩
      have h12 := ((h37.mono k9).mono k10).mono k11
      have hc12 := k11.sqT (k10.sqT (k9.sqT hc7))
      clear h37 hc7
      row_readAll ga
      refine v_fi (n := n) (b := o2) h12 hfit.2 (lay_sub hlay (by simp)) hsS.right (by omega) fun p13 H13 hp13 k13 h13 => ?_
      refine v_addL (k13.obj _ _ List.not_mem_nil h11) h13 (by simp; omega) fun p14 H14 hp14 k14 h14 => ?_
      rw [map_str_append] at h14
      refine ⟨p14, _, rfl, (k12.k.trans k13).trans k14, (k12.k.trans k13).free hp14, ?_⟩
      exact fin _ _ _ (by simp [Stm.lines]) h14
    | _ =>
      simp only [Stm.word]
      row_readAll ga
      refine v_ixT (k4.sqT hcw) atI_0 ?_
      refine v_mkT (by row_readAll ln) fun p6 H6 _ k6 h6 => ?_
      refine v_in2 h6 ?_
      simp only [Stm.word]
      row_readAll ga
      refine ⟨l, _, rfl, k5.k.trans k6, hl, ?_⟩
      exact fin _ _ _ (by simp [Stm.lines]) (k6.obj _ _ List.not_mem_nil hL4)
  · rintro σ' H' ⟨l, x, rfl, k, hl, hL⟩
    row_readAll go
    rw [hlen, List.take_length] at hL
    exact q l H' hl k hL
end M

namespace M
open PySem L2
def t_law_text (K : PySem.W.Frag)  : TS := (tRet (tM1 (rJoin K) (tC (.str "")) (tLc (iSeq K (tVar 0)) (gName 1) tYes (tOp (rAdd K) (tVar 1) (tC (.str "\n"))) [1])))
def n_law_text : List Str := ["_law_lines_here", "_law_line"]
def sp_law_text (K : PySem.W.Frag) : Sp := fun vs H Q _ => ∃ p ls, vs = [.ref p] ∧ H p = some (.lst (ls.map V.str)) ∧ Small ls ∧ ∀ H', Keep [] H H' → Q (.str (txtOf ls)) H'
theorem pure_law_text {K : PySem.W.Frag} (vs : List V) (H : Hp) (Q : VK) (E : XK) (h : sp_law_text K vs H Q E) : t_law_text K { nx := fun _ H' => Q .non H', rt := Q } (start n_law_text vs) H := by
  obtain ⟨p, ls, rfl, hp, hs, q⟩ := h
  show t_law_text K _ [some (.ref p), none] H
  unfold t_law_text
  row_readAll go
  refine .inl ⟨⟨_, SqL.of hp⟩, comp_nl hp hs fun D H2 hD k2 h2 => ?_⟩
  refine v_join (SqL.of h2) (join_small hs) ?_
  exact q H2 k2
/-! ### the draws -/
structure Drw (H : Hp) (h c : Addr) : Prop where
  ex : ∃ (st ix : Int) (cells : List Int), H h = some (.lst [.int st, .ref c, .int ix]) ∧ H c = some (.lst (cells.map V.int)) ∧ 0 ≤ st ∧ st < 2147483647 ∧ 0 ≤ ix ∧ cells.length ≤ 63
  ne : h ≠ c
theorem Drw.keep {H H' : Hp} {h c : Addr} (d : Drw H h c) {S : List Addr} (k : Keep S H H') (n1 : h ∉ S) (n2 : c ∉ S) : Drw H' h c := by
  obtain ⟨st, ix, cells, h1, h2, r⟩ := d.ex
  exact ⟨⟨st, ix, cells, k.obj _ _ n1 h1, k.obj _ _ n2 h2, r⟩, d.ne⟩
theorem Drw.k0 {H H' : Hp} {h c : Addr} (d : Drw H h c) (k : Keep [] H H') : Drw H' h c := d.keep k List.not_mem_nil List.not_mem_nil
def t_law_next (K : PySem.W.Frag)  : TS := (tSeq (tAsg (tOp (rIx K) (tOp (rAdd K) (tOp (rIx K) (tVar 0) (tC (.int 1))) (tLstX (tCons (tC (.int 0)) tNil))) (tOp rModI (tCB rInt1 (tCons (tOp (rIx K) (tVar 0) (tC (.int 2))) tNil)) (tCB rMax2 (tCons (tC (.int 1)) (tCons (tCB (rLen K) (tCons (tOp (rIx K) (tVar 0) (tC (.int 1))) tNil)) tNil))))) (gName 2))
  (tSeq (tIfS (tTest (tOp rGeI (tVar 2) (tOp rPowI (tC (.int 10)) (tC (.int 18))))) (tSeq (tAsg (tOp rDivI (tVar 2) (tVar 1)) (gSub (tOp (rIx K) (tVar 0) (tC (.int 1))) (tOp rModI (tCB rInt1 (tCons (tOp (rIx K) (tVar 0) (tC (.int 2))) tNil)) (tCB (rLen K) (tCons (tOp (rIx K) (tVar 0) (tC (.int 1))) tNil))) rSetL))
  (tRet (tOp rModI (tCB rInt1 (tCons (tVar 2) tNil)) (tVar 1)))) tNext)
  (tSeq (tAsg (tOp rModI (tCB rInt1 (tCons (tOp (rAdd K) (tOp (rAdd K) (tOp rMulI (tOp (rIx K) (tVar 0) (tC (.int 0))) (tC (.int 48271))) (tOp rMulI (tVar 2) (tC (.int 69621)))) (tC (.int 11))) tNil)) (tC (.int 2147483647))) (gSub (tVar 0) (tC (.int 0)) rSetL))
  (tSeq (tAsg (tOp (rAdd K) (tOp (rIx K) (tVar 0) (tC (.int 2))) (tC (.int 1))) (gSub (tVar 0) (tC (.int 2)) rSetL))
  (tRet (tOp rModI (tCB rInt1 (tCons (tOp rDivI (tOp (rIx K) (tVar 0) (tC (.int 0))) (tC (.int 7))) tNil)) (tVar 1)))))))
def n_law_next : List Str := ["_law_h", "_law_cap", "_law_cell"]
def sp_law_next (K : PySem.W.Frag) : Sp := fun vs H Q _ => ∃ h c cap, vs = [.ref h, .int cap] ∧ Drw H h c ∧ 0 < cap ∧ cap < 2 ^ 64 ∧ ∀ v H', 0 ≤ v → v < cap → Keep [h, c] H H' → Drw H' h c → Q (.int v) H'
theorem atI_lt {α : Type} {xs : List α} {i : Int} (h0 : 0 ≤ i) (h : i < xs.length) : ∃ v, xs[i.toNat]? = some v ∧ atI xs i = some v := by
  have e : i = ((i.toNat : Nat) : Int) := by omega
  have hl : i.toNat < xs.length := by omega
  refine ⟨xs[i.toNat], by simp [hl], ?_⟩
  conv => lhs; rw [e]
  exact atI_nat (by simp [hl])
theorem pure_law_next {K : PySem.W.Frag} (vs : List V) (H : Hp) (Q : VK) (E : XK) (h : sp_law_next K vs H Q E) : t_law_next K { nx := fun _ H' => Q .non H', rt := Q } (start n_law_next vs) H := by
  obtain ⟨h, c, cap, rfl, D, c0, c1, q⟩ := h
  show t_law_next K _ [some (.ref h), some (.int cap), none] H
  unfold t_law_next
  have sl := sl_eq
  obtain ⟨st, ix, cells, h1, h2, hs0, hs1, hi0, hl⟩ := D.ex
  row_readAll go
  refine v_ixL (SqL.of h1) rfl ?_
  refine v_mkL (by row_readAll ln) fun p1 H1 hp1 k1 h3 => ?_
  refine v_addL (k1.obj _ _ List.not_mem_nil h2) h3 (by simp; omega) fun p2 H2 hp2 k2 h4 => ?_
  have g1 := k2.obj _ _ List.not_mem_nil (k1.obj _ _ List.not_mem_nil h1)
  have g2 := k2.obj _ _ List.not_mem_nil (k1.obj _ _ List.not_mem_nil h2)
  refine v_ixL (SqL.of g1) rfl ?_
  row_readAll go
  refine v_ixL (SqL.of g1) rfl ?_
  refine v_lenL (SqL.of g2) ?_
  row_readAll go
  have em : ∃ m : Int, (if ((List.map V.int cells).length : Int) > 1 then ((List.map V.int cells).length : Int) else 1) = m ∧ 0 < m ∧ m ≤ cells.length + 1 ∧ (0 < cells.length → m = cells.length) := by
    refine ⟨_, rfl, ?_⟩
    simp only [List.length_map]
    split <;> omega
  obtain ⟨m, em, m0, m1, m2⟩ := em
  rw [em]
  refine ⟨m0, ?_⟩
  have hr0 := Int.emod_nonneg ix (show m ≠ 0 by omega)
  have hr1 := Int.emod_lt_of_pos ix m0
  have el : List.map V.int cells ++ [V.int 0] = (cells ++ [0]).map V.int := by simp
  rw [el] at h4
  obtain ⟨v, hv, ha⟩ := atI_lt (xs := (cells ++ [0]).map V.int) hr0 (by simp; omega)
  rw [List.getElem?_map] at hv
  cases hz : (cells ++ [0])[(ix % m).toNat]? with
  | none => rw [hz] at hv; cases hv
  | some z =>
  rw [hz] at hv
  cases hv
  refine v_ixL (SqL.of h4) ha ?_
  row_readAll go
  refine ⟨⟨by decide, by decide, by decide⟩, ?_⟩
  have k3 : KC [h, c] H H2 := ⟨(k1.trans k2).nil⟩
  refine ite_c (fun hc => ?_) (fun hc => ?_)
  · have hc' : (10 : Int) ^ 18 ≤ z := hc
    have hpos : 0 < cells.length := by
      rcases Nat.eq_zero_or_pos cells.length with e | e
      · have e2 : cells = [] := List.eq_nil_of_length_eq_zero e
        subst e2
        have e3 : (ix % m).toNat = 0 := by simp at m1; omega
        rw [e3] at hz
        simp at hz
        omega
      · exact e
    row_readAll go
    refine ⟨wide_div c0 (b := 64) (by omega) (by decide) (by decide), ?_⟩
    refine v_ixL (SqL.of g1) rfl ?_
    refine v_ixL (SqL.of g1) rfl ?_
    row_readAll go
    refine v_ixL (SqL.of g1) rfl ?_
    refine v_lenL (SqL.of g2) ?_
    row_readAll go
    have e5 : ((List.map V.int cells).length : Int) = m := by rw [List.length_map, m2 hpos]
    rw [e5]
    refine ⟨m0, ?_⟩
    refine v_setL (j := (ix % m).toNat) g2 ?_ fun H3 k4 g3 => ?_
    · rw [← List.length_map (f := V.int), ] at m2
      unfold ixN
      rw [if_pos hr0, if_pos (by rw [e5]; exact hr1)]
    row_readAll go
    refine ⟨c0, ?_⟩
    refine q _ H3 (Int.emod_nonneg _ (by omega)) (Int.emod_lt_of_pos _ c0) (k3.k.step k4 (by simp)) ⟨⟨st, ix, cells.set (ix % m).toNat (z / cap), k4.obj _ _ (by simp [D.ne]) g1, by rw [g3]; simp [List.map_set], hs0, hs1, hi0, by simpa using hl⟩, D.ne⟩
  · row_readAll go
    refine v_ixL (SqL.of g1) rfl ?_
    row_readAll go
    refine ⟨.inr ⟨by decide, by decide⟩, .inr ⟨by decide, by decide⟩, by decide, ?_⟩
    refine v_setL (j := 0) g1 rfl fun H3 k4 g3 => ?_
    row_readAll go
    refine v_ixL (SqL.of g3) rfl ?_
    row_readAll go
    refine v_setL (j := 2) g3 rfl fun H4 k5 g4 => ?_
    row_readAll go
    refine v_ixL (SqL.of g4) rfl ?_
    row_readAll go
    refine ⟨⟨by decide, by decide⟩, c0, ?_⟩
    refine q _ H4 (Int.emod_nonneg _ (by omega)) (Int.emod_lt_of_pos _ c0) ((k3.k.step k4 (by simp)).step k5 (by simp)) ⟨⟨_, _, cells, g4, k5.obj _ _ (by simp [Ne.symm D.ne]) (k4.obj _ _ (by simp [Ne.symm D.ne]) g2), Int.emod_nonneg _ (by omega), Int.emod_lt_of_pos _ (by omega), by omega, hl⟩, D.ne⟩
end M

namespace M
open PySem PySem.Spec L2
/-! ### names, well made data -/
def okN (x : Str) : Prop := 1 ≤ x.length ∧ x.length ≤ 8 ∧ ∀ c ∈ x.cps.toList, 97 ≤ c ∧ c ≤ 122
def okNB (x : Str) : Bool := decide (1 ≤ x.length) && decide (x.length ≤ 8) && x.cps.toList.all fun c => decide (97 ≤ c) && decide (c ≤ 122)
theorem okN_of {x : Str} (h : okNB x = true) : okN x := by
  unfold okNB at h
  simp only [Bool.and_eq_true, decide_eq_true_eq, List.all_eq_true] at h
  exact ⟨h.1.1, h.1.2, h.2⟩
theorem join_eq (sep : Str) (l : List Str) : Txt.join sep l = Str.join sep l := eq_of_beq (PyProof.Rows.join_plain_closes sep l)
theorem join_signs (l : List Nat) : Txt.join (Str.ofString "") (l.map fun k => (⟨#[k]⟩ : Str)) = ⟨l.toArray⟩ := by
  rw [join_eq, show Str.ofString "" = ⟨#[]⟩ by decide +kernel]
  exact PyProof.Rows.join_ones l
theorem okN.lay {x : Str} (h : okN x) : PyData.canLay0 (.str x) = true := by
  simp only [PyData.canLay0]
  unfold PySem.PyData.strOk
  rw [Array.all_eq_true_iff_forall_mem]
  intro c hc
  have := h.2.2 c (by simpa using hc)
  simp only [decide_eq_true_eq]
  omega
def okI (i : Int) : Prop := i.natAbs < 10 ^ 60
theorem okI.log {i : Int} (h : okI i) : i.natAbs.log2 < 200 := by
  unfold okI at h
  rcases Nat.eq_zero_or_pos i.natAbs with e | e
  · rw [e]; decide
  · exact (Nat.log2_lt (by omega)).mpr (Nat.lt_of_lt_of_le h (by decide))
def Ex.wf : Nat → Ex → Prop
  | _, .int i => okI i
  | _, .nm n => okN n
  | _, .of n a => okN n ∧ okN a
  | 0, .bin .. => False
  | d + 1, .bin _ l r => l.wf d ∧ r.wf d
theorem Ex.wf.mono : ∀ {e : Ex} {d d' : Nat}, e.wf d → d ≤ d' → e.wf d'
  | .int _, d, d', h, _ => by cases d <;> cases d' <;> exact h
  | .nm _, d, d', h, _ => by cases d <;> cases d' <;> exact h
  | .of _ _, d, d', h, _ => by cases d <;> cases d' <;> exact h
  | .bin _ l r, 0, _, h, _ => by exact h.elim
  | .bin _ l r, d + 1, 0, _, hd => by omega
  | .bin _ l r, d + 1, d' + 1, h, hd => by
    simp only [Ex.wf] at h ⊢
    exact ⟨h.1.mono (by omega), h.2.mono (by omega)⟩
theorem Ex.wf.dep : ∀ {e : Ex} {d : Nat}, e.wf d → e.dep ≤ d
  | .int _, _, _ => Nat.zero_le _
  | .nm _, _, _ => Nat.zero_le _
  | .of _ _, _, _ => Nat.zero_le _
  | .bin _ l r, 0, h => by exact h.elim
  | .bin _ l r, d + 1, h => by
    simp only [Ex.wf] at h
    have h1 := h.1.dep
    have h2 := h.2.dep
    simp only [Ex.dep]; omega
theorem Ex.wf.fits : ∀ {e : Ex} {d : Nat}, e.wf d → e.fits
  | .int i, d, h => by
    have h2 : okI i := by cases d <;> exact h
    have := h2.log
    simp only [Ex.fits]; omega
  | .nm _, _, _ => by simp only [Ex.fits]
  | .of _ _, _, _ => by simp only [Ex.fits]
  | .bin _ l r, 0, h => by exact h.elim
  | .bin _ l r, d + 1, h => by
    simp only [Ex.wf] at h
    simp only [Ex.fits]
    exact ⟨h.1.fits, h.2.fits⟩
theorem int_text_len {i : Int} (h : okI i) : (Str.ofString (toString i)).length ≤ 61 := by
  have key : ∀ n : Nat, n < 10 ^ 60 → (toString n).toList.length ≤ 60 := fun n hn => by
    show (Nat.repr n).toList.length ≤ 60
    unfold Nat.repr Nat.toDigits
    rw [String.toList_ofList]
    have := PySem.digitsCore_len_pow 10 (by decide) 60 (n + 1) n [] (by decide) hn
    simpa using this
  have el : ∀ s : String, (Str.ofString s).length = s.toList.length := fun s => by
    rw [Str.ofString_eq_toList]; simp [Str.length]
  rw [el]
  unfold okI at h
  cases i with
  | ofNat n =>
    have := key n h
    show (toString n).toList.length ≤ 61
    omega
  | negSucc n =>
    have := key (n + 1) h
    show ("-" ++ toString (n + 1)).toList.length ≤ 61
    rw [String.toList_append, List.length_append]
    have e1 : ("-" : String).toList.length = 1 := by decide
    omega
def exLen : Nat → Nat
  | 0 => 61
  | d + 1 => 2 * exLen d + 5
theorem exLen_ge : ∀ d, 61 ≤ exLen d
  | 0 => Nat.le_refl _
  | d + 1 => by have := exLen_ge d; simp only [exLen]; omega
theorem Ex.wf.len : ∀ {e : Ex} {d : Nat}, e.wf d → e.txt.length ≤ exLen d
  | .int i, d, h => by
    have h2 : okI i := by cases d <;> exact h
    have := int_text_len h2
    have := exLen_ge d
    simp only [Ex.txt]; omega
  | .nm n, d, h => by
    have h2 : okN n := by cases d <;> exact h
    have := h2.2.1
    have := exLen_ge d
    simp only [Ex.txt]; omega
  | .of n a, d, h => by
    have h2 : okN n ∧ okN a := by cases d <;> exact h
    have := h2.1.2.1
    have := h2.2.2.1
    have := exLen_ge d
    have e1 : (Str.ofString ".").length = 1 := by decide +kernel
    simp only [Ex.txt, str_len, e1]; omega
  | .bin s l r, 0, h => by exact h.elim
  | .bin s l r, d + 1, h => by
    simp only [Ex.wf] at h
    have h1 := h.1.len
    have h2 := h.2.len
    have e1 : (Str.ofString "(").length = 1 := by decide +kernel
    have e2 : (Str.ofString ")").length = 1 := by decide +kernel
    have e3 : (Str.ofString (if s = true then " + " else " < ")).length = 3 := by cases s <;> decide +kernel
    simp only [Ex.txt, str_len, e1, e2, e3, exLen]; omega
theorem Ex.wf.lay : ∀ {e : Ex} {d : Nat}, e.wf d → e.d.canLay0 = true ∧ e.d.depth ≤ d + 1
  | .int i, d, h => by simp [Ex.d, PyData.canLay0, PyData.depth]
  | .nm n, d, h => by
    have h2 : okN n := by cases d <;> exact h
    have := h2.lay
    simp only [PyData.canLay0] at this
    simp [Ex.d, PyData.canLay0, PyData.canLayAll0, PyData.depth, PyData.depthAll, this]
    decide +kernel
  | .of n a, d, h => by
    have h2 : okN n ∧ okN a := by cases d <;> exact h
    have h3 := h2.1.lay
    have h4 := h2.2.lay
    simp only [PyData.canLay0] at h3 h4
    simp [Ex.d, PyData.canLay0, PyData.canLayAll0, PyData.depth, PyData.depthAll, h3, h4]
    decide +kernel
  | .bin s l r, 0, h => by exact h.elim
  | .bin s l r, d + 1, h => by
    simp only [Ex.wf] at h
    obtain ⟨h1, h2⟩ := h.1.lay
    obtain ⟨h3, h4⟩ := h.2.lay
    have e : PyData.strOk (opW s) = true := by cases s <;> decide +kernel
    simp only [Ex.d, PyData.canLay0, PyData.canLayAll0, PyData.depth, PyData.depthAll, h1, h3, e]
    simp; omega
/-! statements -/
def kinds : List Str := ["absent", "any", "kind", "missing", "raised", "unbound"]
mutual
def Stm.wf : Stm → Prop
  | .set n e => okN n ∧ e.wf 3
  | .del n => okN n
  | .shw e => e.wf 3
  | .call e => e.wf 3
  | .raise => True
  | .imp m n => okN m ∧ okN n
  | .frm m w n => okN m ∧ okN w ∧ okN n
  | .star m => okN m
  | .fn n b => okN n ∧ wfL b
  | .ite e b o => e.wf 3 ∧ wfL b ∧ wfL o
  | .tri k b h => k ∈ kinds ∧ wfL b ∧ wfL h
def wfL : List Stm → Prop
  | [] => True
  | s :: r => s.wf ∧ wfL r
end
theorem wfL_iff : ∀ b : List Stm, wfL b ↔ ∀ s ∈ b, s.wf
  | [] => by simp [wfL]
  | s :: r => by simp [wfL, wfL_iff r]
mutual
theorem Stm.wf.fits : ∀ {s : Stm}, s.wf → s.fits
  | .set n e, h => by simp only [Stm.wf] at h; simp only [Stm.fits]; exact ⟨h.2.fits, by have := h.2.dep; omega⟩
  | .del n, _ => by simp only [Stm.fits]
  | .shw e, h => by simp only [Stm.wf] at h; simp only [Stm.fits]; exact ⟨h.fits, by have := h.dep; omega⟩
  | .call e, h => by simp only [Stm.wf] at h; simp only [Stm.fits]; exact ⟨h.fits, by have := h.dep; omega⟩
  | .raise, _ => by simp only [Stm.fits]
  | .imp m n, _ => by simp only [Stm.fits]
  | .frm m w n, _ => by simp only [Stm.fits]
  | .star m, _ => by simp only [Stm.fits]
  | .fn n b, h => by simp only [Stm.wf] at h; simp only [Stm.fits]; exact wfL_fits h.2
  | .ite e b o, h => by simp only [Stm.wf] at h; simp only [Stm.fits]; exact ⟨⟨h.1.fits, by have := h.1.dep; omega⟩, wfL_fits h.2.1, wfL_fits h.2.2⟩
  | .tri k b o, h => by simp only [Stm.wf] at h; simp only [Stm.fits]; exact ⟨wfL_fits h.2.1, wfL_fits h.2.2⟩
theorem wfL_fits : ∀ {b : List Stm}, wfL b → fitsL b
  | [], _ => by simp only [fitsL]
  | s :: r, h => by simp only [wfL] at h; simp only [fitsL]; exact ⟨h.1.fits, wfL_fits h.2⟩
end
theorem kinds_lay {k : Str} (h : k ∈ kinds) : PyData.strOk k = true := by
  unfold kinds at h
  simp only [List.mem_cons, List.not_mem_nil, or_false] at h
  rcases h with rfl | rfl | rfl | rfl | rfl | rfl <;> decide +kernel
theorem kinds_len {k : Str} (h : k ∈ kinds) : k.length ≤ 7 := by
  unfold kinds at h
  simp only [List.mem_cons, List.not_mem_nil, or_false] at h
  rcases h with rfl | rfl | rfl | rfl | rfl | rfl <;> decide +kernel
theorem okN.ok {x : Str} (h : okN x) : PyData.strOk x = true := by have := h.lay; simpa only [PyData.canLay0] using this
mutual
theorem Stm.wf.lay : ∀ {s : Stm}, s.wf → s.d.canLay0 = true ∧ s.d.depth ≤ 2 * s.dep + 6
  | .set n e, h => by
    simp only [Stm.wf] at h
    obtain ⟨h1, h2⟩ := h.2.lay
    have h3 := h.1.ok
    have e : PyData.strOk "set" = true := by decide +kernel
    simp only [Stm.d, Stm.dep, PyData.canLay0, PyData.canLayAll0, PyData.depth, PyData.depthAll, h1, h3, e]; simp; omega
  | .del n, h => by
    simp only [Stm.wf] at h
    have h3 := h.ok
    have e : PyData.strOk "del" = true := by decide +kernel
    simp only [Stm.d, Stm.dep, PyData.canLay0, PyData.canLayAll0, PyData.depth, PyData.depthAll, h3, e]; simp
  | .shw e, h => by
    simp only [Stm.wf] at h
    obtain ⟨h1, h2⟩ := h.lay
    have e : PyData.strOk "show" = true := by decide +kernel
    simp only [Stm.d, Stm.dep, PyData.canLay0, PyData.canLayAll0, PyData.depth, PyData.depthAll, h1, e]; simp; omega
  | .call e, h => by
    simp only [Stm.wf] at h
    obtain ⟨h1, h2⟩ := h.lay
    have e : PyData.strOk "call" = true := by decide +kernel
    simp only [Stm.d, Stm.dep, PyData.canLay0, PyData.canLayAll0, PyData.depth, PyData.depthAll, h1, e]; simp; omega
  | .raise, _ => by
    have e : PyData.strOk "raise" = true := by decide +kernel
    simp only [Stm.d, Stm.dep, PyData.canLay0, PyData.canLayAll0, PyData.depth, PyData.depthAll, e]; simp
  | .imp m n, h => by
    simp only [Stm.wf] at h
    have h3 := h.1.ok
    have h4 := h.2.ok
    have e : PyData.strOk "\x69mport" = true := by decide +kernel
    simp only [Stm.d, Stm.dep, PyData.canLay0, PyData.canLayAll0, PyData.depth, PyData.depthAll, h3, h4, e]; simp
  | .frm m w n, h => by
    simp only [Stm.wf] at h
    have h3 := h.1.ok
    have h4 := h.2.1.ok
    have h5 := h.2.2.ok
    have e : PyData.strOk "from" = true := by decide +kernel
    simp only [Stm.d, Stm.dep, PyData.canLay0, PyData.canLayAll0, PyData.depth, PyData.depthAll, h3, h4, h5, e]; simp
  | .star m, h => by
    simp only [Stm.wf] at h
    have h3 := h.ok
    have e : PyData.strOk "star" = true := by decide +kernel
    simp only [Stm.d, Stm.dep, PyData.canLay0, PyData.canLayAll0, PyData.depth, PyData.depthAll, h3, e]; simp
  | .fn n b, h => by
    simp only [Stm.wf] at h
    have h3 := h.1.ok
    obtain ⟨h1, h2⟩ := wfL_lay h.2
    have e : PyData.strOk "def" = true := by decide +kernel
    simp only [Stm.d, Stm.dep, PyData.canLay0, PyData.canLayAll0, PyData.depth, PyData.depthAll, h1, h3, e]; simp; omega
  | .ite e b o, h => by
    simp only [Stm.wf] at h
    obtain ⟨h5, h6⟩ := h.1.lay
    obtain ⟨h1, h2⟩ := wfL_lay h.2.1
    obtain ⟨h3, h4⟩ := wfL_lay h.2.2
    have e : PyData.strOk "if" = true := by decide +kernel
    simp only [Stm.d, Stm.dep, PyData.canLay0, PyData.canLayAll0, PyData.depth, PyData.depthAll, h1, h3, h5, e]; simp; omega
  | .tri k b o, h => by
    simp only [Stm.wf] at h
    have h5 := kinds_lay h.1
    obtain ⟨h1, h2⟩ := wfL_lay h.2.1
    obtain ⟨h3, h4⟩ := wfL_lay h.2.2
    have e : PyData.strOk "try" = true := by decide +kernel
    simp only [Stm.d, Stm.dep, PyData.canLay0, PyData.canLayAll0, PyData.depth, PyData.depthAll, h1, h3, h5, e]; simp; omega
theorem wfL_lay : ∀ {b : List Stm}, wfL b → PyData.canLayAll0 (blkD b) = true ∧ PyData.depthAll (blkD b) ≤ 2 * depL b + 6
  | [], _ => by simp [blkD, PyData.canLayAll0, PyData.depthAll]
  | s :: r, h => by
    simp only [wfL] at h
    obtain ⟨h1, h2⟩ := h.1.lay
    obtain ⟨h3, h4⟩ := wfL_lay h.2
    simp only [blkD, PyData.canLayAll0, PyData.depthAll, depL, h1, h3]; simp; omega
end
theorem wfL_LayB {b : List Stm} (h : wfL b) (d : depL b ≤ 20) : LayB b := by
  obtain ⟨h1, h2⟩ := wfL_lay h
  refine (shaped_iff _).mpr ?_
  simp only [PyData.canLay0, PyData.depth]
  exact ⟨h1, by omega⟩
theorem Stm.wf.headLen {s : Stm} (h : s.wf) : s.head.length ≤ 600 := by
  have L : exLen 3 = 523 := by decide
  cases s with
  | set n e => simp only [Stm.wf] at h; have h1 := h.1.2.1; have h2 := h.2.len; rw [L] at h2; have e1 : (Str.ofString "set ").length = 4 := by decide +kernel
               have e2 : (Str.ofString " = ").length = 3 := by decide +kernel
               simp only [Stm.head, str_len, e1, e2]; omega
  | del n => simp only [Stm.wf] at h; have h1 := h.2.1; have e1 : (Str.ofString "del ").length = 4 := by decide +kernel
             simp only [Stm.head, str_len, e1]; omega
  | shw e => simp only [Stm.wf] at h; have h2 := h.len; rw [L] at h2; have e1 : (Str.ofString "show").length = 4 := by decide +kernel
             have e2 : (Str.ofString " ").length = 1 := by decide +kernel
             simp only [Stm.head, str_len, e1, e2]; omega
  | call e => simp only [Stm.wf] at h; have h2 := h.len; rw [L] at h2; have e1 : (Str.ofString "call").length = 4 := by decide +kernel
              have e2 : (Str.ofString " ").length = 1 := by decide +kernel
              simp only [Stm.head, str_len, e1, e2]; omega
  | raise => have e1 : (Str.ofString "raise").length = 5 := by decide +kernel
             simp only [Stm.head, e1]; omega
  | imp m n => simp only [Stm.wf] at h; have h1 := h.1.2.1; have h2 := h.2.2.1; have e1 : (Str.ofString "\x69mport ").length = 7 := by decide +kernel
               have e2 : (Str.ofString " as ").length = 4 := by decide +kernel
               simp only [Stm.head, str_len, e1, e2]; omega
  | frm m w n => simp only [Stm.wf] at h; have h1 := h.1.2.1; have h2 := h.2.1.2.1; have h3 := h.2.2.2.1; have e1 : (Str.ofString "from ").length = 5 := by decide +kernel
                 have e2 : (Str.ofString " as ").length = 4 := by decide +kernel
                 have e3 : (Str.ofString " \x69mport ").length = 8 := by decide +kernel
                 simp only [Stm.head, str_len, e1, e2, e3]; omega
  | star m => simp only [Stm.wf] at h; have h1 := h.2.1; have e1 : (Str.ofString "from ").length = 5 := by decide +kernel
              have e2 : (Str.ofString " \x69mport *").length = 9 := by decide +kernel
              simp only [Stm.head, str_len, e1, e2]; omega
  | fn n b => simp only [Stm.wf] at h; have h1 := h.1.2.1; have e1 : (Str.ofString "def").length = 3 := by decide +kernel
              have e2 : (Str.ofString " ").length = 1 := by decide +kernel
              have e3 : (Str.ofString ":").length = 1 := by decide +kernel
              simp only [Stm.head, str_len, e1, e2, e3]; omega
  | ite e b o => simp only [Stm.wf] at h; have h2 := h.1.len; rw [L] at h2; have e1 : (Str.ofString "if ").length = 3 := by decide +kernel
                 have e3 : (Str.ofString ":").length = 1 := by decide +kernel
                 simp only [Stm.head, str_len, e1, e3]; omega
  | tri k b o => simp only [Stm.wf] at h; have h1 := kinds_len h.1; have e1 : (Str.ofString "try").length = 3 := by decide +kernel
                 have e2 : (Str.ofString " ").length = 1 := by decide +kernel
                 have e3 : (Str.ofString ":").length = 1 := by decide +kernel
                 simp only [Stm.head, str_len, e1, e2, e3]; omega
mutual
theorem Stm.wf.lineLen : ∀ {s : Stm} (ind : Str), s.wf → ∀ l ∈ s.lines ind, l.length ≤ ind.length + 2 * s.dep + 600
  | .set n e, ind, h, l, m => by have := h.headLen; simp only [Stm.lines, List.mem_singleton] at m; subst m; simp only [str_len]; omega
  | .del n, ind, h, l, m => by have := h.headLen; simp only [Stm.lines, List.mem_singleton] at m; subst m; simp only [str_len]; omega
  | .shw e, ind, h, l, m => by have := h.headLen; simp only [Stm.lines, List.mem_singleton] at m; subst m; simp only [str_len]; omega
  | .call e, ind, h, l, m => by have := h.headLen; simp only [Stm.lines, List.mem_singleton] at m; subst m; simp only [str_len]; omega
  | .raise, ind, h, l, m => by have := h.headLen; simp only [Stm.lines, List.mem_singleton] at m; subst m; simp only [str_len]; omega
  | .imp a b, ind, h, l, m => by have := h.headLen; simp only [Stm.lines, List.mem_singleton] at m; subst m; simp only [str_len]; omega
  | .frm a b c, ind, h, l, m => by have := h.headLen; simp only [Stm.lines, List.mem_singleton] at m; subst m; simp only [str_len]; omega
  | .star a, ind, h, l, m => by have := h.headLen; simp only [Stm.lines, List.mem_singleton] at m; subst m; simp only [str_len]; omega
  | .fn n b, ind, h, l, m => by
    have h0 := h.headLen
    simp only [Stm.wf] at h
    have e2 : (Str.ofString "  ").length = 2 := by decide +kernel
    simp only [Stm.lines, List.mem_append, List.mem_singleton] at m
    simp only [Stm.dep]
    rcases m with rfl | m
    · simp only [str_len]; omega
    · have := innerLen (ind ++ "  ") h.2 l m
      rw [str_len, e2] at this; omega
  | .ite e b o, ind, h, l, m => by
    have h0 := h.headLen
    simp only [Stm.wf] at h
    have e2 : (Str.ofString "  ").length = 2 := by decide +kernel
    have e3 : (Str.ofString "else:").length = 5 := by decide +kernel
    simp only [Stm.lines, List.mem_append, List.mem_singleton] at m
    simp only [Stm.dep]
    rcases m with ((rfl | m) | rfl) | m
    · simp only [str_len]; omega
    · have := innerLen (ind ++ "  ") h.2.1 l m
      rw [str_len, e2] at this; omega
    · simp only [str_len]; omega
    · have := innerLen (ind ++ "  ") h.2.2 l m
      rw [str_len, e2] at this; omega
  | .tri e b o, ind, h, l, m => by
    have h0 := h.headLen
    simp only [Stm.wf] at h
    have e2 : (Str.ofString "  ").length = 2 := by decide +kernel
    have e3 : (Str.ofString "except:").length = 7 := by decide +kernel
    simp only [Stm.lines, List.mem_append, List.mem_singleton] at m
    simp only [Stm.dep]
    rcases m with ((rfl | m) | rfl) | m
    · simp only [str_len]; omega
    · have := innerLen (ind ++ "  ") h.2.1 l m
      rw [str_len, e2] at this; omega
    · simp only [str_len]; omega
    · have := innerLen (ind ++ "  ") h.2.2 l m
      rw [str_len, e2] at this; omega
theorem innerLen : ∀ {b : List Stm} (ind : Str), wfL b → ∀ l ∈ inner ind b, l.length ≤ ind.length + 2 * depL b + 600
  | [], ind, _, l, m => by
    have e3 : (Str.ofString "pass").length = 4 := by decide +kernel
    simp only [inner, List.mem_singleton] at m; subst m; simp only [str_len]; omega
  | s :: r, ind, h, l, m => by
    simp only [wfL] at h
    simp only [inner, List.mem_append] at m
    simp only [depL]
    rcases m with m | m
    · have := h.1.lineLen ind l m; omega
    · have := linesLen ind h.2 l m; omega
theorem linesLen : ∀ {b : List Stm} (ind : Str), wfL b → ∀ l ∈ linesL ind b, l.length ≤ ind.length + 2 * depL b + 600
  | [], ind, _, l, m => by simp [linesL] at m
  | s :: r, ind, h, l, m => by
    simp only [wfL] at h
    simp only [linesL, List.mem_append] at m
    simp only [depL]
    rcases m with m | m
    · have := h.1.lineLen ind l m; omega
    · have := linesLen ind h.2 l m; omega
end
theorem wfL_small {b : List Stm} (h : wfL b) (d : depL b ≤ 20) (n : (linesL "" b).length ≤ 4000) : Small (linesL "" b) := by
  refine ⟨n, fun l m => ?_⟩
  have := linesLen "" h l m
  have e0 : (Str.ofString "").length = 0 := by decide +kernel
  omega
end M

namespace M
open PySem L2
def t_law_mix (K : PySem.W.Frag)  : TS := (tSeq (tAsg (tVar 1) (gName 2))
  (tSeq (tFor (iSeq K (tVar 0)) (gName 3) (tAsg (tOp rModI (tCB rInt1 (tCons (tOp (rAdd K) (tOp (rAdd K) (tOp rMulI (tVar 2) (tC (.int 48271))) (tOp rModI (tCB rInt1 (tCons (tVar 3) tNil)) (tC (.int 2147483629)))) (tC (.int 1))) tNil)) (tC (.int 2147483647))) (gName 2)))
  (tRet (tLstX (tCons (tVar 2) (tCons (tCB (rListOf K) (tCons (tVar 0) tNil)) (tCons (tC (.int 0)) tNil)))))))
def n_law_mix : List Str := ["_law_script", "_law_seed", "_law_state", "_law_cell"]
def sp_law_mix (K : PySem.W.Frag) : Sp := fun vs H Q _ => ∃ (a : Addr) (ns : List Int) (seed : Int), vs = [.ref a, .int seed] ∧ SqL K H a (ns.map V.int) ∧ ns.length ≤ 63 ∧ 0 ≤ seed ∧ seed < 2147483647 ∧ ∀ h c H', H h = none → H c = none → Keep [] H H' → Drw H' h c → Q (.ref h) H'
theorem pure_law_mix {K : PySem.W.Frag} (vs : List V) (H : Hp) (Q : VK) (E : XK) (h : sp_law_mix K vs H Q E) : t_law_mix K { nx := fun _ H' => Q .non H', rt := Q } (start n_law_mix vs) H := by
  obtain ⟨a, ns, seed, rfl, hs, hl, s0, s1, q⟩ := h
  show t_law_mix K _ [some (.ref a), some (.int seed), none, none] H
  unfold t_law_mix
  row_readAll go
  refine .inl ⟨⟨_, hs⟩, loop_L (xs := ns.map V.int) (fun i σ' H' => H' = H ∧ ∃ st x, σ' = [some (.ref a), some (.int seed), some (.int st), x] ∧ 0 ≤ st ∧ st < 2147483647) ⟨rfl, seed, none, rfl, s0, s1⟩ (fun i σ' H' _ ⟨e, _⟩ => by rw [e]; exact hs) ?_ ?_⟩
  · rintro i x σ' H' hx ⟨rfl, st, y, rfl, t0, t1⟩
    rw [List.getElem?_map] at hx
    cases hz : ns[i]? with
    | none => rw [hz] at hx; cases hx
    | some z =>
    rw [hz] at hx
    cases hx
    row_readAll go
    refine ⟨.inr ⟨by decide, by decide⟩, by decide, by decide, _, _, rfl, Int.emod_nonneg _ (by decide), Int.emod_lt_of_pos _ (by decide)⟩
  · rintro σ' H' ⟨rfl, st, y, rfl, t0, t1⟩
    row_readAll go
    refine v_listOf (.inl hs) fun l H1 h1 k1 g1 => ?_
    refine v_mkL (by row_readAll ln) fun p H2 h2 k2 g2 => ?_
    exact q p l H2 (k1.free h2) h1 (k1.trans k2) ⟨⟨st, 0, ns, g2, k2.obj _ _ List.not_mem_nil g1, t0, t1, by decide, hl⟩, fun e => by subst e; rw [h2] at g1; cases g1⟩
/-- a draw -/
theorem v_nx {K : PySem.W.Frag} {H : Hp} {Q : VK} {E : XK} {h c : Addr} {cap : Int} (D : Drw H h c) (c0 : 0 < cap) (c1 : cap < 2 ^ 64) (q : ∀ v H', 0 ≤ v → v < cap → Keep [h, c] H H' → Drw H' h c → Q (.int v) H') : sp_law_next K [.ref h, .int cap] H Q E := ⟨h, c, cap, rfl, D, c0, c1, q⟩
theorem Drw.ne1 {H : Hp} {h c p : Addr} (D : Drw H h c) (n : H p = none) : p ≠ h ∧ p ≠ c := by
  obtain ⟨st, ix, cells, h1, h2, _⟩ := D.ex
  exact ⟨fun e => (by subst e; rw [n] at h1; cases h1), fun e => (by subst e; rw [n] at h2; cases h2)⟩
def t_law_name (K : PySem.W.Frag)  : TS := (tSeq (tAsg (tLstX (tCons (tC (.str "set")) (tCons (tC (.str "as")) (tCons (tC (.str "\x69mport")) (tCons (tC (.str "from")) (tCons (tC (.str "pass")) (tCons (tC (.str "else")) (tCons (tC (.str "def")) (tCons (tC (.str "del")) (tCons (tC (.str "if")) (tCons (tC (.str "try")) (tCons (tC (.str "raise")) (tCons (tC (.str "any")) (tCons (tC (.str "star")) (tCons (tC (.str "of")) tNil))))))))))))))) (gName 1))
  (tSeq (tAsg (tC (.str "abcdefghijklmnopqrstuvwxyz")) (gName 2))
  (tSeq (tIfS (tTest (tOp (rEqX K) (tCall (sp_law_next K) [] E0 (tCons (tVar 0) (tCons (tC (.int 3)) tNil))) (tC (.int 0)))) (tRet (tOp (rIx K) (tVar 1) (tCall (sp_law_next K) [] E0 (tCons (tVar 0) (tCons (tC (.int 14)) tNil))))) tNext)
  (tRet (tM1 (rJoin K) (tC (.str "")) (tLc (iRng1 (tCons (tOp (rAdd K) (tC (.int 1)) (tCall (sp_law_next K) [] E0 (tCons (tVar 0) (tCons (tOp (rIx K) (tLstX (tCons (tC (.int 2)) (tCons (tC (.int 8)) tNil))) (tCall (sp_law_next K) [] E0 (tCons (tVar 0) (tCons (tC (.int 2)) tNil)))) tNil)))) tNil)) (gName 3) tYes (tOp (rIx K) (tVar 2) (tCall (sp_law_next K) [] E0 (tCons (tVar 0) (tCons (tC (.int 26)) tNil)))) [3]))))))
def n_law_name : List Str := ["_law_h", "_law_words", "_law_letters", "_law_k"]
def wordsL : List Str := ["set", "as", "\x69mport", "from", "pass", "else", "def", "del", "if", "try", "raise", "any", "star", "of"]
theorem wordsL_ok : ∀ x ∈ wordsL, okN x := fun x m => okN_of (List.all_eq_true.mp (show wordsL.all okNB = true by decide +kernel) x m)
def sp_law_name (K : PySem.W.Frag) : Sp := fun vs H Q _ => ∃ h c, vs = [.ref h] ∧ Drw H h c ∧ ∀ x H', okN x → Keep [h, c] H H' → Drw H' h c → Q (.str x) H'
theorem pure_law_name {K : PySem.W.Frag} (vs : List V) (H : Hp) (Q : VK) (E : XK) (h : sp_law_name K vs H Q E) : t_law_name K { nx := fun _ H' => Q .non H', rt := Q } (start n_law_name vs) H := by
  obtain ⟨h, c, rfl, D, q⟩ := h
  show t_law_name K _ [some (.ref h), none, none, none] H
  unfold t_law_name
  have sl := sl_eq
  row_readAll go
  refine v_mkL (by row_readAll ln) fun p1 H1 f1 k1 g1 => ?_
  row_readAll go
  refine v_nx (D.k0 k1) (by decide) (by decide) fun v H2 v0 v1 k2 D2 => ?_
  row_readAll go
  have np := D.ne1 f1
  have g2 := k2.obj _ _ (by simp [np.1, np.2]) g1
  have k12 : KC [h, c] H H2 := ⟨k1.nil.trans k2⟩
  refine ite_c (fun _ => ?_) (fun _ => ?_)
  · row_readAll go
    refine v_nx D2 (by decide) (by decide) fun w H3 w0 w1 k3 D3 => ?_
    have g3 := k3.obj _ _ (by simp [np.1, np.2]) g2
    obtain ⟨y, hy, ha⟩ := atI_lt (xs := wordsL.map V.str) w0 (by show w < 14; exact w1)
    rw [List.getElem?_map] at hy
    cases hz : wordsL[w.toNat]? with
    | none => rw [hz] at hy; cases hy
    | some z =>
    rw [hz] at hy
    cases hy
    refine v_ixL (xs := wordsL.map V.str) (SqL.of g3) ha ?_
    exact q z H3 (wordsL_ok z (List.mem_of_getElem? hz)) (k12.k.trans k3) D3
  · row_readAll go
    refine v_mkL (by row_readAll ln) fun p3 H3 f3 k3 g3 => ?_
    have D3 := D2.k0 k3
    refine v_nx D3 (by decide) (by decide) fun w H4 w0 w1 k4 D4 => ?_
    have np3 := D2.ne1 f3
    have g4 := k4.obj _ _ (by simp [np3.1, np3.2]) g3
    have hw : w = 0 ∨ w = 1 := by omega
    have h8 : ∃ m : Int, atI [V.int 2, V.int 8] w = some (.int m) ∧ 0 < m ∧ m ≤ 8 := by
      rcases hw with rfl | rfl
      · exact ⟨2, rfl, by decide, by decide⟩
      · exact ⟨8, rfl, by decide, by decide⟩
    obtain ⟨m, hm, m0, m8⟩ := h8
    refine v_ixL (SqL.of g4) hm ?_
    refine v_nx D4 m0 (by omega) fun u H5 u0 u1 k5 D5 => ?_
    row_readAll go
    refine ⟨by omega, by omega, ?_⟩
    refine comp_gen (1 + u).toNat (fun Dd i H' => ∃ l : List Nat, H' Dd = some (.lst (l.map fun k => V.str ⟨#[k]⟩)) ∧ l.length = i ∧ (∀ k ∈ l, 97 ≤ k ∧ k ≤ 122) ∧ Keep [h, c] H5 H' ∧ Drw H' h c) ?_ ?_ ?_ ?_ ?_
    · exact fun Dd H6 _ k6 g6 => ⟨[], g6, rfl, by simp, k6.nil, D5.k0 k6⟩
    · exact fun Dd H6 _ => Nat.le_refl _
    · exact fun Dd i H6 hi _ => hi
    · rintro Dd i H6 x H7 fD hi ⟨l, gl, ll, lo, k6, D6⟩ ⟨rfl, rfl⟩
      row_readAll go
      refine v_nx D6 (by decide) (by decide) fun w H8 w0 w1 k8 D8 => ?_
      have npD := D5.ne1 fD
      have e26 : (Str.ofString "abcdefghijklmnopqrstuvwxyz").cps.toList = [97,98,99,100,101,102,103,104,105,106,107,108,109,110,111,112,113,114,115,116,117,118,119,120,121,122] := by decide +kernel
      obtain ⟨y, hy, ha⟩ := atI_lt (xs := (Str.ofString "abcdefghijklmnopqrstuvwxyz").cps.toList) w0 (by rw [e26]; show w < 26; exact w1)
      refine v_ixS (by rw [sl]; decide +kernel) ha ?_
      have gl8 := k8.obj _ _ (by simp [npD.1, npD.2]) gl
      have hyr : 97 ≤ y ∧ y ≤ 122 := by
        have hm := List.mem_of_getElem? hy
        rw [e26] at hm
        simp only [List.mem_cons, List.not_mem_nil, or_false] at hm
        omega
      refine ⟨_, gl8, by simp; omega, l ++ [y], by rw [upd_same]; simp, by simp [ll], ?_, (k6.trans k8).step1 (Keep.put gl8 True.intro) fD, D8.keep (Keep.put gl8 True.intro) (by simp [Ne.symm npD.1]) (by simp [Ne.symm npD.2])⟩
      intro k hk
      simp only [List.mem_append, List.mem_singleton] at hk
      rcases hk with hk | rfl
      · exact lo k hk
      · exact hyr
    · rintro Dd H6 fD ⟨l, gl, ll, lo, k6, D6⟩
      have e9 : (l.map fun k => V.str ⟨#[k]⟩) = (l.map fun k => (⟨#[k]⟩ : Str)).map V.str := by simp
      rw [e9] at gl
      have e0 : (Str.ofString "").length = 0 := by decide +kernel
      have e1 : ((l.map fun k => (⟨#[k]⟩ : Str)).map (·.length)).sum = l.length := by
        clear gl ll lo e9
        induction l with
        | nil => rfl
        | cons x r ih => simp only [List.map_cons, List.sum_cons, ih, List.length_cons]; show 1 + _ = _; omega
      refine v_join (SqL.of gl) (by rw [e1, e0]; omega) ?_
      rw [join_signs]
      exact q _ H6 ⟨by show 1 ≤ l.toArray.size; simp; omega, by show l.toArray.size ≤ 8; simp; omega, by simpa using lo⟩ ((((k12.k.trans k3.nil).trans k4).trans k5).trans k6) D6
end M

namespace M
open PySem L2
def t_law_names (K : PySem.W.Frag)  : TS := (tSeq (tAsg (tLstX tNil) (gName 2))
  (tSeq (tFor (iRng1 (tCons (tOp (rAdd K) (tC (.int 1)) (tCall (sp_law_next K) [] E0 (tCons (tVar 0) (tCons (tVar 1) tNil)))) tNil)) (gName 3) (tSeq (tAsg (tCall (sp_law_name K) [] E0 (tCons (tVar 0) tNil)) (gName 4))
  (tIfS (tTest (tOp (rNotInX K) (tVar 4) (tVar 2))) (tDrop (tBM K "list" rAppend (tVar 2) (tCons (tVar 4) tNil))) tNext)))
  (tRet (tVar 2))))
def n_law_names : List Str := ["_law_h", "_law_many", "_law_found", "_law_k", "_law_name_here"]
theorem v_nm {K : PySem.W.Frag} {H : Hp} {Q : VK} {E : XK} {h c : Addr} (D : Drw H h c) (q : ∀ x H', okN x → Keep [h, c] H H' → Drw H' h c → Q (.str x) H') : sp_law_name K [.ref h] H Q E := ⟨h, c, rfl, D, q⟩
def sp_law_names (K : PySem.W.Frag) : Sp := fun vs H Q _ => ∃ h c many, vs = [.ref h, .int many] ∧ Drw H h c ∧ 0 < many ∧ many ≤ 1000 ∧ ∀ p (names : List Str) H', H p = none → names ≠ [] → (names.length : Int) ≤ many → (∀ x ∈ names, okN x) → H' p = some (.lst (names.map V.str)) → Keep [h, c] H H' → Drw H' h c → Q (.ref p) H'
theorem pure_law_names {K : PySem.W.Frag} (vs : List V) (H : Hp) (Q : VK) (E : XK) (h : sp_law_names K vs H Q E) : t_law_names K { nx := fun _ H' => Q .non H', rt := Q } (start n_law_names vs) H := by
  obtain ⟨h, c, many, rfl, D, m0, m1, q⟩ := h
  show t_law_names K _ [some (.ref h), some (.int many), none, none, none] H
  unfold t_law_names
  have sl := sl_eq
  row_readAll go
  refine v_mkL (by row_readAll ln) fun p H1 f1 k1 g1 => ?_
  have np := D.ne1 f1
  have D1 := D.k0 k1
  row_readAll go
  refine v_nx D1 m0 (by omega) fun u H2 u0 u1 k2 D2 => ?_
  have g2 := k2.obj _ _ (by simp [np.1, np.2]) g1
  row_readAll go
  refine ⟨by omega, by omega, ?_⟩
  refine loop_R (fun i σ' H' => ∃ (names : List Str) (x y : Option V), σ' = [some (.ref h), some (.int many), some (.ref p), x, y] ∧ H' p = some (.lst (names.map V.str)) ∧ (∀ x ∈ names, okN x) ∧ names.length ≤ i ∧ (0 < i → names ≠ []) ∧ Keep [h, c] H H' ∧ Drw H' h c) ⟨[], none, none, rfl, g2, by simp, Nat.le_refl _, fun h => absurd h (Nat.lt_irrefl _), k1.nil.trans k2, D2⟩ ?_ ?_
  · rintro i σ' H' hi ⟨names, x, y, rfl, gp, ok, ln, ne, k, D'⟩
    row_readAll go
    refine v_nm D' fun z H3 oz k3 D3 => ?_
    have g3 := k3.obj _ _ (by simp [np.1, np.2]) gp
    row_readAll go
    refine v_ninL (SqL.of g3) ?_
    row_readAll go
    by_cases hz : z ∈ names
    · refine ite_nd hz ?_
      exact ⟨names, _, _, rfl, g3, ok, by omega, fun _ e => (by rw [e] at hz; cases hz), k.trans k3, D3⟩
    · refine ite_nn hz ?_
      row_readAll go
      refine ⟨.inl ⟨rfl, _, SqL.of g3⟩, v_append g3 (by simp; omega) fun H4 k4 g4 => ?_⟩
      rw [← map_str_append_one] at g4
      refine ⟨names ++ [z], _, _, rfl, g4, ?_, by simp; omega, by simp, k.step ((k3.step1' k4)) (by intro a m; simp at m; rcases m with rfl | rfl | rfl <;> simp [f1]), D3.keep k4 (by simp [Ne.symm np.1]) (by simp [Ne.symm np.2])⟩
      intro a m
      simp only [List.mem_append, List.mem_singleton] at m
      rcases m with m | rfl
      · exact ok a m
      · exact oz
  · rintro σ' H' ⟨names, x, y, rfl, gp, ok, ln, ne, k, D'⟩
    row_readAll go
    exact q p names H' f1 (ne (by omega)) (by omega) ok gp k D'
def t_law_integer (K : PySem.W.Frag)  : TS := (tSeq (tAsg (tCall (sp_law_next K) [] E0 (tCons (tVar 0) (tCons (tC (.int 7)) tNil))) (gName 1))
  (tSeq (tIfS (tTest (tOp rLtI (tVar 1) (tC (.int 3)))) (tRet (tVar 1)) tNext)
  (tSeq (tIfS (tTest (tOp (rEqX K) (tVar 1) (tC (.int 3)))) (tRet (tOp rSubI (tOp rSubI (tOp rPowI (tC (.int 10)) (tC (.int 60))) (tC (.int 1))) (tCall (sp_law_next K) [] E0 (tCons (tVar 0) (tCons (tC (.int 3)) tNil))))) tNext)
  (tRet (tOp rMulI (tOp (rIx K) (tLstX (tCons (tC (.int 1)) (tCons (tUn rNegI (tC (.int 1))) tNil))) (tCall (sp_law_next K) [] E0 (tCons (tVar 0) (tCons (tC (.int 2)) tNil)))) (tCall (sp_law_next K) [] E0 (tCons (tVar 0) (tCons (tOp (rIx K) (tLstX (tCons (tC (.int 10)) (tCons (tC (.int 1000)) (tCons (tOp rPowI (tC (.int 10)) (tC (.int 17))) tNil)))) (tOp rSubI (tVar 1) (tC (.int 4)))) tNil))))))))
def n_law_integer : List Str := ["_law_h", "_law_kind"]
def sp_law_integer (K : PySem.W.Frag) : Sp := fun vs H Q _ => ∃ h c, vs = [.ref h] ∧ Drw H h c ∧ ∀ i H', okI i → Keep [h, c] H H' → Drw H' h c → Q (.int i) H'
theorem pure_law_integer {K : PySem.W.Frag} (vs : List V) (H : Hp) (Q : VK) (E : XK) (h : sp_law_integer K vs H Q E) : t_law_integer K { nx := fun _ H' => Q .non H', rt := Q } (start n_law_integer vs) H := by
  obtain ⟨h, c, rfl, D, q⟩ := h
  show t_law_integer K _ [some (.ref h), none] H
  unfold t_law_integer
  row_readAll go
  refine v_nx D (by decide) (by decide) fun u H1 u0 u1 k1 D1 => ?_
  row_readAll go
  refine ite_c (fun h3 => ?_) (fun h3 => ?_)
  · row_readAll go
    exact q u H1 (by unfold okI; omega) k1 D1
  row_readAll go
  refine ite_c (fun h4 => ?_) (fun h4 => ?_)
  · row_readAll go
    refine ⟨⟨by decide, by decide, by decide⟩, v_nx D1 (by decide) (by decide) fun w H2 w0 w1 k2 D2 => ?_⟩
    row_readAll go
    refine q _ H2 ?_ (k1.trans k2) D2
    have e : (10 : Int) ^ (60 : Int).toNat = 10 ^ 60 := rfl
    rw [e]; unfold okI; omega
  row_readAll go
  refine v_mkL (by row_readAll ln) fun p2 H2 f2 k2 g2 => ?_
  refine v_nx (D1.k0 k2) (by decide) (by decide) fun w H3 w0 w1 k3 D3 => ?_
  have np := D1.ne1 f2
  have g3 := k3.obj _ _ (by simp [np.1, np.2]) g2
  have hw : w = 0 ∨ w = 1 := by omega
  have h8 : ∃ m : Int, atI [V.int 1, V.int (-1)] w = some (.int m) ∧ (m = 1 ∨ m = -1) := by
    rcases hw with rfl | rfl
    · exact ⟨1, rfl, .inl rfl⟩
    · exact ⟨-1, rfl, .inr rfl⟩
  obtain ⟨m, hm, m1⟩ := h8
  refine v_ixL (SqL.of g3) hm ?_
  refine ⟨⟨by decide, by decide, by decide⟩, v_mkL (by row_readAll ln) fun p4 H4 f4 k4 g4 => ?_⟩
  row_readAll go
  have e17 : (10 : Int) ^ (17 : Int).toNat = 10 ^ 17 := rfl
  rw [e17] at g4
  have h9 : ∃ m : Int, atI [V.int 10, V.int 1000, V.int (10 ^ 17)] (u - 4) = some (.int m) ∧ 0 < m ∧ m ≤ 10 ^ 17 := by
    have : u = 4 ∨ u = 5 ∨ u = 6 := by omega
    rcases this with rfl | rfl | rfl
    · exact ⟨10, rfl, by decide, by decide⟩
    · exact ⟨1000, rfl, by decide, by decide⟩
    · exact ⟨10 ^ 17, rfl, by decide, by decide⟩
  obtain ⟨b, hb, b0, b1⟩ := h9
  refine v_ixL (SqL.of g4) hb ?_
  refine v_nx (D3.k0 k4) b0 (by omega) fun z H5 z0 z1 k5 D5 => ?_
  row_readAll go
  refine ⟨.inl (by rcases m1 with rfl | rfl <;> exact ⟨by decide, by decide⟩), ?_⟩
  refine q _ H5 ?_ ((((k1.trans k2.nil).trans k3).trans k4.nil).trans k5) D5
  unfold okI
  rcases m1 with rfl | rfl <;> omega
end M

namespace M
open PySem L2
/-- a list of names beside a source of draws -/
structure NL (H : Hp) (h c nl : Addr) (names : List Str) : Prop where
  at_ : H nl = some (.lst (names.map V.str))
  ne : names ≠ []
  few : names.length ≤ 1000
  ok : ∀ x ∈ names, okN x
  n1 : nl ≠ h
  n2 : nl ≠ c
theorem NL.keep {H H' : Hp} {h c nl : Addr} {names : List Str} (n : NL H h c nl names) (k : Keep [h, c] H H') : NL H' h c nl names := ⟨k.obj _ _ (by simp [n.n1, n.n2]) n.at_, n.ne, n.few, n.ok, n.n1, n.n2⟩
theorem NL.k0 {H H' : Hp} {h c nl : Addr} {names : List Str} (n : NL H h c nl names) (k : Keep [] H H') : NL H' h c nl names := n.keep k.nil
theorem NL.pos {H : Hp} {h c nl : Addr} {names : List Str} (n : NL H h c nl names) : 0 < ((names.map V.str).length : Int) := by
  have := List.length_pos_iff.mpr n.ne
  simp; omega
/-- names[next(h, len(names))] -/
theorem NL.draw {K : PySem.W.Frag} {H : Hp} {Q : VK} {E : XK} {h c nl : Addr} {names : List Str} (N : NL H h c nl names) (D : Drw H h c) (q : ∀ x H', okN x → Keep [h, c] H H' → Drw H' h c → NL H' h c nl names → Q (.str x) H') :
    rLen K [.ref nl] H fun x H1 => sp_law_next K [.ref h, x] H1 (fun y H2 => rIx K (.ref nl) y H2 Q) E := by
  refine v_lenL (SqL.of N.at_) ?_
  have f := N.few
  refine v_nx D N.pos (by simp; omega) fun v H1 v0 v1 k1 D1 => ?_
  have N1 := N.keep k1
  obtain ⟨y, hy, ha⟩ := atI_lt (xs := names.map V.str) v0 v1
  rw [List.getElem?_map] at hy
  cases hz : names[v.toNat]? with
  | none => rw [hz] at hy; cases hy
  | some z =>
  rw [hz] at hy
  cases hy
  exact v_ixL (SqL.of N1.at_) ha (q z H1 (N.ok z (List.mem_of_getElem? hz)) k1 D1 N1)
theorem v_li {K : PySem.W.Frag} {H : Hp} {Q : VK} {E : XK} {h c : Addr} (D : Drw H h c) (q : ∀ i H', okI i → Keep [h, c] H H' → Drw H' h c → Q (.int i) H') : sp_law_integer K [.ref h] H Q E := ⟨h, c, rfl, D, q⟩
def t_law_expr (K : PySem.W.Frag) (sp : Sp) : TS := (tSeq (tPar 3 4 (tCons (tCall (sp_law_next K) [] E0 (tCons (tVar 0) (tCons (tC (.int 9)) tNil))) (tCons (tOp (rIx K) (tVar 1) (tCall (sp_law_next K) [] E0 (tCons (tVar 0) (tCons (tCB (rLen K) (tCons (tVar 1) tNil)) tNil)))) tNil)))
  (tSeq (tIfS (tAnd (tTest (tOp rGtI (tVar 3) (tC (.int 6)))) (tTest (tOp rGtI (tVar 2) (tC (.int 0))))) (tRet (tTupX K (tCons (tOp (rIx K) (tLstX (tCons (tC (.str "sum")) (tCons (tC (.str "less")) tNil))) (tOp rSubI (tVar 3) (tC (.int 7)))) (tCons (tCall sp [] E0 (tCons (tVar 0) (tCons (tVar 1) (tCons (tOp rSubI (tVar 2) (tC (.int 1))) tNil)))) (tCons (tCall sp [] E0 (tCons (tVar 0) (tCons (tVar 1) (tCons (tOp rSubI (tVar 2) (tC (.int 1))) tNil)))) tNil))))) tNext)
  (tSeq (tIfS (tTest (tOp (rEqX K) (tVar 3) (tC (.int 3)))) (tRet (tTupX K (tCons (tC (.str "of")) (tCons (tVar 4) (tCons (tOp (rIx K) (tVar 1) (tCall (sp_law_next K) [] E0 (tCons (tVar 0) (tCons (tCB (rLen K) (tCons (tVar 1) tNil)) tNil)))) tNil))))) tNext)
  (tRet (tIf (tTest (tOp rGtI (tVar 3) (tC (.int 3)))) (tTupX K (tCons (tC (.str "name")) (tCons (tVar 4) tNil))) (tCall (sp_law_integer K) [] E0 (tCons (tVar 0) tNil)))))))
def n_law_expr : List Str := ["_law_h", "_law_names_here", "_law_depth", "_law_kind", "_law_name_here"]
def sp_law_expr (K : PySem.W.Frag) (n : Nat) : Sp := fun vs H Q _ => ∃ h c nl names d, vs = [.ref h, .ref nl, .int d] ∧ Drw H h c ∧ NL H h c nl names ∧ 0 ≤ d ∧ d < n ∧ ∀ v e H', Im K H' v (Ex.d e) → e.wf d.toNat → Keep [h, c] H H' → Drw H' h c → NL H' h c nl names → Q v H'
theorem v_lx {K : PySem.W.Frag} {n : Nat} {H : Hp} {Q : VK} {E : XK} {h c nl : Addr} {names : List Str} {d : Int} (D : Drw H h c) (N : NL H h c nl names) (d0 : 0 ≤ d) (dn : d < n) (q : ∀ v e H', Im K H' v (Ex.d e) → e.wf d.toNat → Keep [h, c] H H' → Drw H' h c → NL H' h c nl names → Q v H') : sp_law_expr K n [.ref h, .ref nl, .int d] H Q E := ⟨h, c, nl, names, d, rfl, D, N, d0, dn, q⟩
theorem pure_law_expr {K : PySem.W.Frag} {n : Nat} (vs : List V) (H : Hp) (Q : VK) (E : XK) (h : sp_law_expr K (n + 1) vs H Q E) : t_law_expr K (sp_law_expr K n) { nx := fun _ H' => Q .non H', rt := Q } (start n_law_expr vs) H := by
  obtain ⟨h, c, nl, names, d, rfl, D, N, d0, dn, q⟩ := h
  show t_law_expr K _ _ [some (.ref h), some (.ref nl), some (.int d), none, none] H
  unfold t_law_expr
  row_readAll go
  refine v_nx D (by decide) (by decide) fun u H1 u0 u1 k1 D1 => ?_
  row_readAll go
  refine (N.keep k1).draw D1 fun z H2 oz k2 D2 N2 => ?_
  have k12 : KC [h, c] H H2 := ⟨k1.trans k2⟩
  row_readAll go
  refine ite_and (fun h6 hd => ?_) ?_
  · row_readAll go
    refine v_mkL (by row_readAll ln) fun p3 H3 f3 k3 g3 => ?_
    have hu : u = 7 ∨ u = 8 := by omega
    have h8 : ∃ s : Bool, atI [V.str "sum", V.str "less"] (u - 7) = some (.str (opW s)) := by
      rcases hu with rfl | rfl
      · exact ⟨true, rfl⟩
      · exact ⟨false, rfl⟩
    obtain ⟨s, hs⟩ := h8
    row_readAll go
    refine v_ixL (SqL.of g3) hs ?_
    row_readAll go
    refine v_lx (D2.k0 k3) (N2.k0 k3) (by omega) (by omega) fun v1 e1 H4 i1 w1 k4 D4 N4 => ?_
    row_readAll go
    refine v_lx D4 N4 (by omega) (by omega) fun v2 e2 H5 i2 w2 k5 D5 N5 => ?_
    refine v_mkT (by row_readAll ln) fun p6 H6 f6 k6 g6 => ?_
    refine q (.ref p6) (.bin s e1 e2) H6 ?_ ?_ ((((k12.k.trans k3.nil).trans k4).trans k5).trans k6.nil) (D5.k0 k6) (N5.k0 k6)
    · exact .tup g6 (.cons (.str _) (.cons ((i1.mono k5).mono k6) (.cons (i2.mono k6) .nil)))
    · have e : d.toNat = (d - 1).toNat + 1 := by omega
      rw [e]
      exact ⟨w1, w2⟩
  row_readAll go
  refine ite_c (fun h3 => ?_) (fun h3 => ?_)
  · row_readAll go
    refine N2.draw D2 fun z2 H3 oz2 k3 D3 N3 => ?_
    refine v_mkT (by row_readAll ln) fun p6 H6 f6 k6 g6 => ?_
    refine q (.ref p6) (.of z z2) H6 ?_ (by cases d.toNat <;> exact ⟨oz, oz2⟩) ((k12.k.trans k3).trans k6.nil) (D3.k0 k6) (N3.k0 k6)
    exact .tup g6 (.cons (.str _) (.cons (.str _) (.cons (.str _) .nil)))
  row_readAll go
  refine ite_c (fun h4 => ?_) (fun h4 => ?_)
  · row_readAll go
    refine v_mkT (by row_readAll ln) fun p6 H6 f6 k6 g6 => ?_
    refine q (.ref p6) (.nm z) H6 ?_ (by cases d.toNat <;> exact oz) (k12.k.trans k6.nil) (D2.k0 k6) (N2.k0 k6)
    exact .tup g6 (.cons (.str _) (.cons (.str _) .nil))
  · row_readAll go
    refine v_li D2 fun i H3 oi k3 D3 => ?_
    exact q (.int i) (.int i) H3 (.int i) (by cases d.toNat <;> exact oi) (k12.k.trans k3) D3 (N2.keep k3)
theorem d_star {K : PySem.W.Frag} {H : Hp} {E : XK} {h c nl : Addr} {names : List Str} {p9 : Prop} [Decidable p9] {p3 : Prop} [Decidable p3] {A R : Hp → Prop} (D : Drw H h c) (N : NL H h c nl names)
    (ha : ∀ H4, Keep [h, c] H H4 → Drw H4 h c → NL H4 h c nl names → A H4) (hr : ∀ H4, Keep [h, c] H H4 → Drw H4 h c → NL H4 h c nl names → ¬ p9 → R H4) :
    if decide p3 = true then sp_law_next K [.ref h, .int 2] H (fun x H1 => rEqX K x (.int 0) H1 fun x H' => ∃ k, x = .bl k ∧ if k = true then A H' else if decide p9 = true then A H' else R H') E else (if decide p9 = true then A H else R H) := by
  have fin : ∀ H4, Keep [h, c] H H4 → Drw H4 h c → NL H4 h c nl names → if decide p9 = true then A H4 else R H4 := fun H4 k D N => ite_c (fun _ => ha H4 k D N) fun h => hr H4 k D N h
  refine ite_c (fun _ => ?_) (fun _ => fin H (Keep.refl _ _) D N)
  refine v_nx D (by decide) (by decide) fun v H1 v0 v1 k1 D1 => v_eqI ⟨_, rfl, ?_⟩
  exact ite_c (fun _ => ha H1 k1 D1 (N.keep k1)) fun _ => fin H1 k1 D1 (N.keep k1)
def t_law_deep_row (K : PySem.W.Frag) (sp : Sp) : TS := (tSeq (tPar3 4 5 6 (tCons (tCall (sp_law_next K) [] E0 (tCons (tVar 0) (tCons (tC (.int 12)) tNil))) (tCons (tOp (rIx K) (tVar 1) (tCall (sp_law_next K) [] E0 (tCons (tVar 0) (tCons (tCB (rLen K) (tCons (tVar 1) tNil)) tNil)))) (tCons (tOp (rIx K) (tVar 1) (tCall (sp_law_next K) [] E0 (tCons (tVar 0) (tCons (tCB (rLen K) (tCons (tVar 1) tNil)) tNil)))) tNil))))
  (tSeq (tIfS (tTest (tOp rLtI (tVar 4) (tC (.int 3)))) (tRet (tTupX K (tCons (tC (.str "set")) (tCons (tVar 5) (tCons (tCall (sp_law_expr K 5) [] E0 (tCons (tVar 0) (tCons (tVar 1) (tCons (tC (.int 3)) tNil)))) tNil))))) tNext)
  (tSeq (tIfS (tTest (tOp rLtI (tVar 4) (tC (.int 7)))) (tRet (tOp (rIx K) (tLstX (tCons (tTupX K (tCons (tC (.str "del")) (tCons (tVar 5) tNil))) (tCons (tTupX K (tCons (tC (.str "show")) (tCons (tCall (sp_law_expr K 5) [] E0 (tCons (tVar 0) (tCons (tVar 1) (tCons (tC (.int 3)) tNil)))) tNil))) (tCons (tTupX K (tCons (tC (.str "call")) (tCons (tCall (sp_law_expr K 5) [] E0 (tCons (tVar 0) (tCons (tVar 1) (tCons (tC (.int 2)) tNil)))) tNil))) (tCons (tTupX K (tCons (tC (.str "raise")) tNil)) tNil))))) (tOp rSubI (tVar 4) (tC (.int 3))))) tNext)
  (tSeq (tIfS (tTest (tOp rLtI (tVar 4) (tC (.int 9)))) (tRet (tOp (rIx K) (tLstX (tCons (tTupX K (tCons (tC (.str "\x69mport")) (tCons (tVar 6) (tCons (tVar 5) tNil)))) (tCons (tTupX K (tCons (tC (.str "from")) (tCons (tVar 6) (tCons (tVar 5) (tCons (tOp (rIx K) (tVar 1) (tCall (sp_law_next K) [] E0 (tCons (tVar 0) (tCons (tCB (rLen K) (tCons (tVar 1) tNil)) tNil)))) tNil))))) tNil))) (tOp rSubI (tVar 4) (tC (.int 7))))) tNext)
  (tSeq (tIfS (tOr (tAnd (tTest (tOp (rEqX K) (tVar 2) (tC (.int 3)))) (tTest (tOp (rEqX K) (tCall (sp_law_next K) [] E0 (tCons (tVar 0) (tCons (tC (.int 2)) tNil))) (tC (.int 0))))) (tTest (tOp (rEqX K) (tVar 4) (tC (.int 9))))) (tRet (tTupX K (tCons (tC (.str "star")) (tCons (tVar 5) tNil)))) tNext)
  (tSeq (tPar 7 8 (tCons (tCall sp [] E0 (tCons (tVar 0) (tCons (tVar 1) (tCons (tOp (rAdd K) (tVar 2) (tC (.int 1))) tNil)))) (tCons (tCall sp [] E0 (tCons (tVar 0) (tCons (tVar 1) (tCons (tOp (rAdd K) (tVar 2) (tC (.int 1))) tNil)))) tNil)))
  (tSeq (tIfS (tTest (tOp (rEqX K) (tVar 4) (tC (.int 10)))) (tRet (tTupX K (tCons (tC (.str "def")) (tCons (tVar 5) (tCons (tVar 7) tNil))))) tNext)
  (tSeq (tAsg (tLstX (tCons (tC (.str "absent")) (tCons (tC (.str "any")) (tCons (tC (.str "kind")) (tCons (tC (.str "missing")) (tCons (tC (.str "raised")) (tCons (tC (.str "unbound")) tNil))))))) (gName 3))
  (tSeq (tIfS (tTest (tOp (rEqX K) (tCall (sp_law_next K) [] E0 (tCons (tVar 0) (tCons (tC (.int 2)) tNil))) (tC (.int 0)))) (tRet (tTupX K (tCons (tC (.str "if")) (tCons (tCall (sp_law_expr K 5) [] E0 (tCons (tVar 0) (tCons (tVar 1) (tCons (tC (.int 3)) tNil)))) (tCons (tVar 7) (tCons (tVar 8) tNil)))))) tNext)
  (tRet (tTupX K (tCons (tC (.str "try")) (tCons (tOp (rIx K) (tVar 3) (tCall (sp_law_next K) [] E0 (tCons (tVar 0) (tCons (tC (.int 6)) tNil)))) (tCons (tVar 7) (tCons (tVar 8) tNil)))))))))))))))
def n_law_deep_row : List Str := ["_law_h", "_law_names_here", "_law_depth", "_law_kinds", "_law_kind", "_law_name_here", "_law_other", "_law_block", "_law_second"]
def t_law_deep_rows (K : PySem.W.Frag) (sp : Sp) : TS := (tSeq (tAsg (tOp (rIx K) (tLstX (tCons (tC (.int 4)) (tCons (tC (.int 2)) (tCons (tC (.int 2)) (tCons (tC (.int 2)) (tCons (tC (.int 1)) tNil)))))) (tVar 2)) (gName 3))
  (tRet (tThen (tLc (iRng1 (tCons (tCall (sp_law_next K) [] E0 (tCons (tVar 0) (tCons (tVar 3) tNil))) tNil)) (gName 4) tYes (tCall sp [] E0 (tCons (tVar 0) (tCons (tVar 1) (tCons (tVar 2) tNil)))) [4]) (kTup K))))
def n_law_deep_rows : List Str := ["_law_h", "_law_names_here", "_law_depth", "_law_most", "_law_k"]
/-- a drawn block of a depth -/
def rowN : Nat → Nat
  | 0 => 46 | 1 => 22 | 2 => 10 | 3 => 4 | _ => 0
def rowsN : Nat → Nat
  | 0 => 138 | 1 => 22 | 2 => 10 | 3 => 4 | _ => 0
def mostN : Nat → Nat
  | 0 => 3 | 1 => 1 | 2 => 1 | 3 => 1 | _ => 0
structure DRow (d : Nat) (s : Stm) : Prop where
  wf : s.wf
  dep : s.dep + d ≤ 4
  cnt : ∀ ind, (s.lines ind).length ≤ rowN d
structure DRows (d : Nat) (b : List Stm) : Prop where
  wf : wfL b
  dep : depL b + d ≤ 4
  cnt : ∀ ind, (linesL ind b).length ≤ rowsN d
theorem DRows.inner {d : Nat} {b : List Stm} (h : DRows d b) (ind : Str) : (inner ind b).length ≤ max 1 (rowsN d) := by
  cases b with
  | nil => simp [M.inner]; omega
  | cons s r => rw [inner_cons _ _ (by simp)]; have := h.cnt ind; omega
def sp_law_deep_row (K : PySem.W.Frag) (n : Nat) : Sp := fun vs H Q _ => ∃ h c nl names, ∃ d : Nat, vs = [.ref h, .ref nl, .int d] ∧ Drw H h c ∧ NL H h c nl names ∧ d ≤ 3 ∧ 4 < n + d ∧ ∀ v s H', Im K H' v (Stm.d s) → DRow d s → Keep [h, c] H H' → Drw H' h c → NL H' h c nl names → Q v H'
def sp_law_deep_rows (K : PySem.W.Frag) (n : Nat) : Sp := fun vs H Q _ => ∃ h c nl names, ∃ d : Nat, vs = [.ref h, .ref nl, .int d] ∧ Drw H h c ∧ NL H h c nl names ∧ d ≤ 4 ∧ 4 < n + d ∧ ∀ v b H', Im K H' v (.tuple (blkD b)) → DRows d b → Keep [h, c] H H' → Drw H' h c → NL H' h c nl names → Q v H'
theorem pure_law_deep_row {K : PySem.W.Frag} {n : Nat} (vs : List V) (H : Hp) (Q : VK) (E : XK) (h : sp_law_deep_row K (n + 1) vs H Q E) : t_law_deep_row K (sp_law_deep_rows K n) { nx := fun _ H' => Q .non H', rt := Q } (start n_law_deep_row vs) H := by
  obtain ⟨h, c, nl, names, d, rfl, D, N, d3, dn, q⟩ := h
  show t_law_deep_row K _ _ [some (.ref h), some (.ref nl), some (.int d), none, none, none, none, none, none] H
  unfold t_law_deep_row
  row_readAll go
  refine v_nx D (by decide) (by decide) fun u H1 u0 u1 k1 D1 => ?_
  row_readAll go
  refine (N.keep k1).draw D1 fun z H2 oz k2 D2 N2 => ?_
  row_readAll go
  refine N2.draw D2 fun y H3 oy k3 D3 N3 => ?_
  have k123 : KC [h, c] H H3 := ⟨(k1.trans k2).trans k3⟩
  row_readAll go
  have simple : ∀ s : Stm, s.wf → s.dep = 0 → (∀ ind, (s.lines ind).length = 1) → DRow d s := fun s w e l => ⟨w, by omega, fun ind => by
    rw [l ind]
    have : d = 0 ∨ d = 1 ∨ d = 2 ∨ d = 3 := by omega
    rcases this with rfl | rfl | rfl | rfl <;> decide⟩
  refine ite_c (fun h3 => ?_) (fun h3 => ?_)
  · refine v_lx D3 N3 (by decide) (by decide) fun v e H4 i4 w4 k4 D4 N4 => ?_
    refine v_mkT (by row_readAll ln) fun p5 H5 f5 k5 g5 => ?_
    refine q (.ref p5) (.set z e) H5 ?_ (simple _ (by simp only [Stm.wf]; exact ⟨oz, w4⟩) rfl fun ind => by simp [Stm.lines]) ((k123.k.trans k4).trans k5.nil) (D4.k0 k5) (N4.k0 k5)
    simp only [Stm.d]
    exact .tup g5 (.cons (.str _) (.cons (.str _) (.cons (i4.mono k5) .nil)))
  row_readAll go
  refine ite_c (fun h7 => ?_) (fun h7 => ?_)
  · refine v_mkT (by row_readAll ln) fun p4 H4 f4 k4 g4 => ?_
    row_readAll go
    refine v_lx (D3.k0 k4) (N3.k0 k4) (by decide) (by decide) fun v5 e5 H5 i5 w5 k5 D5 N5 => ?_
    refine v_mkT (by row_readAll ln) fun p6 H6 f6 k6 g6 => ?_
    row_readAll go
    refine v_lx (D5.k0 k6) (N5.k0 k6) (by decide) (by decide) fun v7 e7 H7 i7 w7 k7 D7 N7 => ?_
    refine v_mkT (by row_readAll ln) fun p8 H8 f8 k8 g8 => ?_
    row_readAll go
    refine v_mkT (by row_readAll ln) fun p9 H9 f9 k9 g9 => ?_
    refine v_mkL (by row_readAll ln) fun pa Ha fa ka ga => ?_
    row_readAll go
    have D' : Drw Ha h c := ((D7.k0 k8).k0 k9).k0 ka
    have N' : NL Ha h c nl names := ((N7.k0 k8).k0 k9).k0 ka
    have kk : Keep [h, c] H Ha := (((((((k123.k.trans k4.nil).trans k5).trans k6.nil).trans k7).trans k8.nil).trans k9.nil).trans ka.nil)
    have hu : u = 3 ∨ u = 4 ∨ u = 5 ∨ u = 6 := by omega
    rcases hu with rfl | rfl | rfl | rfl
    · refine v_ixL (SqL.of ga) rfl ?_
      refine q (.ref p4) (.del z) Ha ?_ (simple _ (by simp only [Stm.wf]; exact oz) rfl fun ind => by simp [Stm.lines]) kk D' N'
      simp only [Stm.d]
      exact .tup (ka.sqT (k9.sqT (k8.sqT (k7.sqT (k6.sqT (k5.sqT g4)))))) (.cons (.str _) (.cons (.str _) .nil))
    · refine v_ixL (SqL.of ga) rfl ?_
      refine q (.ref p6) (.shw e5) Ha ?_ (simple _ (by simp only [Stm.wf]; exact w5) rfl fun ind => by simp [Stm.lines]) kk D' N'
      simp only [Stm.d]
      exact .tup (ka.sqT (k9.sqT (k8.sqT (k7.sqT g6)))) (.cons (.str _) (.cons (((((i5.mono k6).mono k7).mono k8).mono k9).mono ka) .nil))
    · refine v_ixL (SqL.of ga) rfl ?_
      refine q (.ref p8) (.call e7) Ha ?_ (simple _ (by simp only [Stm.wf]; exact w7.mono (by decide)) rfl fun ind => by simp [Stm.lines]) kk D' N'
      simp only [Stm.d]
      exact .tup (ka.sqT (k9.sqT g8)) (.cons (.str _) (.cons (((i7.mono k8).mono k9).mono ka) .nil))
    · refine v_ixL (SqL.of ga) rfl ?_
      refine q (.ref p9) .raise Ha ?_ (simple _ (by simp only [Stm.wf]) rfl fun ind => by simp [Stm.lines]) kk D' N'
      simp only [Stm.d]
      exact .tup (ka.sqT g9) (.cons (.str _) .nil)
  row_readAll go
  refine ite_c (fun h9 => ?_) (fun h9 => ?_)
  · refine v_mkT (by row_readAll ln) fun p4 H4 f4 k4 g4 => ?_
    row_readAll go
    refine (N3.k0 k4).draw (D3.k0 k4) fun x H5 ox k5 D5 N5 => ?_
    refine v_mkT (by row_readAll ln) fun p6 H6 f6 k6 g6 => ?_
    refine v_mkL (by row_readAll ln) fun pa Ha fa ka ga => ?_
    row_readAll go
    have D' : Drw Ha h c := (D5.k0 k6).k0 ka
    have N' : NL Ha h c nl names := (N5.k0 k6).k0 ka
    have kk : Keep [h, c] H Ha := (((k123.k.trans k4.nil).trans k5).trans k6.nil).trans ka.nil
    have hu : u = 7 ∨ u = 8 := by omega
    rcases hu with rfl | rfl
    · refine v_ixL (SqL.of ga) rfl ?_
      refine q (.ref p4) (.imp y z) Ha ?_ (simple _ (by simp only [Stm.wf]; exact ⟨oy, oz⟩) rfl fun ind => by simp [Stm.lines]) kk D' N'
      simp only [Stm.d]
      exact .tup (ka.sqT (k6.sqT (k5.sqT g4))) (.cons (.str _) (.cons (.str _) (.cons (.str _) .nil)))
    · refine v_ixL (SqL.of ga) rfl ?_
      refine q (.ref p6) (.frm y z x) Ha ?_ (simple _ (by simp only [Stm.wf]; exact ⟨oy, oz, ox⟩) rfl fun ind => by simp [Stm.lines]) kk D' N'
      simp only [Stm.d]
      exact .tup (ka.sqT g6) (.cons (.str _) (.cons (.str _) (.cons (.str _) (.cons (.str _) .nil))))
  row_readAll go
  have star : ∀ H4, Keep [h, c] H H4 → Drw H4 h c → NL H4 h c nl names → mkT K [V.str (Str.ofString "star"), V.str z] H4 Q := fun H4 k4 D4 N4 => by
    refine v_mkT (by row_readAll ln) fun p5 H5 f5 k5 g5 => ?_
    refine q (.ref p5) (.star z) H5 ?_ (simple _ (by simp only [Stm.wf]; exact oz) rfl fun ind => by simp [Stm.lines]) (k4.trans k5.nil) (D4.k0 k5) (N4.k0 k5)
    simp only [Stm.d]
    exact .tup g5 (.cons (.str _) (.cons (.str _) .nil))
  refine d_star D3 N3 (fun H4 k4 D4 N4 => star H4 (k123.k.trans k4) D4 N4) fun H4 k4 D4 N4 h10 => ?_
  have k5 : KC [h, c] H H4 := ⟨k123.k.trans k4⟩
  row_readAll go
  have e1 : ((d : Int) + 1) = ((d + 1 : Nat) : Int) := by omega
  rw [e1]
  refine ⟨h, c, nl, names, d + 1, rfl, D4, N4, by omega, by omega, fun v6 b6 H6 i6 r6 k6 D6 N6 => ?_⟩
  row_readAll go
  refine ⟨h, c, nl, names, d + 1, rfl, D6, N6, by omega, by omega, fun v7 b7 H7 i7 r7 k7 D7 N7 => ?_⟩
  row_readAll go
  have k8 : KC [h, c] H H7 := ⟨(k5.k.trans k6).trans k7⟩
  have i67 := i6.mono k7
  have rr : rowsN (d + 1) ≤ 22 ∧ (max 1 (rowsN (d + 1))) + (max 1 (rowsN (d + 1))) + 2 ≤ rowN d := by
    have : d = 0 ∨ d = 1 ∨ d = 2 ∨ d = 3 := by omega
    rcases this with rfl | rfl | rfl | rfl <;> decide
  have r6d := r6.dep
  have r7d := r7.dep
  refine ite_c (fun h10 => ?_) (fun h10 => ?_)
  · row_readAll go
    refine v_mkT (by row_readAll ln) fun p9 H9 f9 k9 g9 => ?_
    refine q (.ref p9) (.fn z b6) H9 ?_ ⟨by simp only [Stm.wf]; exact ⟨oz, r6.wf⟩, by simp only [Stm.dep]; omega, fun ind => ?_⟩ (k8.k.trans k9.nil) (D7.k0 k9) (N7.k0 k9)
    · simp only [Stm.d]
      exact .tup g9 (.cons (.str _) (.cons (.str _) (.cons (i67.mono k9) .nil)))
    · have := r6.inner (ind ++ "  ")
      simp only [Stm.lines, List.length_append, List.length_singleton]; omega
  row_readAll go
  refine v_mkL (by row_readAll ln) fun p9 H9 f9 k9 g9 => ?_
  have np := D7.ne1 f9
  row_readAll go
  refine v_nx (D7.k0 k9) (by decide) (by decide) fun w Ha w0 w1 ka Da => ?_
  have Na := (N7.k0 k9).keep ka
  have kA : KC [h, c] H Ha := ⟨(k8.k.trans k9.nil).trans ka⟩
  have ga := ka.obj _ _ (by simp [np.1, np.2]) g9
  row_readAll go
  refine ite_c (fun h0 => ?_) (fun h0 => ?_)
  · refine v_lx Da Na (by decide) (by decide) fun ve e Hb ib wb kb Db Nb => ?_
    refine v_mkT (by row_readAll ln) fun pc Hc fc kc gc => ?_
    refine q (.ref pc) (.ite e b6 b7) Hc ?_ ⟨by simp only [Stm.wf]; exact ⟨wb, r6.wf, r7.wf⟩, by simp only [Stm.dep]; omega, fun ind => ?_⟩ ((kA.k.trans kb).trans kc.nil) (Db.k0 kc) (Nb.k0 kc)
    · simp only [Stm.d]
      exact .tup gc (.cons (.str _) (.cons (ib.mono kc) (.cons ((((i67.mono k9).mono ka).mono kb).mono kc) (.cons ((((i7.mono k9).mono ka).mono kb).mono kc) .nil))))
    · have := r6.inner (ind ++ "  ")
      have := r7.inner (ind ++ "  ")
      simp only [Stm.lines, List.length_append, List.length_singleton]; omega
  · row_readAll go
    refine v_nx Da (by decide) (by decide) fun x Hb x0 x1 kb Db => ?_
    have gb := kb.obj _ _ (by simp [np.1, np.2]) ga
    obtain ⟨y2, hy, ha⟩ := atI_lt (xs := kinds.map V.str) x0 (by show x < 6; exact x1)
    rw [List.getElem?_map] at hy
    cases hz : kinds[x.toNat]? with
    | none => rw [hz] at hy; cases hy
    | some kd =>
    rw [hz] at hy
    cases hy
    refine v_ixL (xs := kinds.map V.str) (SqL.of gb) ha ?_
    refine v_mkT (by row_readAll ln) fun pc Hc fc kc gc => ?_
    refine q (.ref pc) (.tri kd b6 b7) Hc ?_ ⟨by simp only [Stm.wf]; exact ⟨List.mem_of_getElem? hz, r6.wf, r7.wf⟩, by simp only [Stm.dep]; omega, fun ind => ?_⟩ ((kA.k.trans kb).trans kc.nil) (Db.k0 kc) (((Na.keep kb)).k0 kc)
    · simp only [Stm.d]
      exact .tup gc (.cons (.str _) (.cons (.str _) (.cons ((((i67.mono k9).mono ka).mono kb).mono kc) (.cons ((((i7.mono k9).mono ka).mono kb).mono kc) .nil))))
    · have := r6.inner (ind ++ "  ")
      have := r7.inner (ind ++ "  ")
      simp only [Stm.lines, List.length_append, List.length_singleton]; omega
theorem ImAll.snoc {K : PySem.W.Frag} {H : Hp} {vs : List V} {ds : List PyData} {v : V} {d : PyData} (a : ImAll K H vs ds) (b : Im K H v d) : ImAll K H (vs ++ [v]) (ds ++ [d]) := a.append (.cons b .nil)
theorem depL_append (a : List Stm) (s : Stm) : depL (a ++ [s]) = max (depL a) s.dep := by
  induction a with
  | nil => simp [depL]
  | cons x r ih => simp only [List.cons_append, depL, ih]; omega
theorem pure_law_deep_rows {K : PySem.W.Frag} {n : Nat} (vs : List V) (H : Hp) (Q : VK) (E : XK) (h : sp_law_deep_rows K n vs H Q E) : t_law_deep_rows K (sp_law_deep_row K n) { nx := fun _ H' => Q .non H', rt := Q } (start n_law_deep_rows vs) H := by
  obtain ⟨h, c, nl, names, d, rfl, D, N, d4, dn, q⟩ := h
  show t_law_deep_rows K _ _ [some (.ref h), some (.ref nl), some (.int d), none, none] H
  unfold t_law_deep_rows
  have sl := sl_eq
  row_readAll go
  refine v_mkL (by row_readAll ln) fun p1 H1 f1 k1 g1 => ?_
  have hm : atI [V.int 4, V.int 2, V.int 2, V.int 2, V.int 1] (d : Int) = some (.int (mostN d + 1)) := by
    have : d = 0 ∨ d = 1 ∨ d = 2 ∨ d = 3 ∨ d = 4 := by omega
    rcases this with rfl | rfl | rfl | rfl | rfl <;> rfl
  refine v_ixL (SqL.of g1) hm ?_
  row_readAll go
  have hmx : mostN d ≤ 3 := by
    have : d = 0 ∨ d = 1 ∨ d = 2 ∨ d = 3 ∨ d = 4 := by omega
    rcases this with rfl | rfl | rfl | rfl | rfl <;> decide
  refine v_nx (D.k0 k1) (by omega) (by omega) fun u H2 u0 u1 k2 D2 => ?_
  have N2 := (N.k0 k1).keep k2
  row_readAll go
  refine ⟨by omega, by omega, ?_⟩
  refine comp_gen u.toNat (fun Dd i H' => ∃ (vs : List V) (b : List Stm), H' Dd = some (.lst vs) ∧ ImAll K H' vs (blkD b) ∧ b.length = i ∧ (∀ s ∈ b, DRow d s) ∧ Keep [h, c] H2 H' ∧ Drw H' h c ∧ NL H' h c nl names) ?_ ?_ ?_ ?_ ?_
  · exact fun Dd H6 _ k6 g6 => ⟨[], [], g6, by simp [blkD]; exact .nil, rfl, by simp, k6.nil, D2.k0 k6, N2.k0 k6⟩
  · exact fun Dd H6 _ => Nat.le_refl _
  · exact fun Dd i H6 hi _ => hi
  · rintro Dd i H6 x H7 fD hi ⟨vs, b, gv, iv, lb, ok, k6, D6, N6⟩ ⟨rfl, rfl⟩
    row_readAll go
    have hd3 : d ≤ 3 := by
      rcases Nat.lt_or_ge d 4 with z | z
      · omega
      · have : d = 4 := by omega
        subst this
        have : mostN 4 = 0 := rfl
        omega
    refine ⟨h, c, nl, names, d, rfl, D6, N6, hd3, dn, fun v s H8 i8 r8 k8 D8 N8 => ?_⟩
    have npD := D2.ne1 fD
    have gl8 := k8.obj _ _ (by simp [npD.1, npD.2]) gv
    have kp : Keep [Dd] H8 (upd H8 Dd (.lst (vs ++ [v]))) := Keep.put gl8 True.intro
    have nlD : nl ≠ Dd := fun e => by
      subst e
      have := N2.at_
      rw [fD] at this; cases this
    refine ⟨vs, gl8, by have := iv.length; rw [blkD_length] at this; omega, vs ++ [v], b ++ [s], upd_same, ?_, by simp [lb], ?_, (k6.trans k8).step1 kp fD, D8.keep kp (by simp [Ne.symm npD.1]) (by simp [Ne.symm npD.2]), ⟨kp.obj _ _ (by simp [nlD]) N8.at_, N8.ne, N8.few, N8.ok, N8.n1, N8.n2⟩⟩
    · have e : blkD (b ++ [s]) = blkD b ++ [s.d] := by simp [blkD_map]
      rw [e]
      exact ((iv.mono k8).snoc i8).mono kp
    · intro a m
      simp only [List.mem_append, List.mem_singleton] at m
      rcases m with m | rfl
      · exact ok a m
      · exact r8
  · rintro Dd H6 fD ⟨vs, b, gv, iv, lb, ok, k6, D6, N6⟩
    refine v_tupOf (SqL.of gv) fun l H7 fl k7 gl => ?_
    refine q (.ref l) b H7 (.tup gl (iv.mono k7)) ⟨(wfL_iff b).mpr fun s m => (ok s m).wf, ?_, fun ind => ?_⟩ (((k1.nil.trans k2).trans k6).trans k7.nil) (D6.k0 k7) (N6.k0 k7)
    · have : ∀ l : List Stm, (∀ s ∈ l, DRow d s) → depL l + d ≤ 4 := by
        intro l
        induction l with
        | nil => intro _; simp only [depL]; omega
        | cons x r ih =>
          intro hx
          have h1 := (hx x (by simp)).dep
          have h2 := ih fun s m => hx s (by simp [m])
          simp only [depL]; omega
      exact this b ok
    · have key : ∀ l : List Stm, (∀ s ∈ l, DRow d s) → (linesL ind l).length ≤ l.length * rowN d := by
        intro l
        induction l with
        | nil => intro _; simp [linesL]
        | cons x r ih =>
          intro hx
          have h1 := (hx x (by simp)).cnt ind
          have h2 := ih fun s m => hx s (by simp [m])
          simp only [linesL, List.length_append, List.length_cons, Nat.succ_mul]; omega
      have h1 := key b ok
      have h2 : b.length * rowN d ≤ mostN d * rowN d := Nat.mul_le_mul_right _ (by omega)
      have h3 : mostN d * rowN d ≤ rowsN d := by
        have : d = 0 ∨ d = 1 ∨ d = 2 ∨ d = 3 ∨ d = 4 := by omega
        rcases this with rfl | rfl | rfl | rfl | rfl <;> decide
      omega
end M

namespace M
open PySem L2
def t_law (K : PySem.W.Frag)  : TS := (tSeq (tAsg (tCall (sp_law_mix K) [] E0 (tCons (tVar 0) (tCons (tC (.int 27)) tNil))) (gName 1))
  (tSeq (tFor (iRng1 (tCons (tC (.int 8)) tNil)) (gName 2) (tSeq (tAsg (tCall (sp_law_deep_rows K 5) [] E0 (tCons (tVar 1) (tCons (tCall (sp_law_names K) [] E0 (tCons (tVar 1) (tCons (tC (.int 4)) tNil))) (tCons (tC (.int 0)) tNil)))) (gName 3))
  (tSeq (tAsg (tCall (sp_format_block K) [] E0 (tCons (tVar 3) tNil)) (gName 4))
  (tIfS (tOr (tNot (tB (tCB (rIsi K) (tCons (tVar 4) (tCons (tC (.ty "str")) tNil))))) (tTest (tOp (rNeX K) (tVar 4) (tCall (sp_law_text K) [] E0 (tCons (tCall (sp_law_lines K 6) [] E0 (tCons (tVar 3) (tCons (tC (.str "")) tNil))) tNil))))) (tRet (tC (.bl false))) tNext))))
  (tRet (tOp (rEqX K) (tCall (sp_format_block K) [] E0 (tCons (tTupX K tNil) tNil)) (tC (.str ""))))))
def n_law : List Str := ["_law_script", "_law_h", "_law_turn", "_law_block", "_law_found"]
def sp_law (K : PySem.W.Frag) : Sp := fun vs H Q _ => ∃ (a : Addr) (ns : List Int), vs = [.ref a] ∧ SqL K H a (ns.map V.int) ∧ ns.length ≤ 63 ∧ ∀ H', Q (.bl true) H'
theorem pure_law {K : PySem.W.Frag} (vs : List V) (H : Hp) (Q : VK) (E : XK) (h : sp_law K vs H Q E) : t_law K { nx := fun _ H' => Q .non H', rt := Q } (start n_law vs) H := by
  obtain ⟨a, ns, rfl, hs, hl, q⟩ := h
  show t_law K _ [some (.ref a), none, none, none, none] H
  unfold t_law
  row_readAll go
  refine ⟨a, ns, 27, rfl, hs, hl, by decide, by decide, fun h c H1 fh fc k1 D1 => ?_⟩
  row_readAll go
  refine ⟨by decide, by decide, ?_⟩
  refine loop_R (fun i σ' H' => ∃ x y z : Option V, σ' = [some (.ref a), some (.ref h), x, y, z] ∧ Drw H' h c) ⟨_, _, _, rfl, D1⟩ ?_ ?_
  · rintro i σ' H2 hi ⟨x, y, z, rfl, D2⟩
    row_readAll go
    refine ⟨h, c, 4, rfl, D2, by decide, by decide, fun p names H3 f3 ne ln ok g3 k3 D3 => ?_⟩
    have np := D2.ne1 f3
    row_readAll go
    refine ⟨h, c, p, names, 0, rfl, D3, ⟨g3, ne, by omega, ok, np.1, np.2⟩, by decide, by decide, fun v b H4 i4 r4 k4 D4 N4 => ?_⟩
    have hf := wfL_fits r4.wf
    have hd := r4.dep
    have hy := wfL_LayB r4.wf (by omega)
    have hsm := wfL_small r4.wf (by omega) (by have := r4.cnt ""; have e : rowsN 0 = 138 := rfl; omega)
    row_readAll go
    refine ⟨v, b, rfl, i4, hf, hy, hsm, by omega, fun H5 k5 => ?_⟩
    row_readAll go
    refine ⟨v, "", b, rfl, i4.mono k5, hf, hy, hsm, by omega, fun p6 H6 f6 k6 g6 => ?_⟩
    row_readAll go
    refine ⟨p6, _, rfl, g6, hsm, fun H7 k7 => ?_⟩
    row_readAll go
    exact ⟨_, _, _, rfl, ((D4.k0 k5).k0 k6).k0 k7⟩
  · rintro σ' H2 ⟨x, y, z, rfl, D2⟩
    row_readAll go
    refine v_mkT (by row_readAll ln) fun p3 H3 f3 k3 g3 => ?_
    refine ⟨.ref p3, [], rfl, .tup g3 (by simp only [blkD]; exact .nil), by simp only [fitsL], wfL_LayB (by simp only [wfL]) (by decide), ⟨by simp [linesL], by simp [linesL]⟩, by decide, fun H4 k4 => ?_⟩
    have e : txtOf (linesL (Str.ofString "") []) = Str.ofString "" := by decide +kernel
    rw [e]
    row_readAll go
    exact q H4
end M

namespace M
open PySem PySem.Spec PyProof.Rows L2
abbrev FnP (K : PySem.W.Frag) (x : Str) (st : Stmt) (f : Addr) (fd : FuncData) : Prop := FunD K x x (defArgs st) (defBody st) (defScope st) [] [] f fd
def top (i : Nat) : Stmt := PySem.Challenge.pw_modlink_k17_blocks_written.main.body.getD i (.Pass ⟨0, 0, 0, 0⟩)
abbrev s_is_integer : Stmt := top 1
abbrev s_format_expression : Stmt := top 5
abbrev s_format_head : Stmt := top 6
abbrev s_format_inner : Stmt := top 7
abbrev s_format_lines : Stmt := top 8
abbrev s_format_block : Stmt := top 9
abbrev s_law_mix : Stmt := top 11
abbrev s_law_next : Stmt := top 12
abbrev s_law_name : Stmt := top 13
abbrev s_law_names : Stmt := top 14
abbrev s_law_integer : Stmt := top 15
abbrev s_law_expr : Stmt := top 16
abbrev s_law_deep_row : Stmt := top 17
abbrev s_law_deep_rows : Stmt := top 18
abbrev s_law_expr_text : Stmt := top 19
abbrev s_law_head : Stmt := top 20
abbrev s_law_inner : Stmt := top 21
abbrev s_law_lines : Stmt := top 22
abbrev s_law_text : Stmt := top 23
abbrev s_law : Stmt := top 24
section
variable {P : Program} {w : World} {K : PySem.W.Frag} {mg : Str → Option Value} {base : Heap}
theorem sc_is_integer : FnScope ["value"] ["value"] (defScope s_is_integer) := ⟨rfl, rfl, rfl, by decide +kernel, rfl, by decide +kernel, by decide +kernel⟩
theorem ok_is_integer  {f : Addr} {fd : FuncData} (F : FnP K "is_integer" s_is_integer f fd) (B : Blt mg)   : FnOk P w K mg base CX0 (0 + 1) f fd ["value"] (sp_is_integer K) := by
  refine F.ok sc_is_integer (fun vs H Q E h => ?_) (fun cdv A outer s H vs Q E hr h => ⟨t_is_integer K , PSs.nox ?_, pure_is_integer vs H Q E h⟩)
  · obtain ⟨_, _, rfl, _⟩ := h
    rfl
  · exact (pss_one (ps_ret (pe_and (pe_callB call_isi rfl B.isinstance bt_isinstance (pa_cons (pv 0) (pa_cons (pe_bltn rfl B.int bt_int rfl) pa_nil))) (pe_one (pe_not (pe_callB call_isi rfl B.isinstance bt_isinstance (pa_cons (pv 0) (pa_cons (pe_bltn rfl B.bool bt_bool rfl) pa_nil))))))))
theorem sc_format_expression : FnScope ["expr", "sign"] ["expr"] (defScope s_format_expression) := ⟨rfl, rfl, rfl, by decide +kernel, rfl, by decide +kernel, by decide +kernel⟩
theorem ok_format_expression {n : Nat} {f : Addr} {fd : FuncData} (F : FnP K "format_expression" s_format_expression f fd) (B : Blt mg) (c_is_integer : C8.Cal P w K mg base 1 "is_integer" (sp_is_integer K) []) (c_format_expression : C8.Cal P w K mg base (n + 1) "format_expression" (sp_format_expression K n) [])  : FnOk P w K mg base CX0 ((n + 1) + 1) f fd ["expr"] (sp_format_expression K (n + 1)) := by
  refine F.ok sc_format_expression (fun vs H Q E h => ?_) (fun cdv A outer s H vs Q E hr h => ⟨t_format_expression K (sp_format_expression K n), PSs.nox ?_, pure_format_expression vs H Q E h⟩)
  · obtain ⟨_, _, rfl, _⟩ := h
    rfl
  · exact (pss_cons (ps_if (pt_val (C8.pe_c c_is_integer hr (by omega) rfl (pa_cons (pv 0) pa_nil))) (pss_one (ps_ret (pe_callTy cb_str rfl B.str bt_str (pa_cons (pv 0) pa_nil)))) pss_nil)
  (pss_cons (ps_if (pt_cmpR (op_eqX hr.units) (pe_ix ix_seq (pv 0) pe_int (fun _ _ => rfl)) pe_str (nomark _)) (pss_one (ps_ret (pe_ix ix_seq (pv 0) pe_int (fun _ _ => rfl)))) pss_nil)
  (pss_cons (ps_if (pt_cmpR (op_eqX hr.units) (pe_ix ix_seq (pv 0) pe_int (fun _ _ => rfl)) pe_str (nomark _)) (pss_one (ps_ret (pe_op op_addX (pe_op op_addX (pe_ix ix_seq (pv 0) pe_int (fun _ _ => rfl)) pe_str) (pe_ix ix_seq (pv 0) pe_int (fun _ _ => rfl))))) pss_nil)
  (pss_cons (sN 1 sc_format_expression.nd (pe_ifExp (pt_cmpR (op_eqX hr.units) (pe_ix ix_seq (pv 0) pe_int (fun _ _ => rfl)) pe_str (nomark _)) pe_str pe_str))
  (pss_one (ps_ret (pe_op op_addX (pe_op op_addX (pe_op op_addX (pe_op op_addX pe_str (C8.pe_c c_format_expression hr (Nat.le_refl _) rfl (pa_cons (pe_ix ix_seq (pv 0) pe_int (fun _ _ => rfl)) pa_nil))) (pv 1)) (C8.pe_c c_format_expression hr (Nat.le_refl _) rfl (pa_cons (pe_ix ix_seq (pv 0) pe_int (fun _ _ => rfl)) pa_nil))) pe_str)))))))
theorem sc_format_head : FnScope ["statement", "name", "expr", "module", "wanted", "block", "other", "kind", "handler", "word"] ["statement"] (defScope s_format_head) := ⟨rfl, rfl, rfl, by decide +kernel, rfl, by decide +kernel, by decide +kernel⟩
theorem ok_format_head  {f : Addr} {fd : FuncData} (F : FnP K "format_head" s_format_head f fd) (B : Blt mg) (c_format_expression : C8.Cal P w K mg base 11 "format_expression" (sp_format_expression K 10) [])  : FnOk P w K mg base CX0 (11 + 1) f fd ["statement"] (sp_format_head K) := by
  refine F.ok sc_format_head (fun vs H Q E h => ?_) (fun cdv A outer s H vs Q E hr h => ⟨t_format_head K , PSs.nox ?_, pure_format_head vs H Q E h⟩)
  · obtain ⟨_, _, rfl, _⟩ := h
    rfl
  · exact (pss_cons (ps_match rfl sc_format_head.nd (pv 0) (pcs_cons (ppt_lit (cN 1 (cN 2 ppt_nil))) (pss_one (ps_ret (pe_fs (.cons pe_str (.cons (pe_fmtS (pv 1)) (.cons pe_str (.cons (pe_fmtS (C8.pe_c c_format_expression hr (by decide) rfl (pa_cons (pv 2) pa_nil))) PJ.nil))))))) (pcs_cons (ppt_lit (cN 3 (cN 1 ppt_nil))) (pss_one (ps_ret (pe_fs (.cons pe_str (.cons (pe_fmtS (pv 3)) (.cons pe_str (.cons (pe_fmtS (pv 1)) PJ.nil))))))) (pcs_cons (ppt_lit (cN 3 (cN 4 (cN 1 ppt_nil)))) (pss_one (ps_ret (pe_fs (.cons pe_str (.cons (pe_fmtS (pv 3)) (.cons pe_str (.cons (pe_fmtS (pv 4)) (.cons pe_str (.cons (pe_fmtS (pv 1)) PJ.nil))))))))) (pcs_cons (ppt_lit (cN 3 ppt_nil)) (pss_one (ps_ret (pe_fs (.cons pe_str (.cons (pe_fmtS (pv 3)) (.cons pe_str PJ.nil)))))) (pcs_cons (ppt_lit (cN 1 (cN 5 ppt_nil))) (pss_one (ps_ret (pe_fs (.cons pe_str (.cons (pe_fmtS (pv 1)) (.cons pe_str PJ.nil)))))) (pcs_cons (ppt_lit (cN 2 (cN 5 (cN 6 ppt_nil)))) (pss_one (ps_ret (pe_fs (.cons pe_str (.cons (pe_fmtS (C8.pe_c c_format_expression hr (by decide) rfl (pa_cons (pv 2) pa_nil))) (.cons pe_str PJ.nil)))))) (pcs_cons (ppt_lit (cN 7 (cN 5 (cN 8 ppt_nil)))) (pss_one (ps_ret (pe_fs (.cons pe_str (.cons (pe_fmtS (pv 7)) (.cons pe_str PJ.nil)))))) (pcs_cons (ppt_lit (cN 1 ppt_nil)) (pss_one (ps_ret (pe_fs (.cons pe_str (.cons (pe_fmtS (pv 1)) PJ.nil))))) (pcs_cons (cN 9 (cN 2 ppt_nil)) (pss_one (ps_ret (pe_fs (.cons (pe_fmtS (pv 9)) (.cons pe_str (.cons (pe_fmtS (C8.pe_c c_format_expression hr (by decide) rfl (pa_cons (pv 2) pa_nil))) PJ.nil)))))) pcs_nil))))))))))
  (pss_one (ps_ret pe_str)))
theorem sc_format_inner : FnScope ["block", "indent"] ["block", "indent"] (defScope s_format_inner) := ⟨rfl, rfl, rfl, by decide +kernel, rfl, by decide +kernel, by decide +kernel⟩
theorem ok_format_inner {n : Nat} {f : Addr} {fd : FuncData} (F : FnP K "format_inner" s_format_inner f fd) (B : Blt mg) (c_format_lines : C8.Cal P w K mg base (2 * n + 13) "format_lines" (sp_format_lines K n) [])  : FnOk P w K mg base CX0 ((2 * n + 13) + 1) f fd ["block", "indent"] (sp_format_inner K n) := by
  refine F.ok sc_format_inner (fun vs H Q E h => ?_) (fun cdv A outer s H vs Q E hr h => ⟨t_format_inner K (sp_format_lines K n), PSs.nox ?_, pure_format_inner vs H Q E h⟩)
  · obtain ⟨_, _, _, rfl, _⟩ := h
    rfl
  · exact (pss_cons (ps_if (pt_cmpR (op_eqX hr.units) (pv 0) (pe_tupX pa_nil) (nomark _)) (pss_one (ps_ret (pe_lstX (pa_cons (pe_op op_addX (pv 1) pe_str) pa_nil)))) pss_nil)
  (pss_one (ps_ret (C8.pe_c c_format_lines hr (Nat.le_refl _) rfl (pa_cons (pv 0) (pa_cons (pv 1) pa_nil))))))
theorem sc_format_lines : FnScope ["block", "indent", "lines", "statement"] ["block", "indent"] (defScope s_format_lines) := ⟨rfl, rfl, rfl, by decide +kernel, rfl, by decide +kernel, by decide +kernel⟩
theorem ok_format_lines {n : Nat} {cl : Addr} {f : Addr} {fd : FuncData} (F : FnP K "format_lines" s_format_lines f fd) (B : Blt mg) (c_format_inner : C8.Cal P w K mg base (2 * n + 14) "format_inner" (sp_format_inner K n) []) (c_format_head : C8.Cal P w K mg base 12 "format_head" (sp_format_head K) []) (gI : ∃ u, mg "INDENT" = some u ∧ RelV (.str "  ") u) (gC : ∃ u, mg "CLOSINGS" = some u ∧ RelV (.ref cl) u) (kd : KTab K w cl [("if", "else:"), ("try", "except:")]) : FnOk P w K mg base CX0 ((2 * n + 14) + 1) f fd ["block", "indent"] (sp_format_lines K (n + 1)) := by
  refine F.ok sc_format_lines (fun vs H Q E h => ?_) (fun cdv A outer s H vs Q E hr h => ⟨t_format_lines K cl (sp_format_inner K n), PSs.nox ?_, pure_format_lines vs H Q E h⟩)
  · obtain ⟨_, _, _, rfl, _⟩ := h
    rfl
  · exact (pss_cons (sN 2 sc_format_lines.nd (pe_lstX pa_nil))
  (pss_cons (ps_for PassesOwn.never rfl (pi_seq (pv 0)) (gN 3 sc_format_lines.nd) (pss_cons (ps_expr (pe_bm PySem.F.plainAttrs_list PySem.F.slot_list_append PySem.F.type_list_append mt_append (pv 2) (pa_cons (pe_op op_addX (pv 1) (C8.pe_c c_format_head hr (by omega) rfl (pa_cons (pv 3) pa_nil))) pa_nil)))
  (pss_one (ps_if (pt_cmpR (op_eqX hr.units) (pe_ix ix_seq (pv 3) pe_int (fun _ _ => rfl)) pe_str (nomark _)) (pss_one (ps_aug (i := 2) sc_format_lines.nd rfl (Or.inl rfl) (C8.pe_c c_format_inner hr (Nat.le_refl _) rfl (pa_cons (pe_ix ix_seq (pv 3) pe_int (fun _ _ => rfl)) (pa_cons (pe_op op_addX (pv 1) (C8.pe_gc rfl gI)) pa_nil))) ip_addX)) (pss_one (ps_if (pt_cmpR (op_kin kd) (pe_ix ix_seq (pv 3) pe_int (fun _ _ => rfl)) (C8.pe_gc rfl gC) rfl) (pss_cons (ps_aug (i := 2) sc_format_lines.nd rfl (Or.inl rfl) (C8.pe_c c_format_inner hr (Nat.le_refl _) rfl (pa_cons (pe_ix ix_seq (pv 3) pe_int (fun _ _ => rfl)) (pa_cons (pe_op op_addX (pv 1) (C8.pe_gc rfl gI)) pa_nil))) ip_addX)
  (pss_cons (ps_expr (pe_bm PySem.F.plainAttrs_list PySem.F.slot_list_append PySem.F.type_list_append mt_append (pv 2) (pa_cons (pe_op op_addX (pv 1) (pe_ix (ix_kget kd) (C8.pe_gc rfl gC) (pe_ix ix_seq (pv 3) pe_int (fun _ _ => rfl)) (fun _ _ => rfl))) pa_nil)))
  (pss_one (ps_aug (i := 2) sc_format_lines.nd rfl (Or.inl rfl) (C8.pe_c c_format_inner hr (Nat.le_refl _) rfl (pa_cons (pe_ix ix_seq (pv 3) pe_int (fun _ _ => rfl)) (pa_cons (pe_op op_addX (pv 1) (C8.pe_gc rfl gI)) pa_nil))) ip_addX)))) pss_nil))))))
  (pss_one (ps_ret (pv 2)))))
theorem sc_format_block : FnScope ["block", "line"] ["block"] (defScope s_format_block) := ⟨rfl, rfl, rfl, by decide +kernel, rfl, by decide +kernel, by decide +kernel⟩
theorem ok_format_block  {f : Addr} {fd : FuncData} (F : FnP K "format_block" s_format_block f fd) (B : Blt mg) (c_format_lines : C8.Cal P w K mg base 25 "format_lines" (sp_format_lines K 6) [])  : FnOk P w K mg base CX0 (30 + 1) f fd ["block"] (sp_format_block K) := by
  refine F.ok sc_format_block (fun vs H Q E h => ?_) (fun cdv A outer s H vs Q E hr h => ⟨t_format_block K , PSs.nox ?_, pure_format_block vs H Q E h⟩)
  · obtain ⟨_, _, rfl, _⟩ := h
    rfl
  · exact (pss_one (ps_ret (pe_joinX pe_str (pe_lc (own := [("line", 1)]) (g := (gName 1)) (tt := tYes) rfl sc_format_block.nd (pi_seq (C8.pe_c c_format_lines hr (by decide) rfl (pa_cons (pv 0) (pa_cons pe_str pa_nil)))) (blkOk_by (N := ["block", "line"]) (sc := defScope s_format_block) (by decide +kernel)) (fun _ _ _ _ _ => (gN 1 sc_format_block.nd)) (fun _ _ _ _ _ => pts_nil) (fun _ _ _ _ _ => (pe_op op_addX (pv 1) pe_str))))))
theorem sc_law_expr_text : FnScope ["_law_expr_here"] ["_law_expr_here"] (defScope s_law_expr_text) := ⟨rfl, rfl, rfl, by decide +kernel, rfl, by decide +kernel, by decide +kernel⟩
theorem ok_law_expr_text {n : Nat} {f : Addr} {fd : FuncData} (F : FnP K "_law_expr_text" s_law_expr_text f fd) (B : Blt mg) (c_law_expr_text : C8.Cal P w K mg base (n + 1) "_law_expr_text" (sp_law_expr_text K n) [])  : FnOk P w K mg base CX0 ((n + 1) + 1) f fd ["_law_expr_here"] (sp_law_expr_text K (n + 1)) := by
  refine F.ok sc_law_expr_text (fun vs H Q E h => ?_) (fun cdv A outer s H vs Q E hr h => ⟨t_law_expr_text K (sp_law_expr_text K n), PSs.nox ?_, pure_law_expr_text vs H Q E h⟩)
  · obtain ⟨_, _, rfl, _⟩ := h
    rfl
  · exact (pss_cons (ps_if (pt_val (pe_callB call_isi rfl B.isinstance bt_isinstance (pa_cons (pv 0) (pa_cons (pe_bltn rfl B.int bt_int rfl) pa_nil)))) (pss_one (ps_ret (pe_callTy cb_str rfl B.str bt_str (pa_cons (pv 0) pa_nil)))) pss_nil)
  (pss_cons (ps_if (pt_cmpR (op_eqX hr.units) (pe_ix ix_seq (pv 0) pe_int (fun _ _ => rfl)) pe_str (nomark _)) (pss_one (ps_ret (pe_ix ix_seq (pv 0) pe_int (fun _ _ => rfl)))) pss_nil)
  (pss_cons (ps_if (pt_cmpR (op_eqX hr.units) (pe_ix ix_seq (pv 0) pe_int (fun _ _ => rfl)) pe_str (nomark _)) (pss_one (ps_ret (pe_op op_addX (pe_op op_addX (pe_ix ix_seq (pv 0) pe_int (fun _ _ => rfl)) pe_str) (pe_ix ix_seq (pv 0) pe_int (fun _ _ => rfl))))) pss_nil)
  (pss_one (ps_ret (pe_op op_addX (pe_op op_addX (pe_op op_addX (pe_op op_addX pe_str (C8.pe_c c_law_expr_text hr (Nat.le_refl _) rfl (pa_cons (pe_ix ix_seq (pv 0) pe_int (fun _ _ => rfl)) pa_nil))) (pe_ix ix_seq (pe_lstX (pa_cons pe_str (pa_cons pe_str pa_nil))) (pe_callTy cb_int rfl B.int bt_int (pa_cons (pe_cmpR (op_eqX hr.units) (pe_ix ix_seq (pv 0) pe_int (fun _ _ => rfl)) pe_str (nomark _)) pa_nil)) (fun _ _ => rfl))) (C8.pe_c c_law_expr_text hr (Nat.le_refl _) rfl (pa_cons (pe_ix ix_seq (pv 0) pe_int (fun _ _ => rfl)) pa_nil))) pe_str))))))
theorem sc_law_head : FnScope ["_law_row"] ["_law_row"] (defScope s_law_head) := ⟨rfl, rfl, rfl, by decide +kernel, rfl, by decide +kernel, by decide +kernel⟩
theorem ok_law_head  {f : Addr} {fd : FuncData} (F : FnP K "_law_head" s_law_head f fd) (B : Blt mg) (c_law_expr_text : C8.Cal P w K mg base 11 "_law_expr_text" (sp_law_expr_text K 10) [])  : FnOk P w K mg base CX0 (11 + 1) f fd ["_law_row"] (sp_law_head K) := by
  refine F.ok sc_law_head (fun vs H Q E h => ?_) (fun cdv A outer s H vs Q E hr h => ⟨t_law_head K , PSs.nox ?_, pure_law_head vs H Q E h⟩)
  · obtain ⟨_, _, rfl, _⟩ := h
    rfl
  · exact (pss_cons (ps_if (pt_cmpR (op_eqX hr.units) (pe_ix ix_seq (pv 0) pe_int (fun _ _ => rfl)) pe_str (nomark _)) (pss_one (ps_ret (pe_op op_addX (pe_op op_addX (pe_op op_addX pe_str (pe_ix ix_seq (pv 0) pe_int (fun _ _ => rfl))) pe_str) (C8.pe_c c_law_expr_text hr (by decide) rfl (pa_cons (pe_ix ix_seq (pv 0) pe_int (fun _ _ => rfl)) pa_nil))))) pss_nil)
  (pss_cons (ps_if (pt_cmpR op_inX (pe_ix ix_seq (pv 0) pe_int (fun _ _ => rfl)) (pe_tupX (pa_cons pe_str (pa_cons pe_str pa_nil))) rfl) (pss_one (ps_ret (pe_op op_addX (pe_op op_addX (pe_ix ix_seq (pv 0) pe_int (fun _ _ => rfl)) pe_str) (C8.pe_c c_law_expr_text hr (by decide) rfl (pa_cons (pe_ix ix_seq (pv 0) pe_int (fun _ _ => rfl)) pa_nil))))) pss_nil)
  (pss_cons (ps_if (pt_cmpR (op_eqX hr.units) (pe_ix ix_seq (pv 0) pe_int (fun _ _ => rfl)) pe_str (nomark _)) (pss_one (ps_ret (pe_op op_addX (pe_op op_addX (pe_op op_addX pe_str (pe_ix ix_seq (pv 0) pe_int (fun _ _ => rfl))) pe_str) (pe_ix ix_seq (pv 0) pe_int (fun _ _ => rfl))))) pss_nil)
  (pss_cons (ps_if (pt_cmpR (op_eqX hr.units) (pe_ix ix_seq (pv 0) pe_int (fun _ _ => rfl)) pe_str (nomark _)) (pss_one (ps_ret (pe_op op_addX (pe_op op_addX (pe_op op_addX (pe_op op_addX (pe_op op_addX pe_str (pe_ix ix_seq (pv 0) pe_int (fun _ _ => rfl))) pe_str) (pe_ix ix_seq (pv 0) pe_int (fun _ _ => rfl))) pe_str) (pe_ix ix_seq (pv 0) pe_int (fun _ _ => rfl))))) pss_nil)
  (pss_cons (ps_if (pt_cmpR (op_eqX hr.units) (pe_ix ix_seq (pv 0) pe_int (fun _ _ => rfl)) pe_str (nomark _)) (pss_one (ps_ret (pe_op op_addX (pe_op op_addX pe_str (pe_ix ix_seq (pv 0) pe_int (fun _ _ => rfl))) pe_str))) pss_nil)
  (pss_cons (ps_if (pt_cmpR (op_eqX hr.units) (pe_ix ix_seq (pv 0) pe_int (fun _ _ => rfl)) pe_str (nomark _)) (pss_one (ps_ret (pe_op op_addX (pe_op op_addX pe_str (C8.pe_c c_law_expr_text hr (by decide) rfl (pa_cons (pe_ix ix_seq (pv 0) pe_int (fun _ _ => rfl)) pa_nil))) pe_str))) pss_nil)
  (pss_cons (ps_if (pt_cmpR op_inX (pe_ix ix_seq (pv 0) pe_int (fun _ _ => rfl)) (pe_tupX (pa_cons pe_str (pa_cons pe_str pa_nil))) rfl) (pss_one (ps_ret (pe_op op_addX (pe_op op_addX (pe_op op_addX (pe_ix ix_seq (pv 0) pe_int (fun _ _ => rfl)) pe_str) (pe_ix ix_seq (pv 0) pe_int (fun _ _ => rfl))) pe_str))) pss_nil)
  (pss_one (ps_ret (pe_ifExp (pt_cmpR (op_eqX hr.units) (pe_ix ix_seq (pv 0) pe_int (fun _ _ => rfl)) pe_str (nomark _)) (pe_ix ix_seq (pv 0) pe_int (fun _ _ => rfl)) (pe_op op_addX pe_str (pe_ix ix_seq (pv 0) pe_int (fun _ _ => rfl)))))))))))))
theorem sc_law_inner : FnScope ["_law_block", "_law_indent"] ["_law_block", "_law_indent"] (defScope s_law_inner) := ⟨rfl, rfl, rfl, by decide +kernel, rfl, by decide +kernel, by decide +kernel⟩
theorem ok_law_inner {n : Nat} {f : Addr} {fd : FuncData} (F : FnP K "_law_inner" s_law_inner f fd) (B : Blt mg) (c_law_lines : C8.Cal P w K mg base (2 * n + 13) "_law_lines" (sp_law_lines K n) [])  : FnOk P w K mg base CX0 ((2 * n + 13) + 1) f fd ["_law_block", "_law_indent"] (sp_law_inner K n) := by
  refine F.ok sc_law_inner (fun vs H Q E h => ?_) (fun cdv A outer s H vs Q E hr h => ⟨t_law_inner K (sp_law_lines K n), PSs.nox ?_, pure_law_inner vs H Q E h⟩)
  · obtain ⟨_, _, _, rfl, _⟩ := h
    rfl
  · exact (pss_one (ps_ret (pe_ifExp (pt_cmpR (op_eqX hr.units) (pv 0) (pe_tupX pa_nil) (nomark _)) (pe_lstX (pa_cons (pe_op op_addX (pv 1) pe_str) pa_nil)) (C8.pe_c c_law_lines hr (Nat.le_refl _) rfl (pa_cons (pv 0) (pa_cons (pv 1) pa_nil))))))
theorem sc_law_lines : FnScope ["_law_block", "_law_indent", "_law_found", "_law_row"] ["_law_block", "_law_indent"] (defScope s_law_lines) := ⟨rfl, rfl, rfl, by decide +kernel, rfl, by decide +kernel, by decide +kernel⟩
theorem ok_law_lines {n : Nat} {f : Addr} {fd : FuncData} (F : FnP K "_law_lines" s_law_lines f fd) (B : Blt mg) (c_law_inner : C8.Cal P w K mg base (2 * n + 14) "_law_inner" (sp_law_inner K n) []) (c_law_head : C8.Cal P w K mg base 12 "_law_head" (sp_law_head K) [])  : FnOk P w K mg base CX0 ((2 * n + 14) + 1) f fd ["_law_block", "_law_indent"] (sp_law_lines K (n + 1)) := by
  refine F.ok sc_law_lines (fun vs H Q E h => ?_) (fun cdv A outer s H vs Q E hr h => ⟨t_law_lines K (sp_law_inner K n), PSs.nox ?_, pure_law_lines vs H Q E h⟩)
  · obtain ⟨_, _, _, rfl, _⟩ := h
    rfl
  · exact (pss_cons (sN 2 sc_law_lines.nd (pe_lstX pa_nil))
  (pss_cons (ps_for PassesOwn.never rfl (pi_seq (pv 0)) (gN 3 sc_law_lines.nd) (pss_cons (ps_expr (pe_bm PySem.F.plainAttrs_list PySem.F.slot_list_append PySem.F.type_list_append mt_append (pv 2) (pa_cons (pe_op op_addX (pv 1) (C8.pe_c c_law_head hr (by omega) rfl (pa_cons (pv 3) pa_nil))) pa_nil)))
  (pss_cons (ps_if (pt_cmpR op_inX (pe_ix ix_seq (pv 3) pe_int (fun _ _ => rfl)) (pe_tupX (pa_cons pe_str (pa_cons pe_str (pa_cons pe_str pa_nil)))) rfl) (pss_one (sN 2 sc_law_lines.nd (pe_op op_addX (pv 2) (C8.pe_c c_law_inner hr (Nat.le_refl _) rfl (pa_cons (pe_ix ix_seq (pv 3) pe_int (fun _ _ => rfl)) (pa_cons (pe_op op_addX (pv 1) pe_str) pa_nil)))))) pss_nil)
  (pss_one (ps_if (pt_cmpR op_inX (pe_ix ix_seq (pv 3) pe_int (fun _ _ => rfl)) (pe_tupX (pa_cons pe_str (pa_cons pe_str pa_nil))) rfl) (pss_cons (ps_expr (pe_bm PySem.F.plainAttrs_list PySem.F.slot_list_append PySem.F.type_list_append mt_append (pv 2) (pa_cons (pe_op op_addX (pv 1) (pe_ix ix_seq (pe_lstX (pa_cons pe_str (pa_cons pe_str pa_nil))) (pe_callTy cb_int rfl B.int bt_int (pa_cons (pe_cmpR (op_eqX hr.units) (pe_ix ix_seq (pv 3) pe_int (fun _ _ => rfl)) pe_str (nomark _)) pa_nil)) (fun _ _ => rfl))) pa_nil)))
  (pss_one (sN 2 sc_law_lines.nd (pe_op op_addX (pv 2) (C8.pe_c c_law_inner hr (Nat.le_refl _) rfl (pa_cons (pe_ix ix_seq (pv 3) pe_int (fun _ _ => rfl)) (pa_cons (pe_op op_addX (pv 1) pe_str) pa_nil))))))) pss_nil)))))
  (pss_one (ps_ret (pv 2)))))
theorem sc_law_text : FnScope ["_law_lines_here", "_law_line"] ["_law_lines_here"] (defScope s_law_text) := ⟨rfl, rfl, rfl, by decide +kernel, rfl, by decide +kernel, by decide +kernel⟩
theorem ok_law_text  {f : Addr} {fd : FuncData} (F : FnP K "_law_text" s_law_text f fd) (B : Blt mg)   : FnOk P w K mg base CX0 (0 + 1) f fd ["_law_lines_here"] (sp_law_text K) := by
  refine F.ok sc_law_text (fun vs H Q E h => ?_) (fun cdv A outer s H vs Q E hr h => ⟨t_law_text K , PSs.nox ?_, pure_law_text vs H Q E h⟩)
  · obtain ⟨_, _, rfl, _⟩ := h
    rfl
  · exact (pss_one (ps_ret (pe_joinX pe_str (pe_lc (own := [("_law_line", 1)]) (g := (gName 1)) (tt := tYes) rfl sc_law_text.nd (pi_seq (pv 0)) (blkOk_by (N := ["_law_lines_here", "_law_line"]) (sc := defScope s_law_text) (by decide +kernel)) (fun _ _ _ _ _ => (gN 1 sc_law_text.nd)) (fun _ _ _ _ _ => pts_nil) (fun _ _ _ _ _ => (pe_op op_addX (pv 1) pe_str))))))
theorem sc_law_mix : FnScope ["_law_script", "_law_seed", "_law_state", "_law_cell"] ["_law_script", "_law_seed"] (defScope s_law_mix) := ⟨rfl, rfl, rfl, by decide +kernel, rfl, by decide +kernel, by decide +kernel⟩
theorem ok_law_mix  {f : Addr} {fd : FuncData} (F : FnP K "_law_mix" s_law_mix f fd) (B : Blt mg)   : FnOk P w K mg base CX0 (0 + 1) f fd ["_law_script", "_law_seed"] (sp_law_mix K) := by
  refine F.ok sc_law_mix (fun vs H Q E h => ?_) (fun cdv A outer s H vs Q E hr h => ⟨t_law_mix K , PSs.nox ?_, pure_law_mix vs H Q E h⟩)
  · obtain ⟨_, _, _, rfl, _⟩ := h
    rfl
  · exact (pss_cons (sN 2 sc_law_mix.nd (pv 1))
  (pss_cons (ps_for PassesOwn.never rfl (pi_seq (pv 0)) (gN 3 sc_law_mix.nd) (pss_one (sN 2 sc_law_mix.nd (pe_op op_mod (pe_callTy cb_int rfl B.int bt_int (pa_cons (pe_op op_addX (pe_op op_addX (pe_op op_mul (pv 2) pe_int) (pe_op op_mod (pe_callTy cb_int rfl B.int bt_int (pa_cons (pv 3) pa_nil)) pe_int)) pe_int) pa_nil)) pe_int))))
  (pss_one (ps_ret (pe_lstX (pa_cons (pv 2) (pa_cons (pe_callTy cb_list rfl B.list bt_list (pa_cons (pv 0) pa_nil)) (pa_cons pe_int pa_nil))))))))
theorem sc_law_next : FnScope ["_law_h", "_law_cap", "_law_cell"] ["_law_h", "_law_cap"] (defScope s_law_next) := ⟨rfl, rfl, rfl, by decide +kernel, rfl, by decide +kernel, by decide +kernel⟩
theorem ok_law_next  {f : Addr} {fd : FuncData} (F : FnP K "_law_next" s_law_next f fd) (B : Blt mg)   : FnOk P w K mg base CX0 (0 + 1) f fd ["_law_h", "_law_cap"] (sp_law_next K) := by
  refine F.ok sc_law_next (fun vs H Q E h => ?_) (fun cdv A outer s H vs Q E hr h => ⟨t_law_next K , PSs.nox ?_, pure_law_next vs H Q E h⟩)
  · obtain ⟨_, _, _, rfl, _⟩ := h
    rfl
  · exact (pss_cons (sN 2 sc_law_next.nd (pe_ix ix_seq (pe_op op_addX (pe_ix ix_seq (pv 0) pe_int (fun _ _ => rfl)) (pe_lstX (pa_cons pe_int pa_nil))) (pe_op op_mod (pe_callTy cb_int rfl B.int bt_int (pa_cons (pe_ix ix_seq (pv 0) pe_int (fun _ _ => rfl)) pa_nil)) (pe_callB (cb_max rfl) rfl B.max bt_max (pa_cons pe_int (pa_cons (pe_callB cb_len rfl B.len bt_len (pa_cons (pe_ix ix_seq (pv 0) pe_int (fun _ _ => rfl)) pa_nil)) pa_nil)))) (fun _ _ => rfl)))
  (pss_cons (ps_if (pt_cmpR op_ge (pv 2) (pe_op op_pow pe_int pe_int) (nomark _)) (pss_cons (ps_asg (pe_op op_fdivW (pv 2) (pv 1)) (pg_sub (pe_ix ix_seq (pv 0) pe_int (fun _ _ => rfl)) (pe_op op_mod (pe_callTy cb_int rfl B.int bt_int (pa_cons (pe_ix ix_seq (pv 0) pe_int (fun _ _ => rfl)) pa_nil)) (pe_callB cb_len rfl B.len bt_len (pa_cons (pe_ix ix_seq (pv 0) pe_int (fun _ _ => rfl)) pa_nil))) set_list))
  (pss_one (ps_ret (pe_op op_mod (pe_callTy cb_int rfl B.int bt_int (pa_cons (pv 2) pa_nil)) (pv 1))))) pss_nil)
  (pss_cons (ps_asg (pe_op op_mod (pe_callTy cb_int rfl B.int bt_int (pa_cons (pe_op op_addX (pe_op op_addX (pe_op op_mul (pe_ix ix_seq (pv 0) pe_int (fun _ _ => rfl)) pe_int) (pe_op op_mul (pv 2) pe_int)) pe_int) pa_nil)) pe_int) (pg_sub (pv 0) pe_int set_list))
  (pss_cons (ps_asg (pe_op op_addX (pe_ix ix_seq (pv 0) pe_int (fun _ _ => rfl)) pe_int) (pg_sub (pv 0) pe_int set_list))
  (pss_one (ps_ret (pe_op op_mod (pe_callTy cb_int rfl B.int bt_int (pa_cons (pe_op op_fdivW (pe_ix ix_seq (pv 0) pe_int (fun _ _ => rfl)) pe_int) pa_nil)) (pv 1))))))))
theorem sc_law_name : FnScope ["_law_h", "_law_words", "_law_letters", "_law_k"] ["_law_h"] (defScope s_law_name) := ⟨rfl, rfl, rfl, by decide +kernel, rfl, by decide +kernel, by decide +kernel⟩
theorem ok_law_name  {f : Addr} {fd : FuncData} (F : FnP K "_law_name" s_law_name f fd) (B : Blt mg) (c_law_next : C8.Cal P w K mg base 1 "_law_next" (sp_law_next K) [])  : FnOk P w K mg base CX0 (1 + 1) f fd ["_law_h"] (sp_law_name K) := by
  refine F.ok sc_law_name (fun vs H Q E h => ?_) (fun cdv A outer s H vs Q E hr h => ⟨t_law_name K , PSs.nox ?_, pure_law_name vs H Q E h⟩)
  · obtain ⟨_, _, rfl, _⟩ := h
    rfl
  · exact (pss_cons (sN 1 sc_law_name.nd (pe_lstX (pa_cons pe_str (pa_cons pe_str (pa_cons pe_str (pa_cons pe_str (pa_cons pe_str (pa_cons pe_str (pa_cons pe_str (pa_cons pe_str (pa_cons pe_str (pa_cons pe_str (pa_cons pe_str (pa_cons pe_str (pa_cons pe_str (pa_cons pe_str pa_nil))))))))))))))))
  (pss_cons (sN 2 sc_law_name.nd pe_str)
  (pss_cons (ps_if (pt_cmpR (op_eqX hr.units) (C8.pe_c c_law_next hr (by decide) rfl (pa_cons (pv 0) (pa_cons pe_int pa_nil))) pe_int (nomark _)) (pss_one (ps_ret (pe_ix ix_seq (pv 1) (C8.pe_c c_law_next hr (by decide) rfl (pa_cons (pv 0) (pa_cons pe_int pa_nil))) (fun _ _ => rfl)))) pss_nil)
  (pss_one (ps_ret (pe_joinX pe_str (pe_lc (own := [("_law_k", 3)]) (g := (gName 3)) (tt := tYes) rfl sc_law_name.nd (pi_range1 rfl B.range (pa_cons (pe_op op_addX pe_int (C8.pe_c c_law_next hr (by decide) rfl (pa_cons (pv 0) (pa_cons (pe_ix ix_seq (pe_lstX (pa_cons pe_int (pa_cons pe_int pa_nil))) (C8.pe_c c_law_next hr (by decide) rfl (pa_cons (pv 0) (pa_cons pe_int pa_nil))) (fun _ _ => rfl)) pa_nil)))) pa_nil)) (blkOk_by (N := ["_law_h", "_law_words", "_law_letters", "_law_k"]) (sc := defScope s_law_name) (by decide +kernel)) (fun _ _ _ _ _ => (gN 3 sc_law_name.nd)) (fun _ _ _ _ _ => pts_nil) (fun _ _ _ _ _ => (pe_ix ix_seq (pv 2) (C8.pe_c c_law_next hr (by decide) rfl (pa_cons (pv 0) (pa_cons pe_int pa_nil))) (fun _ _ => rfl))))))))))
theorem sc_law_names : FnScope ["_law_h", "_law_many", "_law_found", "_law_k", "_law_name_here"] ["_law_h", "_law_many"] (defScope s_law_names) := ⟨rfl, rfl, rfl, by decide +kernel, rfl, by decide +kernel, by decide +kernel⟩
theorem ok_law_names  {f : Addr} {fd : FuncData} (F : FnP K "_law_names" s_law_names f fd) (B : Blt mg) (c_law_next : C8.Cal P w K mg base 1 "_law_next" (sp_law_next K) []) (c_law_name : C8.Cal P w K mg base 2 "_law_name" (sp_law_name K) [])  : FnOk P w K mg base CX0 (2 + 1) f fd ["_law_h", "_law_many"] (sp_law_names K) := by
  refine F.ok sc_law_names (fun vs H Q E h => ?_) (fun cdv A outer s H vs Q E hr h => ⟨t_law_names K , PSs.nox ?_, pure_law_names vs H Q E h⟩)
  · obtain ⟨_, _, _, rfl, _⟩ := h
    rfl
  · exact (pss_cons (sN 2 sc_law_names.nd (pe_lstX pa_nil))
  (pss_cons (ps_for PassesOwn.never rfl (pi_range1 rfl B.range (pa_cons (pe_op op_addX pe_int (C8.pe_c c_law_next hr (by decide) rfl (pa_cons (pv 0) (pa_cons (pv 1) pa_nil)))) pa_nil)) (gN 3 sc_law_names.nd) (pss_cons (sN 4 sc_law_names.nd (C8.pe_c c_law_name hr (by decide) rfl (pa_cons (pv 0) pa_nil)))
  (pss_one (ps_if (pt_cmpR op_notInX (pv 4) (pv 2) rfl) (pss_one (ps_expr (pe_bm PySem.F.plainAttrs_list PySem.F.slot_list_append PySem.F.type_list_append mt_append (pv 2) (pa_cons (pv 4) pa_nil)))) pss_nil))))
  (pss_one (ps_ret (pv 2)))))
theorem sc_law_integer : FnScope ["_law_h", "_law_kind"] ["_law_h"] (defScope s_law_integer) := ⟨rfl, rfl, rfl, by decide +kernel, rfl, by decide +kernel, by decide +kernel⟩
theorem ok_law_integer  {f : Addr} {fd : FuncData} (F : FnP K "_law_integer" s_law_integer f fd) (B : Blt mg) (c_law_next : C8.Cal P w K mg base 1 "_law_next" (sp_law_next K) [])  : FnOk P w K mg base CX0 (1 + 1) f fd ["_law_h"] (sp_law_integer K) := by
  refine F.ok sc_law_integer (fun vs H Q E h => ?_) (fun cdv A outer s H vs Q E hr h => ⟨t_law_integer K , PSs.nox ?_, pure_law_integer vs H Q E h⟩)
  · obtain ⟨_, _, rfl, _⟩ := h
    rfl
  · exact (pss_cons (sN 1 sc_law_integer.nd (C8.pe_c c_law_next hr (by decide) rfl (pa_cons (pv 0) (pa_cons pe_int pa_nil))))
  (pss_cons (ps_if (pt_cmpR op_lt (pv 1) pe_int (nomark _)) (pss_one (ps_ret (pv 1))) pss_nil)
  (pss_cons (ps_if (pt_cmpR (op_eqX hr.units) (pv 1) pe_int (nomark _)) (pss_one (ps_ret (pe_op op_sub (pe_op op_sub (pe_op op_pow pe_int pe_int) pe_int) (C8.pe_c c_law_next hr (by decide) rfl (pa_cons (pv 0) (pa_cons pe_int pa_nil)))))) pss_nil)
  (pss_one (ps_ret (pe_op op_mul (pe_ix ix_seq (pe_lstX (pa_cons pe_int (pa_cons (pe_un un_neg pe_int) pa_nil))) (C8.pe_c c_law_next hr (by decide) rfl (pa_cons (pv 0) (pa_cons pe_int pa_nil))) (fun _ _ => rfl)) (C8.pe_c c_law_next hr (by decide) rfl (pa_cons (pv 0) (pa_cons (pe_ix ix_seq (pe_lstX (pa_cons pe_int (pa_cons pe_int (pa_cons (pe_op op_pow pe_int pe_int) pa_nil)))) (pe_op op_sub (pv 1) pe_int) (fun _ _ => rfl)) pa_nil)))))))))
theorem sc_law_expr : FnScope ["_law_h", "_law_names_here", "_law_depth", "_law_kind", "_law_name_here"] ["_law_h", "_law_names_here", "_law_depth"] (defScope s_law_expr) := ⟨rfl, rfl, rfl, by decide +kernel, rfl, by decide +kernel, by decide +kernel⟩
theorem ok_law_expr {n : Nat} {f : Addr} {fd : FuncData} (F : FnP K "_law_expr" s_law_expr f fd) (B : Blt mg) (c_law_next : C8.Cal P w K mg base 1 "_law_next" (sp_law_next K) []) (c_law_integer : C8.Cal P w K mg base 2 "_law_integer" (sp_law_integer K) []) (c_law_expr : C8.Cal P w K mg base (n + 2) "_law_expr" (sp_law_expr K n) [])  : FnOk P w K mg base CX0 ((n + 2) + 1) f fd ["_law_h", "_law_names_here", "_law_depth"] (sp_law_expr K (n + 1)) := by
  refine F.ok sc_law_expr (fun vs H Q E h => ?_) (fun cdv A outer s H vs Q E hr h => ⟨t_law_expr K (sp_law_expr K n), PSs.nox ?_, pure_law_expr vs H Q E h⟩)
  · obtain ⟨_, _, _, _, _, rfl, _⟩ := h
    rfl
  · exact (pss_cons (ps_par rfl sc_law_expr.nd rfl rfl (by decide) rfl rfl (pa_cons (C8.pe_c c_law_next hr (by omega) rfl (pa_cons (pv 0) (pa_cons pe_int pa_nil))) (pa_cons (pe_ix ix_seq (pv 1) (C8.pe_c c_law_next hr (by omega) rfl (pa_cons (pv 0) (pa_cons (pe_callB cb_len rfl B.len bt_len (pa_cons (pv 1) pa_nil)) pa_nil))) (fun _ _ => rfl)) pa_nil)) (by rfl))
  (pss_cons (ps_if (PW.pt (pw_and (pt_cmpR op_gt (pv 3) pe_int (nomark _)) (pw_and1 (pt_cmpR op_gt (pv 2) pe_int (nomark _))))) (pss_one (ps_ret (pe_tupX (pa_cons (pe_ix ix_seq (pe_lstX (pa_cons pe_str (pa_cons pe_str pa_nil))) (pe_op op_sub (pv 3) pe_int) (fun _ _ => rfl)) (pa_cons (C8.pe_c c_law_expr hr (Nat.le_refl _) rfl (pa_cons (pv 0) (pa_cons (pv 1) (pa_cons (pe_op op_sub (pv 2) pe_int) pa_nil)))) (pa_cons (C8.pe_c c_law_expr hr (Nat.le_refl _) rfl (pa_cons (pv 0) (pa_cons (pv 1) (pa_cons (pe_op op_sub (pv 2) pe_int) pa_nil)))) pa_nil)))))) pss_nil)
  (pss_cons (ps_if (pt_cmpR (op_eqX hr.units) (pv 3) pe_int (nomark _)) (pss_one (ps_ret (pe_tupX (pa_cons pe_str (pa_cons (pv 4) (pa_cons (pe_ix ix_seq (pv 1) (C8.pe_c c_law_next hr (by omega) rfl (pa_cons (pv 0) (pa_cons (pe_callB cb_len rfl B.len bt_len (pa_cons (pv 1) pa_nil)) pa_nil))) (fun _ _ => rfl)) pa_nil)))))) pss_nil)
  (pss_one (ps_ret (pe_ifExp (pt_cmpR op_gt (pv 3) pe_int (nomark _)) (pe_tupX (pa_cons pe_str (pa_cons (pv 4) pa_nil))) (C8.pe_c c_law_integer hr (by omega) rfl (pa_cons (pv 0) pa_nil))))))))
theorem sc_law_deep_row : FnScope ["_law_h", "_law_names_here", "_law_depth", "_law_kinds", "_law_kind", "_law_name_here", "_law_other", "_law_block", "_law_second"] ["_law_h", "_law_names_here", "_law_depth"] (defScope s_law_deep_row) := ⟨rfl, rfl, rfl, by decide +kernel, rfl, by decide +kernel, by decide +kernel⟩
theorem ok_law_deep_row {n : Nat} {f : Addr} {fd : FuncData} (F : FnP K "_law_deep_row" s_law_deep_row f fd) (B : Blt mg) (c_law_next : C8.Cal P w K mg base 1 "_law_next" (sp_law_next K) []) (c_law_expr : C8.Cal P w K mg base 7 "_law_expr" (sp_law_expr K 5) []) (c_law_deep_rows : C8.Cal P w K mg base (2 * n + 12) "_law_deep_rows" (sp_law_deep_rows K n) [])  : FnOk P w K mg base CX0 ((2 * n + 12) + 1) f fd ["_law_h", "_law_names_here", "_law_depth"] (sp_law_deep_row K (n + 1)) := by
  refine F.ok sc_law_deep_row (fun vs H Q E h => ?_) (fun cdv A outer s H vs Q E hr h => ⟨t_law_deep_row K (sp_law_deep_rows K n), PSs.nox ?_, pure_law_deep_row vs H Q E h⟩)
  · obtain ⟨_, _, _, _, _, rfl, _⟩ := h
    rfl
  · exact (pss_cons (ps_par3 rfl sc_law_deep_row.nd rfl rfl rfl (by decide) (by decide) (by decide) rfl rfl rfl (pa_cons (C8.pe_c c_law_next hr (by omega) rfl (pa_cons (pv 0) (pa_cons pe_int pa_nil))) (pa_cons (pe_ix ix_seq (pv 1) (C8.pe_c c_law_next hr (by omega) rfl (pa_cons (pv 0) (pa_cons (pe_callB cb_len rfl B.len bt_len (pa_cons (pv 1) pa_nil)) pa_nil))) (fun _ _ => rfl)) (pa_cons (pe_ix ix_seq (pv 1) (C8.pe_c c_law_next hr (by omega) rfl (pa_cons (pv 0) (pa_cons (pe_callB cb_len rfl B.len bt_len (pa_cons (pv 1) pa_nil)) pa_nil))) (fun _ _ => rfl)) pa_nil))) (by rfl))
  (pss_cons (ps_if (pt_cmpR op_lt (pv 4) pe_int (nomark _)) (pss_one (ps_ret (pe_tupX (pa_cons pe_str (pa_cons (pv 5) (pa_cons (C8.pe_c c_law_expr hr (by omega) rfl (pa_cons (pv 0) (pa_cons (pv 1) (pa_cons pe_int pa_nil)))) pa_nil)))))) pss_nil)
  (pss_cons (ps_if (pt_cmpR op_lt (pv 4) pe_int (nomark _)) (pss_one (ps_ret (pe_ix ix_seq (pe_lstX (pa_cons (pe_tupX (pa_cons pe_str (pa_cons (pv 5) pa_nil))) (pa_cons (pe_tupX (pa_cons pe_str (pa_cons (C8.pe_c c_law_expr hr (by omega) rfl (pa_cons (pv 0) (pa_cons (pv 1) (pa_cons pe_int pa_nil)))) pa_nil))) (pa_cons (pe_tupX (pa_cons pe_str (pa_cons (C8.pe_c c_law_expr hr (by omega) rfl (pa_cons (pv 0) (pa_cons (pv 1) (pa_cons pe_int pa_nil)))) pa_nil))) (pa_cons (pe_tupX (pa_cons pe_str pa_nil)) pa_nil))))) (pe_op op_sub (pv 4) pe_int) (fun _ _ => rfl)))) pss_nil)
  (pss_cons (ps_if (pt_cmpR op_lt (pv 4) pe_int (nomark _)) (pss_one (ps_ret (pe_ix ix_seq (pe_lstX (pa_cons (pe_tupX (pa_cons pe_str (pa_cons (pv 6) (pa_cons (pv 5) pa_nil)))) (pa_cons (pe_tupX (pa_cons pe_str (pa_cons (pv 6) (pa_cons (pv 5) (pa_cons (pe_ix ix_seq (pv 1) (C8.pe_c c_law_next hr (by omega) rfl (pa_cons (pv 0) (pa_cons (pe_callB cb_len rfl B.len bt_len (pa_cons (pv 1) pa_nil)) pa_nil))) (fun _ _ => rfl)) pa_nil))))) pa_nil))) (pe_op op_sub (pv 4) pe_int) (fun _ _ => rfl)))) pss_nil)
  (pss_cons (ps_if (PW.pt (pw_or (PW.pt (pw_and (pt_cmpR (op_eqX hr.units) (pv 2) pe_int (nomark _)) (pw_and1 (pt_cmpR (op_eqX hr.units) (C8.pe_c c_law_next hr (by omega) rfl (pa_cons (pv 0) (pa_cons pe_int pa_nil))) pe_int (nomark _))))) (pw_or1 (pt_cmpR (op_eqX hr.units) (pv 4) pe_int (nomark _))))) (pss_one (ps_ret (pe_tupX (pa_cons pe_str (pa_cons (pv 5) pa_nil))))) pss_nil)
  (pss_cons (ps_par rfl sc_law_deep_row.nd rfl rfl (by decide) rfl rfl (pa_cons (C8.pe_c c_law_deep_rows hr (Nat.le_refl _) rfl (pa_cons (pv 0) (pa_cons (pv 1) (pa_cons (pe_op op_addX (pv 2) pe_int) pa_nil)))) (pa_cons (C8.pe_c c_law_deep_rows hr (Nat.le_refl _) rfl (pa_cons (pv 0) (pa_cons (pv 1) (pa_cons (pe_op op_addX (pv 2) pe_int) pa_nil)))) pa_nil)) (by rfl))
  (pss_cons (ps_if (pt_cmpR (op_eqX hr.units) (pv 4) pe_int (nomark _)) (pss_one (ps_ret (pe_tupX (pa_cons pe_str (pa_cons (pv 5) (pa_cons (pv 7) pa_nil)))))) pss_nil)
  (pss_cons (sN 3 sc_law_deep_row.nd (pe_lstX (pa_cons pe_str (pa_cons pe_str (pa_cons pe_str (pa_cons pe_str (pa_cons pe_str (pa_cons pe_str pa_nil))))))))
  (pss_cons (ps_if (pt_cmpR (op_eqX hr.units) (C8.pe_c c_law_next hr (by omega) rfl (pa_cons (pv 0) (pa_cons pe_int pa_nil))) pe_int (nomark _)) (pss_one (ps_ret (pe_tupX (pa_cons pe_str (pa_cons (C8.pe_c c_law_expr hr (by omega) rfl (pa_cons (pv 0) (pa_cons (pv 1) (pa_cons pe_int pa_nil)))) (pa_cons (pv 7) (pa_cons (pv 8) pa_nil))))))) pss_nil)
  (pss_one (ps_ret (pe_tupX (pa_cons pe_str (pa_cons (pe_ix ix_seq (pv 3) (C8.pe_c c_law_next hr (by omega) rfl (pa_cons (pv 0) (pa_cons pe_int pa_nil))) (fun _ _ => rfl)) (pa_cons (pv 7) (pa_cons (pv 8) pa_nil))))))))))))))))
theorem sc_law_deep_rows : FnScope ["_law_h", "_law_names_here", "_law_depth", "_law_most", "_law_k"] ["_law_h", "_law_names_here", "_law_depth"] (defScope s_law_deep_rows) := ⟨rfl, rfl, rfl, by decide +kernel, rfl, by decide +kernel, by decide +kernel⟩
theorem ok_law_deep_rows {n : Nat} {f : Addr} {fd : FuncData} (F : FnP K "_law_deep_rows" s_law_deep_rows f fd) (B : Blt mg) (c_law_next : C8.Cal P w K mg base 1 "_law_next" (sp_law_next K) []) (c_law_deep_row : C8.Cal P w K mg base (2 * n + 13) "_law_deep_row" (sp_law_deep_row K (n + 1)) [])  : FnOk P w K mg base CX0 ((2 * n + 13) + 1) f fd ["_law_h", "_law_names_here", "_law_depth"] (sp_law_deep_rows K (n + 1)) := by
  refine F.ok sc_law_deep_rows (fun vs H Q E h => ?_) (fun cdv A outer s H vs Q E hr h => ⟨t_law_deep_rows K (sp_law_deep_row K (n + 1)), PSs.nox ?_, pure_law_deep_rows vs H Q E h⟩)
  · obtain ⟨_, _, _, _, _, rfl, _⟩ := h
    rfl
  · exact (pss_cons (sN 3 sc_law_deep_rows.nd (pe_ix ix_seq (pe_lstX (pa_cons pe_int (pa_cons pe_int (pa_cons pe_int (pa_cons pe_int (pa_cons pe_int pa_nil)))))) (pv 2) (fun _ _ => rfl)))
  (pss_one (ps_ret (pe_tupleOf rfl B.tuple (pe_lc (own := [("_law_k", 4)]) (g := (gName 4)) (tt := tYes) rfl sc_law_deep_rows.nd (pi_range1 rfl B.range (pa_cons (C8.pe_c c_law_next hr (by omega) rfl (pa_cons (pv 0) (pa_cons (pv 3) pa_nil))) pa_nil)) (blkOk_by (N := ["_law_h", "_law_names_here", "_law_depth", "_law_most", "_law_k"]) (sc := defScope s_law_deep_rows) (by decide +kernel)) (fun _ _ _ _ _ => (gN 4 sc_law_deep_rows.nd)) (fun _ _ _ _ _ => pts_nil) (fun _ _ _ _ _ => (C8.pe_c c_law_deep_row hr (Nat.le_refl _) rfl (pa_cons (pv 0) (pa_cons (pv 1) (pa_cons (pv 2) pa_nil))))))))))
theorem sc_law : FnScope ["_law_script", "_law_h", "_law_turn", "_law_block", "_law_found"] ["_law_script"] (defScope s_law) := ⟨rfl, rfl, rfl, by decide +kernel, rfl, by decide +kernel, by decide +kernel⟩
theorem ok_law  {f : Addr} {fd : FuncData} (F : FnP K "law" s_law f fd) (B : Blt mg) (c_format_block : C8.Cal P w K mg base 31 "format_block" (sp_format_block K) []) (c_law_lines : C8.Cal P w K mg base 25 "_law_lines" (sp_law_lines K 6) []) (c_law_text : C8.Cal P w K mg base 1 "_law_text" (sp_law_text K) []) (c_law_names : C8.Cal P w K mg base 3 "_law_names" (sp_law_names K) []) (c_law_deep_rows : C8.Cal P w K mg base 22 "_law_deep_rows" (sp_law_deep_rows K 5) []) (c_law_mix : C8.Cal P w K mg base 1 "_law_mix" (sp_law_mix K) [])  : FnOk P w K mg base CX0 (40 + 1) f fd ["_law_script"] (sp_law K) := by
  refine F.ok sc_law (fun vs H Q E h => ?_) (fun cdv A outer s H vs Q E hr h => ⟨t_law K , PSs.nox ?_, pure_law vs H Q E h⟩)
  · obtain ⟨_, _, rfl, _⟩ := h
    rfl
  · exact (pss_cons (sN 1 sc_law.nd (C8.pe_c c_law_mix hr (by decide) rfl (pa_cons (pv 0) (pa_cons pe_int pa_nil))))
  (pss_cons (ps_for PassesOwn.never rfl (pi_range1 rfl B.range (pa_cons pe_int pa_nil)) (gN 2 sc_law.nd) (pss_cons (sN 3 sc_law.nd (C8.pe_c c_law_deep_rows hr (by decide) rfl (pa_cons (pv 1) (pa_cons (C8.pe_c c_law_names hr (by decide) rfl (pa_cons (pv 1) (pa_cons pe_int pa_nil))) (pa_cons pe_int pa_nil)))))
  (pss_cons (sN 4 sc_law.nd (C8.pe_c c_format_block hr (by decide) rfl (pa_cons (pv 3) pa_nil)))
  (pss_one (ps_if (PW.pt (pw_or (pt_not (pt_val (pe_callB call_isi rfl B.isinstance bt_isinstance (pa_cons (pv 4) (pa_cons (pe_bltn rfl B.str bt_str rfl) pa_nil))))) (pw_or1 (pt_cmpR (op_neX hr.units) (pv 4) (C8.pe_c c_law_text hr (by decide) rfl (pa_cons (C8.pe_c c_law_lines hr (by decide) rfl (pa_cons (pv 3) (pa_cons pe_str pa_nil))) pa_nil)) (nomark _))))) (pss_one (ps_ret pe_bl)) pss_nil)))))
  (pss_one (ps_ret (pe_cmpR (op_eqX hr.units) (C8.pe_c c_format_block hr (by decide) rfl (pa_cons (pe_tupX pa_nil) pa_nil)) pe_str (nomark _))))))
end
end M

namespace M
open PySem PySem.Spec PyProof.Rows L2
/-! ### what the head tells -/
theorem tabEq {fa : List He.Fa} {fn : List He.DefD} {ts : List He.Tab} {w : World} {K : PySem.W.Frag} (c : He.SaysT fa fn ts w K) (i : Nat) {t : He.Tab} (h : ts[i]? = some t := by rfl) : He.dicW K (t.1 K) = some (He.keysIn w.params t.2) := by
  have e : ts.map (fun t => He.dicW K (t.1 K)) = ts.map fun t => some (He.keysIn w.params t.2) := congrArg (fun z : He.AlT => z.2) c
  have e2 : (ts.map fun t => He.dicW K (t.1 K))[i]? = (ts.map fun t => some (He.keysIn w.params t.2))[i]? := by rw [e]
  rw [List.getElem?_map, List.getElem?_map, h] at e2
  exact Option.some.inj e2
theorem find_none {P : Params} {x : Str} : ∀ {l : List DictEntry} {ks : List Str}, l.map He.keyOf = He.keysIn P ks → (∀ k ∈ ks, k ≠ x) → l.find? (·.key.isStr x) = none ∧ l.any (·.refKey) = false
  | [], _, _, _ => ⟨rfl, rfl⟩
  | e :: r, [], h, _ => by cases h
  | e :: r, k :: ks, h, hn => by
    have h1 : He.keyOf e :: r.map He.keyOf = some (k, PyData.keyHash P k) :: He.keysIn P ks := h
    injection h1 with h2 h3
    obtain ⟨i1, i2⟩ := find_none h3 fun k' m => hn k' (List.mem_cons_of_mem _ m)
    unfold He.keyOf at h2
    split at h2
    · rename_i y t q
      obtain ⟨h5, h6⟩ := Prod.mk.inj (Option.some.inj h2)
      subst h5
      have hy : e.key.isStr x = false := by
        rw [q]
        have := hn y List.mem_cons_self
        simp [Value.isStr, this]
      have hr : e.refKey = false := by
        unfold DictEntry.refKey
        rw [q]
      constructor
      · rw [List.find?_cons, hy]; exact i1
      · rw [List.any_cons, hr, i2]; rfl
    · cases h2
theorem ktab_of {K : PySem.W.Frag} {w : World} {a : Addr} {kvs : List (Str × Str)} (h : He.dicW K a = some (He.keysIn w.params (kvs.map (·.1)))) (hv : He.valsB K a (kvs.map fun p => (p.1, He.Dv.str p.2)) = true) : KTab K w a kvs := by
  refine ⟨He.dicW_ok h, fun p hp => ?_, fun x hx => ?_⟩
  · exact He.valsB_ok hv (q := (p.1, He.Dv.str p.2)) (List.mem_map.mpr ⟨p, hp, rfl⟩)
  · unfold He.dicW at h
    unfold PySem.W.nsIn
    cases q : K.lookup a with
    | none => rw [q] at h; cases h
    | some o =>
      obtain ⟨oc, od, dt, osl⟩ := o
      rw [q] at h
      cases oc with
      | type c =>
        cases od with
        | none =>
          cases dt with
          | dict es n =>
            have h1 : (match decide (c = "dict") && (osl.isEmpty && !(a == sysModules)) with
              | true => some (es.toList.map He.keyOf)
              | false => none) = some (He.keysIn w.params (kvs.map (·.1))) := h
            cases z : decide (c = "dict") && (osl.isEmpty && !(a == sysModules)) with
            | false => rw [z] at h1; cases h1
            | true =>
              rw [z] at h1
              obtain ⟨f1, f2⟩ := find_none (x := x) (Option.some.inj h1) (fun k m => by
                obtain ⟨p, hp, rfl⟩ := List.mem_map.mp m
                exact hx p hp)
              show (match es.toList.find? (·.key.isStr x) with
                | some e => some (some e.val)
                | none => if es.toList.any (·.refKey) then none else some none) = some none
              rw [f1, f2]
              rfl
          | _ => cases h
        | some b => cases dt <;> cases h
      | _ => cases od <;> cases dt <;> cases h
/-- a def that keeps its promise, to be called by its name -/
theorem mkCal {P : Program} {w : World} {K : PySem.W.Frag} {mg : Str → Option Value} {base : Heap} {k : Nat} {x : Str} {sp : Sp} {f : Addr} {fd : FuncData} {ps : List Str} (F : FnOk P w K mg base CX0 k f fd ps sp) (hm : mg x = some (.ref f)) (kp : PySem.W.keepIn K (.ref f) = true) (b : Binds K fd ps []) : C8.Cal P w K mg base k x sp [] :=
  ⟨⟨f, fd, ps, [], F, hm, kp, b, .nil⟩⟩
theorem mkCalE {P : Program} {w : World} {K : PySem.W.Frag} {mg : Str → Option Value} {base : Heap} {k k' : Nat} {x : Str} {sp : Sp} {f : Addr} {fd : FuncData} {ps : List Str} (F : FnOk P w K mg base CX0 k f fd ps sp) (e : k = k') (hm : mg x = some (.ref f)) (kp : PySem.W.keepIn K (.ref f) = true) (b : Binds K fd ps []) : C8.Cal P w K mg base k' x sp [] := by
  subst e; exact mkCal F hm kp b
/-- nothing can be asked -/
theorem fn_none {P : Program} {w : World} {K : PySem.W.Frag} {mg : Str → Option Value} {base : Heap} {k : Nat} {sp : Sp} {f : Addr} {fd : FuncData} {ps : List Str} (no : ∀ vs H Q E, ¬ sp vs H Q E) : FnOk P w K mg base CX0 k f fd ps sp :=
  ⟨fun vs H Q E h => absurd h (no vs H Q E), fun A outer s H args us vs Q E _ _ _ _ h => absurd h (no vs H Q E)⟩
end M

namespace M
open PySem PySem.Spec PyProof.Rows L2
def d_is_integer : He.DefD := ⟨("is_integer", none), "is_integer", "is_integer", defArgs s_is_integer, defBody s_is_integer, defScope s_is_integer, [], []⟩
def d_format_expression : He.DefD := ⟨("format_expression", none), "format_expression", "format_expression", defArgs s_format_expression, defBody s_format_expression, defScope s_format_expression, [], []⟩
def d_format_head : He.DefD := ⟨("format_head", none), "format_head", "format_head", defArgs s_format_head, defBody s_format_head, defScope s_format_head, [], []⟩
def d_format_inner : He.DefD := ⟨("format_inner", none), "format_inner", "format_inner", defArgs s_format_inner, defBody s_format_inner, defScope s_format_inner, [], []⟩
def d_format_lines : He.DefD := ⟨("format_lines", none), "format_lines", "format_lines", defArgs s_format_lines, defBody s_format_lines, defScope s_format_lines, [], []⟩
def d_format_block : He.DefD := ⟨("format_block", none), "format_block", "format_block", defArgs s_format_block, defBody s_format_block, defScope s_format_block, [], []⟩
def d_law_mix : He.DefD := ⟨("_law_mix", none), "_law_mix", "_law_mix", defArgs s_law_mix, defBody s_law_mix, defScope s_law_mix, [], []⟩
def d_law_next : He.DefD := ⟨("_law_next", none), "_law_next", "_law_next", defArgs s_law_next, defBody s_law_next, defScope s_law_next, [], []⟩
def d_law_name : He.DefD := ⟨("_law_name", none), "_law_name", "_law_name", defArgs s_law_name, defBody s_law_name, defScope s_law_name, [], []⟩
def d_law_names : He.DefD := ⟨("_law_names", none), "_law_names", "_law_names", defArgs s_law_names, defBody s_law_names, defScope s_law_names, [], []⟩
def d_law_integer : He.DefD := ⟨("_law_integer", none), "_law_integer", "_law_integer", defArgs s_law_integer, defBody s_law_integer, defScope s_law_integer, [], []⟩
def d_law_expr : He.DefD := ⟨("_law_expr", none), "_law_expr", "_law_expr", defArgs s_law_expr, defBody s_law_expr, defScope s_law_expr, [], []⟩
def d_law_deep_row : He.DefD := ⟨("_law_deep_row", none), "_law_deep_row", "_law_deep_row", defArgs s_law_deep_row, defBody s_law_deep_row, defScope s_law_deep_row, [], []⟩
def d_law_deep_rows : He.DefD := ⟨("_law_deep_rows", none), "_law_deep_rows", "_law_deep_rows", defArgs s_law_deep_rows, defBody s_law_deep_rows, defScope s_law_deep_rows, [], []⟩
def d_law_expr_text : He.DefD := ⟨("_law_expr_text", none), "_law_expr_text", "_law_expr_text", defArgs s_law_expr_text, defBody s_law_expr_text, defScope s_law_expr_text, [], []⟩
def d_law_head : He.DefD := ⟨("_law_head", none), "_law_head", "_law_head", defArgs s_law_head, defBody s_law_head, defScope s_law_head, [], []⟩
def d_law_inner : He.DefD := ⟨("_law_inner", none), "_law_inner", "_law_inner", defArgs s_law_inner, defBody s_law_inner, defScope s_law_inner, [], []⟩
def d_law_lines : He.DefD := ⟨("_law_lines", none), "_law_lines", "_law_lines", defArgs s_law_lines, defBody s_law_lines, defScope s_law_lines, [], []⟩
def d_law_text : He.DefD := ⟨("_law_text", none), "_law_text", "_law_text", defArgs s_law_text, defBody s_law_text, defScope s_law_text, [], []⟩
def d_law : He.DefD := ⟨("law", none), "law", "law", defArgs s_law, defBody s_law, defScope s_law, [], []⟩
def fn : List He.DefD := ([d_is_integer, d_format_expression, d_format_head, d_format_inner, d_format_lines, d_format_block, d_law_mix, d_law_next, d_law_name, d_law_names, d_law_integer, d_law_expr, d_law_deep_row, d_law_deep_rows, d_law_expr_text, d_law_head, d_law_inner, d_law_lines, d_law_text, d_law] : List He.DefD)
def fa : List He.Fa := ([.glo "is_integer", .glo "format_expression", .glo "format_head", .glo "format_inner", .glo "format_lines", .glo "format_block", .glo "_law_mix", .glo "_law_next", .glo "_law_name", .glo "_law_names", .glo "_law_integer", .glo "_law_expr", .glo "_law_deep_row", .glo "_law_deep_rows", .glo "_law_expr_text", .glo "_law_head", .glo "_law_inner", .glo "_law_lines", .glo "_law_text", .glo "law", .free "isinstance", .free "int", .free "bool", .free "str", .free "len", .free "max", .free "min", .free "range", .free "list", .free "tuple"] : List He.Fa) ++ ([.free "dict", .free "sorted", .free "enumerate", .str "INDENT" "  ", .glo "CLOSINGS"] : List He.Fa)
def ts : List He.Tab := [(fun K => He.ga K "CLOSINGS", ["if", "try"])]
def ex (K : PySem.W.Frag) : Bool := He.valsB K (He.ga K "CLOSINGS") [("if", .str "else:"), ("try", .str "except:")]
def nms : List PySem.Str := (["is_integer", "CLOSINGS", "INDENT", "format_expression", "format_head", "format_inner", "format_lines", "format_block", "_law_mix", "_law_next", "_law_name", "_law_names", "_law_integer", "_law_expr", "_law_deep_row", "_law_deep_rows", "_law_expr_text", "_law_head", "_law_inner", "_law_lines", "_law_text"] : List PySem.Str)
abbrev R : PySem.W.OpenRow := PySem.W.OpenLaw.row PySem.Challenge.rw_modlink_k17_blocks_written
abbrev hk : PySem.W.Hook := He.hookX 4 fa fn ts [] ex
def ob (s : PySem.W.SharedT) : He.AlX := He.obsX 4 fa fn ts [] ex (HandSHeadRun.getT s)
theorem ob_eq (s : PySem.W.SharedT) : ob s = hk.obs s.abs := He.obsX_eq (HandSHeadRun.getT_eq s)
def RunP (w : World) : Prop := HandSHeadRun.RunEq R (PySem.W.view R.prog [24]) hk ob 4000 nms w
theorem run (w : World) : RunP w :=
  PySem.W.byRow2 "special-get-raises" (P := RunP) (fun w => by intro os; kernel_rfl) (fun w => by intro os; kernel_rfl) w
theorem facts {P : Program} {w : World} {K : PySem.W.Frag} {h : Heap} {mg : Str → Option Value} {f : Addr} (X : K.In h) (G : h.Ns mainGlobals mg) (hfa : mg ("law" : Str) = some (.ref f)) (c : He.SaysX fa fn ts [] ex w h K) :
    ∃ fd : FuncData, (∀ (s : Shared) (v : Value), BindsTo s fd ⟨[v], []⟩ [("_law_script", v)]) ∧ ∀ base : Heap, K.In base → base.Ns mainGlobals mg → FnOk P w K mg base CX0 41 f fd ["_law_script"] (sp_law K) := by
  obtain ⟨fd_is_integer, F_is_integer⟩ := c.t.d.def_ 0 (d := d_is_integer) rfl
  have g_is_integer := He.glo_ok X G (c.t.d.fact 0 (f := .glo "is_integer") rfl)
  have b_is_integer : Binds K fd_is_integer ["value"] [] := F_is_integer.bindsN fun _ _ _ _ _ _ us hl => match us, hl with | [_], _ => rfl
  obtain ⟨fd_format_expression, F_format_expression⟩ := c.t.d.def_ 1 (d := d_format_expression) rfl
  have g_format_expression := He.glo_ok X G (c.t.d.fact 1 (f := .glo "format_expression") rfl)
  have b_format_expression : Binds K fd_format_expression ["expr"] [] := F_format_expression.bindsN fun _ _ _ _ _ _ us hl => match us, hl with | [_], _ => rfl
  obtain ⟨fd_format_head, F_format_head⟩ := c.t.d.def_ 2 (d := d_format_head) rfl
  have g_format_head := He.glo_ok X G (c.t.d.fact 2 (f := .glo "format_head") rfl)
  have b_format_head : Binds K fd_format_head ["statement"] [] := F_format_head.bindsN fun _ _ _ _ _ _ us hl => match us, hl with | [_], _ => rfl
  obtain ⟨fd_format_inner, F_format_inner⟩ := c.t.d.def_ 3 (d := d_format_inner) rfl
  have g_format_inner := He.glo_ok X G (c.t.d.fact 3 (f := .glo "format_inner") rfl)
  have b_format_inner : Binds K fd_format_inner ["block", "indent"] [] := F_format_inner.bindsN fun _ _ _ _ _ _ us hl => match us, hl with | [_, _], _ => rfl
  obtain ⟨fd_format_lines, F_format_lines⟩ := c.t.d.def_ 4 (d := d_format_lines) rfl
  have g_format_lines := He.glo_ok X G (c.t.d.fact 4 (f := .glo "format_lines") rfl)
  have b_format_lines : Binds K fd_format_lines ["block", "indent"] [] := F_format_lines.bindsN fun _ _ _ _ _ _ us hl => match us, hl with | [_, _], _ => rfl
  obtain ⟨fd_format_block, F_format_block⟩ := c.t.d.def_ 5 (d := d_format_block) rfl
  have g_format_block := He.glo_ok X G (c.t.d.fact 5 (f := .glo "format_block") rfl)
  have b_format_block : Binds K fd_format_block ["block"] [] := F_format_block.bindsN fun _ _ _ _ _ _ us hl => match us, hl with | [_], _ => rfl
  obtain ⟨fd_law_mix, F_law_mix⟩ := c.t.d.def_ 6 (d := d_law_mix) rfl
  have g_law_mix := He.glo_ok X G (c.t.d.fact 6 (f := .glo "_law_mix") rfl)
  have b_law_mix : Binds K fd_law_mix ["_law_script", "_law_seed"] [] := F_law_mix.bindsN fun _ _ _ _ _ _ us hl => match us, hl with | [_, _], _ => rfl
  obtain ⟨fd_law_next, F_law_next⟩ := c.t.d.def_ 7 (d := d_law_next) rfl
  have g_law_next := He.glo_ok X G (c.t.d.fact 7 (f := .glo "_law_next") rfl)
  have b_law_next : Binds K fd_law_next ["_law_h", "_law_cap"] [] := F_law_next.bindsN fun _ _ _ _ _ _ us hl => match us, hl with | [_, _], _ => rfl
  obtain ⟨fd_law_name, F_law_name⟩ := c.t.d.def_ 8 (d := d_law_name) rfl
  have g_law_name := He.glo_ok X G (c.t.d.fact 8 (f := .glo "_law_name") rfl)
  have b_law_name : Binds K fd_law_name ["_law_h"] [] := F_law_name.bindsN fun _ _ _ _ _ _ us hl => match us, hl with | [_], _ => rfl
  obtain ⟨fd_law_names, F_law_names⟩ := c.t.d.def_ 9 (d := d_law_names) rfl
  have g_law_names := He.glo_ok X G (c.t.d.fact 9 (f := .glo "_law_names") rfl)
  have b_law_names : Binds K fd_law_names ["_law_h", "_law_many"] [] := F_law_names.bindsN fun _ _ _ _ _ _ us hl => match us, hl with | [_, _], _ => rfl
  obtain ⟨fd_law_integer, F_law_integer⟩ := c.t.d.def_ 10 (d := d_law_integer) rfl
  have g_law_integer := He.glo_ok X G (c.t.d.fact 10 (f := .glo "_law_integer") rfl)
  have b_law_integer : Binds K fd_law_integer ["_law_h"] [] := F_law_integer.bindsN fun _ _ _ _ _ _ us hl => match us, hl with | [_], _ => rfl
  obtain ⟨fd_law_expr, F_law_expr⟩ := c.t.d.def_ 11 (d := d_law_expr) rfl
  have g_law_expr := He.glo_ok X G (c.t.d.fact 11 (f := .glo "_law_expr") rfl)
  have b_law_expr : Binds K fd_law_expr ["_law_h", "_law_names_here", "_law_depth"] [] := F_law_expr.bindsN fun _ _ _ _ _ _ us hl => match us, hl with | [_, _, _], _ => rfl
  obtain ⟨fd_law_deep_row, F_law_deep_row⟩ := c.t.d.def_ 12 (d := d_law_deep_row) rfl
  have g_law_deep_row := He.glo_ok X G (c.t.d.fact 12 (f := .glo "_law_deep_row") rfl)
  have b_law_deep_row : Binds K fd_law_deep_row ["_law_h", "_law_names_here", "_law_depth"] [] := F_law_deep_row.bindsN fun _ _ _ _ _ _ us hl => match us, hl with | [_, _, _], _ => rfl
  obtain ⟨fd_law_deep_rows, F_law_deep_rows⟩ := c.t.d.def_ 13 (d := d_law_deep_rows) rfl
  have g_law_deep_rows := He.glo_ok X G (c.t.d.fact 13 (f := .glo "_law_deep_rows") rfl)
  have b_law_deep_rows : Binds K fd_law_deep_rows ["_law_h", "_law_names_here", "_law_depth"] [] := F_law_deep_rows.bindsN fun _ _ _ _ _ _ us hl => match us, hl with | [_, _, _], _ => rfl
  obtain ⟨fd_law_expr_text, F_law_expr_text⟩ := c.t.d.def_ 14 (d := d_law_expr_text) rfl
  have g_law_expr_text := He.glo_ok X G (c.t.d.fact 14 (f := .glo "_law_expr_text") rfl)
  have b_law_expr_text : Binds K fd_law_expr_text ["_law_expr_here"] [] := F_law_expr_text.bindsN fun _ _ _ _ _ _ us hl => match us, hl with | [_], _ => rfl
  obtain ⟨fd_law_head, F_law_head⟩ := c.t.d.def_ 15 (d := d_law_head) rfl
  have g_law_head := He.glo_ok X G (c.t.d.fact 15 (f := .glo "_law_head") rfl)
  have b_law_head : Binds K fd_law_head ["_law_row"] [] := F_law_head.bindsN fun _ _ _ _ _ _ us hl => match us, hl with | [_], _ => rfl
  obtain ⟨fd_law_inner, F_law_inner⟩ := c.t.d.def_ 16 (d := d_law_inner) rfl
  have g_law_inner := He.glo_ok X G (c.t.d.fact 16 (f := .glo "_law_inner") rfl)
  have b_law_inner : Binds K fd_law_inner ["_law_block", "_law_indent"] [] := F_law_inner.bindsN fun _ _ _ _ _ _ us hl => match us, hl with | [_, _], _ => rfl
  obtain ⟨fd_law_lines, F_law_lines⟩ := c.t.d.def_ 17 (d := d_law_lines) rfl
  have g_law_lines := He.glo_ok X G (c.t.d.fact 17 (f := .glo "_law_lines") rfl)
  have b_law_lines : Binds K fd_law_lines ["_law_block", "_law_indent"] [] := F_law_lines.bindsN fun _ _ _ _ _ _ us hl => match us, hl with | [_, _], _ => rfl
  obtain ⟨fd_law_text, F_law_text⟩ := c.t.d.def_ 18 (d := d_law_text) rfl
  have g_law_text := He.glo_ok X G (c.t.d.fact 18 (f := .glo "_law_text") rfl)
  have b_law_text : Binds K fd_law_text ["_law_lines_here"] [] := F_law_text.bindsN fun _ _ _ _ _ _ us hl => match us, hl with | [_], _ => rfl
  obtain ⟨fd_law, F_law⟩ := c.t.d.def_ 19 (d := d_law) rfl
  have g_law := He.glo_ok X G (c.t.d.fact 19 (f := .glo "law") rfl)
  have b_law : Binds K fd_law ["_law_script"] [] := F_law.bindsN fun _ _ _ _ _ _ us hl => match us, hl with | [_], _ => rfl
  have B : Blt mg := ⟨He.free_ok X G (c.t.d.fact 20 (f := .free "isinstance") rfl), He.free_ok X G (c.t.d.fact 21 (f := .free "int") rfl), He.free_ok X G (c.t.d.fact 22 (f := .free "bool") rfl), He.free_ok X G (c.t.d.fact 23 (f := .free "str") rfl), He.free_ok X G (c.t.d.fact 24 (f := .free "len") rfl), He.free_ok X G (c.t.d.fact 25 (f := .free "max") rfl), He.free_ok X G (c.t.d.fact 26 (f := .free "min") rfl), He.free_ok X G (c.t.d.fact 27 (f := .free "range") rfl), He.free_ok X G (c.t.d.fact 28 (f := .free "list") rfl), He.free_ok X G (c.t.d.fact 29 (f := .free "tuple") rfl), He.free_ok X G (c.t.d.fact 30 (f := .free "dict") rfl), He.free_ok X G (c.t.d.fact 31 (f := .free "sorted") rfl), He.free_ok X G (c.t.d.fact 32 (f := .free "enumerate") rfl)⟩
  obtain ⟨tI, gI⟩ := He.str_ok X G (c.t.d.fact 33 (f := .str "INDENT" "  ") rfl)
  have gC := He.glo_ok X G (c.t.d.fact (33 + 1) (f := .glo "CLOSINGS") rfl)
  have kd : KTab K w (He.ga K "CLOSINGS") [("if", "else:"), ("try", "except:")] := ktab_of (tabEq c.t 0) c.more
  have e := hfa.symm.trans g_law
  cases e
  have b := FunD.bindsA (ps := ["_law_script"]) F_law fun _ _ _ _ _ _ us hl => match us, hl with | [_], _ => rfl
  refine ⟨fd_law, fun s v => b s [v] rfl, fun base _ _ => ?_⟩
  have c_is_integer : C8.Cal P w K mg base 1 "is_integer" (sp_is_integer K) [] := mkCal (ok_is_integer F_is_integer B) g_is_integer F_is_integer.kp b_is_integer
  have c_fe : ∀ n, C8.Cal P w K mg base (n + 1) "format_expression" (sp_format_expression K n) [] := fun n => by
    induction n with
    | zero => exact mkCal (fn_none fun vs H Q E h => by obtain ⟨_, _, _, _, _, _, h, _⟩ := h; omega) g_format_expression F_format_expression.kp b_format_expression
    | succ n ih => exact mkCal (ok_format_expression F_format_expression B c_is_integer ih) g_format_expression F_format_expression.kp b_format_expression
  have c_head : C8.Cal P w K mg base 12 "format_head" (sp_format_head K) [] := mkCal (ok_format_head F_format_head B (c_fe 10)) g_format_head F_format_head.kp b_format_head
  have c_fl : ∀ n, C8.Cal P w K mg base (2 * n + 13) "format_lines" (sp_format_lines K n) [] := fun n => by
    induction n with
    | zero => exact mkCal (fn_none fun vs H Q E h => by obtain ⟨_, _, _, _, _, _, _, _, h, _⟩ := h; omega) g_format_lines F_format_lines.kp b_format_lines
    | succ n ih =>
      have ci : C8.Cal P w K mg base (2 * n + 14) "format_inner" (sp_format_inner K n) [] := mkCal (ok_format_inner F_format_inner B ih) g_format_inner F_format_inner.kp b_format_inner
      exact mkCalE (ok_format_lines F_format_lines B ci c_head ⟨_, gI, ⟨tI, rfl⟩⟩ ⟨_, gC, rfl⟩ kd) (by omega) g_format_lines F_format_lines.kp b_format_lines
  have c_fb : C8.Cal P w K mg base 31 "format_block" (sp_format_block K) [] := mkCal (ok_format_block F_format_block B (c_fl 6)) g_format_block F_format_block.kp b_format_block
  have c_le : ∀ n, C8.Cal P w K mg base (n + 1) "_law_expr_text" (sp_law_expr_text K n) [] := fun n => by
    induction n with
    | zero => exact mkCal (fn_none fun vs H Q E h => by obtain ⟨_, _, _, _, _, _, h, _⟩ := h; omega) g_law_expr_text F_law_expr_text.kp b_law_expr_text
    | succ n ih => exact mkCal (ok_law_expr_text F_law_expr_text B ih) g_law_expr_text F_law_expr_text.kp b_law_expr_text
  have c_lh : C8.Cal P w K mg base 12 "_law_head" (sp_law_head K) [] := mkCal (ok_law_head F_law_head B (c_le 10)) g_law_head F_law_head.kp b_law_head
  have c_ll : ∀ n, C8.Cal P w K mg base (2 * n + 13) "_law_lines" (sp_law_lines K n) [] := fun n => by
    induction n with
    | zero => exact mkCal (fn_none fun vs H Q E h => by obtain ⟨_, _, _, _, _, _, _, _, h, _⟩ := h; omega) g_law_lines F_law_lines.kp b_law_lines
    | succ n ih =>
      have ci : C8.Cal P w K mg base (2 * n + 14) "_law_inner" (sp_law_inner K n) [] := mkCal (ok_law_inner F_law_inner B ih) g_law_inner F_law_inner.kp b_law_inner
      exact mkCalE (ok_law_lines F_law_lines B ci c_lh) (by omega) g_law_lines F_law_lines.kp b_law_lines
  have c_lt : C8.Cal P w K mg base 1 "_law_text" (sp_law_text K) [] := mkCal (ok_law_text F_law_text B) g_law_text F_law_text.kp b_law_text
  have c_mx : C8.Cal P w K mg base 1 "_law_mix" (sp_law_mix K) [] := mkCal (ok_law_mix F_law_mix B) g_law_mix F_law_mix.kp b_law_mix
  have c_nx : C8.Cal P w K mg base 1 "_law_next" (sp_law_next K) [] := mkCal (ok_law_next F_law_next B) g_law_next F_law_next.kp b_law_next
  have c_nm : C8.Cal P w K mg base 2 "_law_name" (sp_law_name K) [] := mkCal (ok_law_name F_law_name B c_nx) g_law_name F_law_name.kp b_law_name
  have c_ns : C8.Cal P w K mg base 3 "_law_names" (sp_law_names K) [] := mkCal (ok_law_names F_law_names B c_nx c_nm) g_law_names F_law_names.kp b_law_names
  have c_in : C8.Cal P w K mg base 2 "_law_integer" (sp_law_integer K) [] := mkCal (ok_law_integer F_law_integer B c_nx) g_law_integer F_law_integer.kp b_law_integer
  have c_ex : ∀ n, C8.Cal P w K mg base (n + 2) "_law_expr" (sp_law_expr K n) [] := fun n => by
    induction n with
    | zero => exact mkCal (fn_none fun vs H Q E h => by obtain ⟨_, _, _, _, _, _, _, _, h0, h, _⟩ := h; omega) g_law_expr F_law_expr.kp b_law_expr
    | succ n ih => exact mkCal (ok_law_expr F_law_expr B c_nx c_in ih) g_law_expr F_law_expr.kp b_law_expr
  have c_dr : ∀ n, C8.Cal P w K mg base (2 * n + 12) "_law_deep_rows" (sp_law_deep_rows K n) [] := fun n => by
    induction n with
    | zero => exact mkCal (fn_none fun vs H Q E h => by obtain ⟨_, _, _, _, _, _, _, _, h0, h, _⟩ := h; omega) g_law_deep_rows F_law_deep_rows.kp b_law_deep_rows
    | succ n ih =>
      have ci : C8.Cal P w K mg base (2 * n + 13) "_law_deep_row" (sp_law_deep_row K (n + 1)) [] := mkCal (ok_law_deep_row F_law_deep_row B c_nx (c_ex 5) ih) g_law_deep_row F_law_deep_row.kp b_law_deep_row
      exact mkCalE (ok_law_deep_rows F_law_deep_rows B c_nx ci) (by omega) g_law_deep_rows F_law_deep_rows.kp b_law_deep_rows
  exact ok_law F_law B c_fb (c_ll 6) c_lt c_ns (c_dr 5) c_mx
end M
open PySem PySem.W PySem.Calls PyProof.Rows
theorem PySem.Challenge.cw_modlink_k17_blocks_written_holds : PySem.Challenge.rw_modlink_k17_blocks_written.Holds := by
  w_on; o_law
  refine HandSHeadRun.head_any (r := OpenLaw.row PySem.Challenge.rw_modlink_k17_blocks_written) (q := view (OpenLaw.row PySem.Challenge.rw_modlink_k17_blocks_written).prog [24]) (H := M.hk) (ob := M.ob) (M := 4000) (loose := M.nms) (d := HandSHeadRun.topDef (OpenLaw.row PySem.Challenge.rw_modlink_k17_blocks_written).prog 24) (kwd := []) M.ob_eq
    (by kernel_rfl) (fun s => by kernel_rfl) M.run (by kernel_rfl) (by kernel_rfl) (by kernel_rfl) (by rfl) (by first | assumption | decide +kernel) (by decide +kernel) ⟨rfl, rfl, rfl, rfl, rfl, by decide +kernel⟩ ?hw ?hc
  case hw => w_witness2
  case hc =>
    refine L2.walk_ofE (l := PySem.Challenge.rw_modlink_k17_blocks_written) (n := 63) (k := 41) (x := "_law_script") (CX := L2.CX0) rfl (by decide) (by kernel_rfl) ⟨rfl, by decide, by decide⟩ ?F (fun _ _ _ _ z => z)
    intro w mg fa h Y G hmg0
    obtain ⟨K, KX, c⟩ := Y
    have hmg : mg ("law" : PySem.Str) = some (.ref fa) := by
      have e : (HandSHeadRun.topDef (OpenLaw.row PySem.Challenge.rw_modlink_k17_blocks_written).prog 24).name = ("law" : PySem.Str) := by kernel_rfl
      rw [← e]
      exact hmg0
    obtain ⟨fd, hb, hF⟩ := M.facts (P := (PySem.Challenge.rw_modlink_k17_blocks_written).prog) (w := w) KX G hmg c
    exact ⟨K, fd, M.sp_law K, KX, hb, fun H a ns hl _ hS => ⟨a, ns, rfl, hS, hl, fun _ => rfl⟩, hF⟩
