import PyProof.Rows.All
import Wide.All
import OpenK.AllK
import Wide.FinOn
import HandS.ForMost
import HandS.ForExc
import HandS.Wide
import HandS.IsInst
import HandS.ExcIs
import HandS.Style
import HandS.Flow
import HandS.Zip
import HandS.SortInts
import HandS.SortRule
import PySem.Challenge.RW_surebest_k01_ratios
set_option Elab.async false
set_option linter.all false
set_option maxRecDepth 100000
set_option maxHeartbeats 4000000
/-! plain words -/
namespace SB
/-- the item at a place -/
def nth {α : Type} [Inhabited α] (xs : List α) (i : Int) : α := xs.getD i.toNat default
theorem nth_eq {α : Type} [Inhabited α] {xs : List α} {i : Int} {x : α} (h : xs[i.toNat]? = some x) : nth xs i = x := by
  unfold nth
  rw [List.getD_eq_getElem?_getD, h]
  rfl
theorem nth_get {α : Type} [Inhabited α] {xs : List α} {i : Int} (h0 : 0 ≤ i) (h : i < xs.length) : xs[i.toNat]? = some (nth xs i) := by
  have hl : i.toNat < xs.length := by omega
  unfold nth
  rw [List.getD_eq_getElem?_getD, List.getElem?_eq_getElem hl]
  rfl
theorem nth_nat {α : Type} [Inhabited α] {xs : List α} {i : Nat} {x : α} (h : xs[i]? = some x) : nth xs (i : Int) = x := nth_eq (by simpa using h)
theorem nth_mem {α : Type} [Inhabited α] {xs : List α} {i : Int} (h0 : 0 ≤ i) (h : i < xs.length) : nth xs i ∈ xs := List.mem_of_getElem? (nth_get h0 h)
end SB
/-! The layer of these proofs: a stable heap S, owned objects O, data Dp over S; one step lemma a reading. -/
namespace SB
open PySem PySem.Spec PyProof.Rows L2

/-! ### the stable heap and the owned objects -/
structure Wd (K : PySem.W.Frag) (S H : Hp) (O : List (Addr × HO)) : Prop where
  sub : Same S H
  own : ∀ p ∈ O, H p.1 = some p.2 ∧ S p.1 = none
  nd : (O.map (·.1)).Nodup
section
variable {K : PySem.W.Frag} {S S' H : Hp} {O : List (Addr × HO)} {p q : Addr} {o u : HO} {n : Nat}
theorem Wd.all (H : Hp) : Wd K H H [] := ⟨Same.refl H, fun _ h => absurd h (by simp), List.nodup_nil⟩
theorem Wd.frS (W : Wd K S H O) (h : H q = none) : S q = none := W.sub.free h
theorem Wd.frO (W : Wd K S H O) (h : H q = none) : q ∉ O.map (·.1) := fun hm => by
  obtain ⟨r, hr, e⟩ := List.mem_map.mp hm
  have := (W.own r hr).1
  rw [e, h] at this
  cases this
theorem Wd.at (W : Wd K S H O) (n : Nat) (h : O[n]? = some (p, o)) : H p = some o := (W.own _ (List.mem_of_getElem? h)).1
theorem Wd.atS (W : Wd K S H O) (n : Nat) (h : O[n]? = some (p, o)) : S p = none := (W.own _ (List.mem_of_getElem? h)).2
theorem same_new (h : S q = none) : Same S (upd S q o) := fun b u e => by rw [upd_ne (ne_of_none e h)]; exact e
/-- a new object that is ours to change -/
theorem Wd.alloc (W : Wd K S H O) (h : H q = none) : Wd K S (upd H q o) ((q, o) :: O) := by
  refine ⟨fun b u e => ?_, fun r hr => ?_, ?_⟩
  · rw [upd_ne (ne_of_none (W.sub b u e) h)]
    exact W.sub b u e
  · rcases List.mem_cons.mp hr with rfl | hr
    · exact ⟨upd_same, W.frS h⟩
    · exact ⟨by rw [upd_ne (ne_of_none (W.own r hr).1 h)]; exact (W.own r hr).1, (W.own r hr).2⟩
  · rw [List.map_cons]
    exact List.nodup_cons.mpr ⟨W.frO h, W.nd⟩
/-- a new object that stays -/
theorem Wd.new (W : Wd K S H O) (h : H q = none) : Wd K (upd S q o) (upd H q o) O := by
  refine ⟨fun b u e => ?_, fun r hr => ?_, W.nd⟩
  · by_cases hb : b = q
    · subst hb; rw [upd_same] at e ⊢; exact e
    · rw [upd_ne hb] at e ⊢
      exact W.sub b u e
  · have hne : r.1 ≠ q := ne_of_none (W.own r hr).1 h
    exact ⟨by rw [upd_ne hne]; exact (W.own r hr).1, by rw [upd_ne hne]; exact (W.own r hr).2⟩
theorem nodup_at : ∀ {O : List (Addr × HO)} {n m : Nat} {a b : Addr × HO}, (O.map (·.1)).Nodup → O[n]? = some a → O[m]? = some b → a.1 = b.1 → n = m := fun {O n m a b} nd h1 h2 e => by
  have g1 : (O.map (·.1))[n]? = some a.1 := by rw [List.getElem?_map, h1]; rfl
  have g2 : (O.map (·.1))[m]? = some a.1 := by rw [List.getElem?_map, h2, e]; rfl
  exact nd_ix nd g1 g2
/-- one of ours is written -/
theorem Wd.put (W : Wd K S H O) (n : Nat) (h : O[n]? = some (p, o)) : Wd K S (upd H p u) (O.set n (p, u)) := by
  have hn : n < O.length := (List.getElem?_eq_some_iff.mp h).1
  have hS := W.atS n h
  refine ⟨fun b x e => ?_, fun r hr => ?_, ?_⟩
  · rw [upd_ne (ne_of_none e hS)]
    exact W.sub b x e
  · obtain ⟨m, hm⟩ := List.getElem?_of_mem hr
    by_cases hmn : m = n
    · subst hmn
      rw [List.getElem?_set_self hn] at hm
      cases hm
      exact ⟨upd_same, hS⟩
    · rw [List.getElem?_set_ne (Ne.symm hmn)] at hm
      have hne : r.1 ≠ p := fun e => hmn (nodup_at W.nd hm h e)
      have := W.own r (List.mem_of_getElem? hm)
      exact ⟨by rw [upd_ne hne]; exact this.1, this.2⟩
  · have e : (O.set n (p, u)).map (·.1) = O.map (·.1) := by
      have g : (O.map (·.1))[n]? = some p := by rw [List.getElem?_map, h]; rfl
      apply List.ext_getElem?
      intro i
      rw [List.getElem?_map, List.getElem?_map, List.getElem?_set]
      by_cases hi : n = i
      · subst hi
        rw [if_pos rfl, if_pos hn, h]
        rfl
      · rw [if_neg hi]
    rw [e]
    exact W.nd
/-- one of ours is ours no longer: it stays as it is -/
theorem Wd.give (W : Wd K S H O) (n : Nat) (h : O[n]? = some (p, o)) : Wd K (upd S p o) H (O.eraseIdx n) := by
  have hnd : ((O.eraseIdx n).map (·.1)).Nodup := W.nd.sublist ((List.eraseIdx_sublist O n).map _)
  refine ⟨fun b x e => ?_, fun r hr => ?_, hnd⟩
  · by_cases hb : b = p
    · subst hb; rw [upd_same] at e; cases e; exact W.at n h
    · rw [upd_ne hb] at e
      exact W.sub b x e
  · have hr' : r ∈ O := (List.eraseIdx_sublist O n).subset hr
    have hne : r.1 ≠ p := by
      intro e
      obtain ⟨i, hi⟩ := List.getElem?_of_mem hr
      rw [List.getElem?_eraseIdx] at hi
      split at hi
      · have := nodup_at W.nd hi h e
        omega
      · have := nodup_at W.nd hi h e
        omega
    exact ⟨by have := (W.own r hr').1; exact this, by rw [upd_ne hne]; exact (W.own r hr').2⟩
/-- a stable heap that grew -/
theorem Wd.lst (W : Wd K S H O) {xs : List V} (h : SqL K S p xs) : SqL K H p xs := W.sub.seq h
theorem same_rd {H H' : Hp} {a : Addr} {u : HO} (e : Same H H') (h : Rd H a u) : Rd H' a u := by
  rcases h with h | ⟨o, h⟩
  · exact .inl (e _ _ h)
  · exact .inr ⟨o, e _ _ h⟩
theorem same_t {K : PySem.W.Frag} {H H' : Hp} {a : Addr} {xs : List V} (e : Same H H') (h : SqT K H a xs) : SqT K H' a xs := by
  rcases h with h | h
  · exact .inl (same_rd e h)
  · exact .inr h
theorem Wd.tup (W : Wd K S H O) {xs : List V} (h : SqT K S p xs) : SqT K H p xs := same_t W.sub h
end

/-! ### data -/
section
variable {K : PySem.W.Frag} {S S' H : Hp} {O : List (Addr × HO)}
mutual
theorem dp_mono (hs : Same S S') : ∀ {v : V} {d : PyData}, Dp K S v d → Dp K S' v d
  | _, _, .non => .non
  | _, _, .bl b => .bl b
  | _, _, .int i => .int i
  | _, _, .str x => .str x
  | _, _, .lst h a => .lst (hs.seq h) (dpAll_mono hs a)
  | _, _, .tup h a => .tup (same_t hs h) (dpAll_mono hs a)
theorem dpAll_mono (hs : Same S S') : ∀ {vs : List V} {ds : List PyData}, DpAll K S vs ds → DpAll K S' vs ds
  | _, _, .nil => .nil
  | _, _, .cons h a => .cons (dp_mono hs h) (dpAll_mono hs a)
end
theorem dpAll_len : ∀ {vs : List V} {ds : List PyData}, DpAll K S vs ds → vs.length = ds.length
  | _, _, .nil => rfl
  | _, _, .cons _ a => by rw [List.length_cons, List.length_cons, dpAll_len a]
theorem dpAll_get : ∀ {vs : List V} {ds : List PyData} {i : Nat} {d : PyData}, DpAll K S vs ds → ds[i]? = some d → ∃ v, vs[i]? = some v ∧ Dp K S v d
  | _, _, _, _, .nil, h => by simp at h
  | _, _, 0, _, .cons h a, e => by
    rw [List.getElem?_cons_zero] at e
    cases e
    exact ⟨_, rfl, h⟩
  | _, _, i + 1, _, .cons h a, e => by
    rw [List.getElem?_cons_succ] at e
    obtain ⟨v, h1, h2⟩ := dpAll_get a e
    exact ⟨v, by rw [List.getElem?_cons_succ]; exact h1, h2⟩
theorem dpAll_get' : ∀ {vs : List V} {ds : List PyData} {i : Nat} {v : V}, DpAll K S vs ds → vs[i]? = some v → ∃ d, ds[i]? = some d ∧ Dp K S v d
  | _, _, _, _, .nil, h => by simp at h
  | _, _, 0, _, .cons h a, e => by
    rw [List.getElem?_cons_zero] at e
    cases e
    exact ⟨_, rfl, h⟩
  | _, _, i + 1, _, .cons h a, e => by
    rw [List.getElem?_cons_succ] at e
    obtain ⟨d, h1, h2⟩ := dpAll_get' a e
    exact ⟨d, by rw [List.getElem?_cons_succ]; exact h1, h2⟩
theorem dpAll_app : ∀ {vs : List V} {ds : List PyData} {v : V} {d : PyData}, DpAll K S vs ds → Dp K S v d → DpAll K S (vs ++ [v]) (ds ++ [d])
  | _, _, _, _, .nil, h => .cons h .nil
  | _, _, _, _, .cons h a, h' => .cons h (dpAll_app a h')
theorem dpAll_cat : ∀ {vs ws : List V} {ds es : List PyData}, DpAll K S vs ds → DpAll K S ws es → DpAll K S (vs ++ ws) (ds ++ es)
  | _, _, _, _, .nil, h => h
  | _, _, _, _, .cons h a, h' => .cons h (dpAll_cat a h')
theorem dpAll_set : ∀ {vs : List V} {ds : List PyData} {v : V} {d : PyData} (i : Nat), DpAll K S vs ds → Dp K S v d → DpAll K S (vs.set i v) (ds.set i d)
  | _, _, _, _, _, .nil, h => .nil
  | _, _, _, _, 0, .cons h a, h' => .cons h' a
  | _, _, _, _, i + 1, .cons h a, h' => .cons h (dpAll_set i a h')
theorem dpAll_take : ∀ {vs : List V} {ds : List PyData} (n : Nat), DpAll K S vs ds → DpAll K S (vs.take n) (ds.take n)
  | _, _, 0, _ => .nil
  | _, _, _ + 1, .nil => .nil
  | _, _, n + 1, .cons h a => .cons h (dpAll_take n a)
theorem dpAll_drop : ∀ {vs : List V} {ds : List PyData} (n : Nat), DpAll K S vs ds → DpAll K S (vs.drop n) (ds.drop n)
  | _, _, 0, h => h
  | _, _, _ + 1, .nil => .nil
  | _, _, n + 1, .cons h a => dpAll_drop n a
theorem dpAll_ints : ∀ ns : List Int, DpAll K S (ns.map V.int) (ns.map PyData.int)
  | [] => .nil
  | n :: ns => .cons (.int n) (dpAll_ints ns)
theorem dpAll_bools : ∀ bs : List Bool, DpAll K S (bs.map V.bl) (bs.map PyData.bool)
  | [] => .nil
  | n :: ns => .cons (.bl n) (dpAll_bools ns)
theorem ints_of : ∀ {vs : List V} {ns : List Int}, DpAll K S vs (ns.map PyData.int) → vs = ns.map V.int
  | _, [], .nil => rfl
  | _, n :: ns, .cons (.int _) a => by rw [ints_of a]; rfl
theorem bools_of : ∀ {vs : List V} {ns : List Bool}, DpAll K S vs (ns.map PyData.bool) → vs = ns.map V.bl
  | _, [], .nil => rfl
  | _, n :: ns, .cons (.bl _) a => by rw [bools_of a]; rfl
theorem dp_int_eq {v : V} {i : Int} : Dp K S v (.int i) → v = .int i
  | .int _ => rfl
theorem dp_bl_eq {v : V} {i : Bool} : Dp K S v (.bool i) → v = .bl i
  | .bl _ => rfl
theorem dp_non_eq {v : V} : Dp K S v .none → v = .non
  | .non => rfl
theorem dp_str_eq {v : V} {i : Str} : Dp K S v (.str i) → v = .str i
  | .str _ => rfl
theorem dp_lst_ex {v : V} {ds : List PyData} : Dp K S v (.list ds) → ∃ a vs, v = .ref a ∧ SqL K S a vs ∧ DpAll K S vs ds
  | .lst h a => ⟨_, _, rfl, h, a⟩
theorem dp_tup_ex {v : V} {ds : List PyData} : Dp K S v (.tuple ds) → ∃ a vs, v = .ref a ∧ SqT K S a vs ∧ DpAll K S vs ds
  | .tup h a => ⟨_, _, rfl, h, a⟩
/-- a list that is given away -/
theorem dp_give {p : Addr} {vs : List V} {ds : List PyData} (h : S p = none) (a : DpAll K S vs ds) : Dp K (upd S p (.lst vs)) (.ref p) (.list ds) :=
  .lst (.inl (.inl upd_same)) (dpAll_mono (same_new h) a)
/-- what comes, by its datum: a flat value is written out -/
def Kn (K : PySem.W.Frag) (S : Hp) (d : PyData) (P : V → Prop) : Prop :=
  match d with
  | .none => P .non
  | .bool b => P (.bl b)
  | .int i => P (.int i)
  | .str x => P (.str x)
  | d => ∀ u, Dp K S u d → P u
theorem Kn.of {d : PyData} {P : V → Prop} (h : Kn K S d P) : ∀ u, Dp K S u d → P u := fun u hu => by
  cases hu with
  | non => exact h
  | bl b => exact h
  | int i => exact h
  | str x => exact h
  | lst h1 h2 => exact h _ (.lst h1 h2)
  | tup h1 h2 => exact h _ (.tup h1 h2)
theorem kn_int {i : Int} {P : V → Prop} (h : P (.int i)) : Kn K S (.int i) P := h
theorem kn_bl {i : Bool} {P : V → Prop} (h : P (.bl i)) : Kn K S (.bool i) P := h
theorem kn_str {i : Str} {P : V → Prop} (h : P (.str i)) : Kn K S (.str i) P := h
theorem kn_non {P : V → Prop} (h : P .non) : Kn K S .none P := h
theorem kn_tup {ds : List PyData} {P : V → Prop} (h : ∀ u, Dp K S u (.tuple ds) → P u) : Kn K S (.tuple ds) P := h
theorem kn_lst {ds : List PyData} {P : V → Prop} (h : ∀ u, Dp K S u (.list ds) → P u) : Kn K S (.list ds) P := h
theorem kn_any {d : PyData} {P : V → Prop} (h : ∀ u, Dp K S u d → P u) : Kn K S d P := by
  cases d with
  | none => exact h _ .non
  | bool b => exact h _ (.bl b)
  | int i => exact h _ (.int i)
  | str x => exact h _ (.str x)
  | list ds => exact h
  | tuple ds => exact h
  | dict _ => exact h
end
end SB
/-! Step lemmas: a reading's head, what it asks. -/
namespace SB
open PySem PySem.Spec PyProof.Rows L2
/-! ### readings by names (a name keeps what follows in one piece) -/
def NewT (Q : VK) (xs : List V) (H : Hp) : Prop := xs.length ≤ sizeLine ∧ ∀ p, H p = none → Q (.ref p) (upd H p (.tup xs))
def NewL (Q : VK) (xs : List V) (H : Hp) : Prop := xs.length ≤ sizeLine ∧ ∀ p, H p = none → Q (.ref p) (upd H p (.lst xs))
def rLen (K : PySem.W.Frag) : List V → Hp → VK → Prop := fun xs H Q => ∃ p ys, xs = [.ref p] ∧ (SqL K H p ys ∨ SqT K H p ys) ∧ Q (.int (ys.length : Int)) H
def rAbs : List V → Hp → VK → Prop := fun xs H Q => ∃ i, xs = [.int i] ∧ Q (.int (if i < 0 then -i else i)) H
def rMx2 : List V → Hp → VK → Prop := fun xs H Q => ∃ i j, xs = [.int i, .int j] ∧ Q (.int (if j > i then j else i)) H
def rInt1 : List V → Hp → VK → Prop := fun xs H Q => (∃ i, xs = [.int i] ∧ Q (.int i) H) ∨ ∃ k, xs = [.bl k] ∧ Q (.int (if k then 1 else 0)) H
def rLst (K : PySem.W.Frag) : List V → Hp → VK → Prop := fun xs H Q => ∃ p ys, xs = [.ref p] ∧ (SqL K H p ys ∨ SqT K H p ys) ∧ ∀ l, H l = none → Q (.ref l) (upd H l (.lst ys))
def rNon : R2 := fun x y H Q => y = .non ∧ Q (.bl (decide (x = .non))) H
def rNotNon : R2 := fun x y H Q => y = .non ∧ Q (.bl (!decide (x = .non))) H
section
variable {X : Cx}
theorem cl_len : CallR X (.builtin "len") (rLen X.K) := call_len_seq
theorem cl_abs : CallR X (.builtin "abs") rAbs := call_abs
theorem cl_max2 (hc : X.calm = true) : CallR X (.builtin "max") rMx2 := call_max2 hc
theorem cl_int1 : CallR X (.type "int") rInt1 := call_int1
theorem cl_list : CallR X (.type "list") (rLst X.K) := call_list_of
theorem ol_isN : OpR X (compareOp .Is) rNon := op_isN
theorem ol_notN : OpR X (compareOp .IsNot) rNotNon := op_notN
end
/-- truth -/
def TruQ (K : PySem.W.Frag) (Q : Bool → Hp → Prop) (x : V) (H : Hp) : Prop := ∃ k, TruV K x H k ∧ Q k H
def tTr (K : PySem.W.Frag) (ta : TE) : TT := fun σ H Q => ta σ H fun x H' => TruQ K Q x H'
theorem pl_truth {X : Cx} {a : Expr} {ta : TE} (ha : PE X a ta) (he : ∀ whole, isTrue a X.env whole = (do let v ← whole; standAt a.pos; holding [v] (truthy v))) : PT X a (tTr X.K ta) := pt_truth ha he
/-- a field read, stored; a method found -/
def FldR (K : PySem.W.Frag) (f : Str) (Q : VK) (x : V) (H : Hp) : Prop := ∃ a C dx fs v, x = .ref a ∧ H a = some (.ins C dx fs) ∧ Cls K C ∧ NoAttr K C f ∧ fs.lookup f = some v ∧ Q v H
def FldS (K : PySem.W.Frag) (f : Str) (y : V) (N : Hp → Prop) (x : V) (H : Hp) : Prop := ∃ a C dx fs, x = .ref a ∧ H a = some (.ins C dx fs) ∧ Cls K C ∧ NoAttr K C f ∧ fs.length < 1000 ∧ N (upd H a (.ins C dx (putF f y fs)))
def MthR (C : Addr) (m : Str) (P : V → Hp → Prop) (x : V) (H : Hp) : Prop := ∃ a dx fs, x = .ref a ∧ H a = some (.ins C dx fs) ∧ fs.lookup m = none ∧ P x H
section
variable {K : PySem.W.Frag} {S H : Hp} {O : List (Addr × HO)} {σ : L2.St} {Q : VK} {ta tb tc te : TE} {t u : TS} {x y v : V}
  {nx bk ct : L2.St → Hp → Prop} {rt : VK} {D : Ends} {i : Nat} {QA : List V → Hp → Prop} {QT : Bool → Hp → Prop} {a b : Int} {r r' : R2} {tt tu : TT}

/-! ### statements -/
theorem x_seq (h : t ⟨u ⟨nx, rt, bk, ct⟩, rt, bk, ct⟩ σ H) : tSeq t u ⟨nx, rt, bk, ct⟩ σ H := h
theorem x_next (h : nx σ H) : tNext ⟨nx, rt, bk, ct⟩ σ H := h
theorem x_brk (h : bk σ H) : tBreak ⟨nx, rt, bk, ct⟩ σ H := h
theorem x_asg {g : TG} (h : te σ H fun x H1 => g x σ H1 nx) : tAsg te g ⟨nx, rt, bk, ct⟩ σ H := h
theorem x_gname {Q : L2.St → Hp → Prop} (h : Q (σ.set i (some v)) H) : gName i v σ H Q := h
theorem x_gsub {to ti : TE} {t : TSet} {Q : L2.St → Hp → Prop} (h : to σ H fun o H1 => ti σ H1 fun i H2 => t o i v H2 fun H3 => Q σ H3) : gSub to ti t v σ H Q := h
theorem x_drop (h : te σ H fun _ H1 => nx σ H1) : tDrop te ⟨nx, rt, bk, ct⟩ σ H := h
theorem x_ret (h : te σ H rt) : tRet te ⟨nx, rt, bk, ct⟩ σ H := h
theorem x_retN (h : rt .non H) : tRetN ⟨nx, rt, bk, ct⟩ σ H := h
theorem x_if (h : tt σ H fun b H1 => if b = true then t D σ H1 else u D σ H1) : tIfS tt t u D σ H := h
theorem x_fld {f : Str} (h : te σ H fun y H1 => ta σ H1 fun x H2 => FldS K f y (nx σ) x H2) : sFld K ta te f ⟨nx, rt, bk, ct⟩ σ H := h
theorem x_fldr {f : Str} (h : ta σ H fun x H1 => FldR K f Q x H1) : tFld K ta f σ H Q := h
theorem x_gtup {n : Nat} {gs : TGs} {Q : L2.St → Hp → Prop} (h : ∃ a xs, v = .ref a ∧ SqT K H a xs ∧ xs.length = n ∧ gs xs σ H Q) : gTup K n gs v σ H Q := h
theorem x_gcons {g : TG} {gs : TGs} {vs : List V} {Q : L2.St → Hp → Prop} (h : g v σ H fun σ' H' => gs vs σ' H' Q) : gCons g gs (v :: vs) σ H Q := ⟨v, vs, rfl, h⟩
theorem x_gnil {Q : L2.St → Hp → Prop} (h : Q σ H) : gNil [] σ H Q := ⟨rfl, h⟩

/-! ### branches -/
theorem x_iteT {A B : Prop} (h : A) : if true = true then A else B := by rw [if_pos rfl]; exact h
theorem x_iteF {A B : Prop} (h : B) : if false = true then A else B := by rw [if_neg Bool.false_ne_true]; exact h
theorem x_ite {c : Bool} {A B : Prop} (h1 : c = true → A) (h2 : c = false → B) : if c = true then A else B := by
  cases c
  · rw [if_neg Bool.false_ne_true]; exact h2 rfl
  · rw [if_pos rfl]; exact h1 rfl
theorem x_iteD {p : Prop} [Decidable p] {A B : Prop} (h1 : p → A) (h2 : ¬ p → B) : if decide p = true then A else B :=
  x_ite (fun h => h1 (of_decide_eq_true h)) (fun h => h2 (of_decide_eq_false h))
theorem x_iteN {c : Bool} {A B : Prop} (h1 : c = false → A) (h2 : c = true → B) : if (!c) = true then A else B := by
  cases c
  · exact x_iteT (h1 rfl)
  · exact x_iteF (h2 rfl)
theorem x_iteND {p : Prop} [Decidable p] {A B : Prop} (h1 : ¬ p → A) (h2 : p → B) : if (!decide p) = true then A else B :=
  x_iteN (fun h => h1 (of_decide_eq_false h)) (fun h => h2 (of_decide_eq_true h))
theorem x_no {c : Bool} {A B : Prop} (e : c = false) (h : B) : if c = true then A else B := by rw [e]; exact x_iteF h
theorem x_sure {c : Bool} {A B : Prop} (e : c = true) (h : A) : if c = true then A else B := by rw [e]; exact x_iteT h
theorem x_nT {A B : Prop} (h : B) : if (!true) = true then A else B := x_no rfl h
theorem x_nF {A B : Prop} (h : A) : if (!false) = true then A else B := x_sure rfl h
theorem x_iteTo {c d : Bool} {A B : Prop} (e : c = d) (h : if d = true then A else B) : if c = true then A else B := e ▸ h

/-! ### values -/
theorem x_var (h : σ[i]? = some (some v)) (q : Q v H) : tVar i σ H Q := ⟨v, h, q⟩
theorem x_c (q : Q v H) : tC v σ H Q := q
theorem x_op (h : ta σ H fun x H1 => tb σ H1 fun y H2 => r x y H2 Q) : tOp r ta tb σ H Q := h
theorem x_un {r : V → Hp → VK → Prop} (h : ta σ H fun x H1 => r x H1 Q) : tUn r ta σ H Q := h
theorem x_I0 {g : Int → Int → V} (q : Q (g a b) H) : rI0 g (.int a) (.int b) H Q := ⟨a, b, rfl, rfl, q⟩
theorem x_I {C : Int → Int → Prop} {g : Int → Int → V} (hc : C a b) (q : Q (g a b) H) : rI C g (.int a) (.int b) H Q := ⟨a, b, rfl, rfl, hc, q⟩
theorem x_U {g : Int → V} (q : Q (g a) H) : rU g (.int a) H Q := ⟨a, rfl, q⟩
theorem x_test (h : te σ H fun x H' => ∃ k, x = .bl k ∧ QT k H') : tTest te σ H QT := h
theorem x_tB (h : te σ H fun x H' => ∃ k, x = .bl k ∧ QT k H') : tB te σ H QT := h
theorem x_k {c : Bool} (h : QT c H) : ∃ k, V.bl c = .bl k ∧ QT k H := ⟨c, rfl, h⟩
theorem x_kx {c : Bool} {P : Bool → Prop} (h : P c) : ∃ k, V.bl c = .bl k ∧ P k := ⟨c, rfl, h⟩
theorem x_chain (h : ta σ H fun x H1 => tb σ H1 fun y H2 => r x y H2 fun z H3 => ∃ k, z = .bl k ∧ (if k = true then tc σ H3 fun w' H4 => r' y w' H4 Q else Q (.bl false) H3)) : tChain r r' ta tb tc σ H Q := h
theorem x_and (h : tt σ H fun c H1 => if c = true then tu σ H1 QT else QT false H1) : tAnd tt tu σ H QT := h
theorem x_or (h : tt σ H fun c H1 => if c = true then QT true H1 else tu σ H1 QT) : tOr tt tu σ H QT := h
theorem x_not (h : tt σ H fun c H1 => QT (!c) H1) : tNot tt σ H QT := h
theorem x_andV (h : ta σ H fun x H1 => ∃ c, x = .bl c ∧ if c = true then tb σ H1 Q else Q (.bl false) H1) : tAndV ta tb σ H Q := h
theorem x_orV (h : ta σ H fun x H1 => ∃ c, x = .bl c ∧ if c = true then Q (.bl true) H1 else tb σ H1 Q) : tOrV ta tb σ H Q := h
theorem x_notV (h : ta σ H fun x H1 => ∃ c, x = .bl c ∧ Q (.bl (!c)) H1) : tNotV ta σ H Q := h
theorem x_ifE (h : tt σ H fun c H1 => if c = true then ta σ H1 Q else tb σ H1 Q) : tIf tt ta tb σ H Q := h
theorem x_isN (q : Q (.bl (decide (x = .non))) H) : rNon x .non H Q := ⟨rfl, q⟩
theorem x_notN (q : Q (.bl (!decide (x = .non))) H) : rNotNon x .non H Q := ⟨rfl, q⟩
theorem x_eqI (q : Q (.bl (decide (a = b))) H) : rEq (.int a) (.int b) H Q := ⟨rfl, by rw [dec_int, Bool.beq_eq_decide_eq]; exact q⟩
theorem x_neI (q : Q (.bl (!decide (a = b))) H) : rNe (.int a) (.int b) H Q := ⟨rfl, by rw [dec_int, Bool.beq_eq_decide_eq]; exact q⟩
theorem x_eqB {a b : Bool} (q : Q (.bl (decide (a = b))) H) : rEq (.bl a) (.bl b) H Q := ⟨rfl, by rw [dec_bl, Bool.beq_eq_decide_eq]; exact q⟩
theorem x_neB {a b : Bool} (q : Q (.bl (!decide (a = b))) H) : rNe (.bl a) (.bl b) H Q := ⟨rfl, by rw [dec_bl, Bool.beq_eq_decide_eq]; exact q⟩
theorem x_eqV {c : Bool} (h : scal x y = true) (e : decide (x = y) = c) (q : Q (.bl c) H) : rEq x y H Q := ⟨h, by rw [e]; exact q⟩
theorem x_neV {c : Bool} (h : scal x y = true) (e : decide (x = y) = c) (q : Q (.bl (!c)) H) : rNe x y H Q := ⟨h, by rw [e]; exact q⟩

/-! ### calls -/
theorem x_nil (q : QA [] H) : tNil σ H QA := q
theorem x_cons {tr : TA} (h : te σ H fun x H1 => tr σ H1 fun xs H2 => QA (x :: xs) H2) : tCons te tr σ H QA := h
theorem x_call {sp : Sp} {dvs : List V} {E : XK} {t : TA} (h : t σ H fun vs H1 => sp (vs ++ dvs) H1 Q E) : tCall sp dvs E t σ H Q := h
theorem x_call0 {sp : Sp} {E : XK} {t : TA} (h : t σ H fun vs H1 => sp vs H1 Q E) : tCall sp [] E t σ H Q := by
  have e : (fun (vs : List V) (H1 : Hp) => sp (vs ++ []) H1 Q E) = fun vs H1 => sp vs H1 Q E := by funext vs H1; rw [List.append_nil]
  show t σ H fun vs H1 => sp (vs ++ []) H1 Q E
  rw [e]
  exact h
theorem x_callS {sp : Sp} {E : L2.St → XK} {t : TA} (h : t σ H fun vs H1 => sp vs H1 Q (E σ)) : tCallS sp E t σ H Q := h
theorem x_cb {r : List V → Hp → VK → Prop} {t : TA} (h : t σ H fun vs H1 => r vs H1 Q) : tCB r t σ H Q := h
theorem x_ttup {t : TA} (h : t σ H fun xs H1 => NewT Q xs H1) : tTup t σ H Q := h
theorem x_tlst {t : TA} (h : t σ H fun xs H1 => NewL Q xs H1) : tLst t σ H Q := h
theorem x_meth {C : Addr} {m : Str} {sp : Sp} {E : XK} {t : TA} (h : ta σ H fun x H1 => MthR C m (fun x H2 => t σ H2 fun vs H3 => sp (x :: vs) H3 Q E) x H1) : tMeth C m sp [] E ta t σ H Q := by
  have e : (fun (x : V) (H1 : Hp) => MthR C m (fun x H2 => t σ H2 fun vs H3 => sp (x :: vs) H3 Q E) x H1) = fun x H1 => ∃ a dx fs, x = .ref a ∧ H1 a = some (.ins C dx fs) ∧ fs.lookup m = none ∧ t σ H1 fun vs H2 => sp (x :: (vs ++ [])) H2 Q E := by
    funext x H1
    unfold MthR
    simp only [List.append_nil]
  show ta σ H _
  rw [← e]
  exact h

/-! ### new tuples and lists -/
theorem sz {n : Nat} (h : n ≤ 1000000) : n ≤ sizeLine := Nat.le_trans h (by decide)
theorem szl {n : Nat} (h : n ≤ 1000000) : n < sizeLine := Nat.lt_of_le_of_lt h (by decide)
/-- a new tuple that stays -/
theorem x_tup {vs : List V} {ds : List PyData} (W : Wd K S H O) (hd : DpAll K S vs ds) (hl : vs.length ≤ 1000000) (k : ∀ S' H' v, Wd K S' H' O → Same S S' → Dp K S' v (.tuple ds) → Q v H') : NewT Q vs H :=
  ⟨sz hl, fun p hp => k _ _ _ (W.new hp) (same_new (W.frS hp)) (.tup (.inl (.inl upd_same)) (dpAll_mono (same_new (W.frS hp)) hd))⟩
theorem x_tup' {vs : List V} {ds : List PyData} (W : Wd K S H O) (hd : DpAll K S vs ds) (k : ∀ S' H' v, Wd K S' H' O → Same S S' → Dp K S' v (.tuple ds) → Q v H') :
    ∀ p, H p = none → Q (.ref p) (upd H p (.tup vs)) :=
  fun p hp => k _ _ _ (W.new hp) (same_new (W.frS hp)) (.tup (.inl (.inl upd_same)) (dpAll_mono (same_new (W.frS hp)) hd))
/-- a new list that stays -/
theorem x_lst {vs : List V} {ds : List PyData} (W : Wd K S H O) (hd : DpAll K S vs ds) (hl : vs.length ≤ 1000000) (k : ∀ S' H' v, Wd K S' H' O → Same S S' → Dp K S' v (.list ds) → Q v H') : NewL Q vs H :=
  ⟨sz hl, fun p hp => k _ _ _ (W.new hp) (same_new (W.frS hp)) (.lst (.inl (.inl upd_same)) (dpAll_mono (same_new (W.frS hp)) hd))⟩
theorem x_lst' {vs : List V} {ds : List PyData} (W : Wd K S H O) (hd : DpAll K S vs ds) (k : ∀ S' H' v, Wd K S' H' O → Same S S' → Dp K S' v (.list ds) → Q v H') :
    ∀ p, H p = none → Q (.ref p) (upd H p (.lst vs)) :=
  fun p hp => k _ _ _ (W.new hp) (same_new (W.frS hp)) (.lst (.inl (.inl upd_same)) (dpAll_mono (same_new (W.frS hp)) hd))
/-- a new list that is ours -/
theorem x_own {vs : List V} (W : Wd K S H O) (hl : vs.length ≤ 1000000) (k : ∀ p H', Wd K S H' ((p, .lst vs) :: O) → Q (.ref p) H') : NewL Q vs H := ⟨sz hl, fun p hp => k p _ (W.alloc hp)⟩
theorem x_own' {vs : List V} {o : HO} (W : Wd K S H O) (k : ∀ p H', Wd K S H' ((p, o) :: O) → Q (.ref p) H') :
    ∀ p, H p = none → Q (.ref p) (upd H p o) := fun p hp => k p _ (W.alloc hp)

/-! ### items -/
theorem atI_of {α : Type} {xs : List α} {i : Int} {x : α} (h0 : 0 ≤ i) (h : xs[i.toNat]? = some x) : atI xs i = some x := by
  have e : i = ((i.toNat : Nat) : Int) := by omega
  rw [e]
  exact atI_nat h
theorem atI_map {α β : Type} [Inhabited α] {xs : List α} {f : α → β} {i : Int} (h0 : 0 ≤ i) (h : i < xs.length) : atI (xs.map f) i = some (f (nth xs i)) := by
  refine atI_of h0 ?_
  rw [List.getElem?_map, nth_get h0 h]
  rfl
theorem atI_nth {α : Type} [Inhabited α] {xs : List α} {i : Int} (h0 : 0 ≤ i) (h : i < xs.length) : atI xs i = some (nth xs i) := atI_of h0 (nth_get h0 h)
theorem ixN_of {n : Nat} {i : Int} (h0 : 0 ≤ i) (h : i < n) : ixN n i = some i.toNat := by
  unfold ixN
  rw [if_pos h0, if_pos h]
theorem dp_at {vs : List V} {ds : List PyData} {i : Int} {d : PyData} (h : DpAll K S vs ds) (hi : atI ds i = some d) : ∃ u, atI vs i = some u ∧ Dp K S u d := by
  unfold atI at hi ⊢
  rw [dpAll_len h]
  cases e : ixN ds.length i with
  | none => rw [e] at hi; cases hi
  | some j =>
    rw [e] at hi
    exact dpAll_get h hi
theorem x_ixT {ds : List PyData} {i : Int} {d : PyData} (W : Wd K S H O) (h : Dp K S x (.tuple ds)) (hi : atI ds i = some d) (k : Kn K S d fun u => Q u H) : rIx K x (.int i) H Q := by
  obtain ⟨a, vs, rfl, hq, ha⟩ := dp_tup_ex h
  obtain ⟨u, hu, hd⟩ := dp_at ha hi
  exact .inr (.inl ⟨a, vs, i, u, rfl, rfl, W.tup hq, hu, k.of u hd⟩)
theorem x_ixL {ds : List PyData} {i : Int} {d : PyData} (W : Wd K S H O) (h : Dp K S x (.list ds)) (hi : atI ds i = some d) (k : Kn K S d fun u => Q u H) : rIx K x (.int i) H Q := by
  obtain ⟨a, vs, rfl, hq, ha⟩ := dp_lst_ex h
  obtain ⟨u, hu, hd⟩ := dp_at ha hi
  exact .inl ⟨a, vs, i, u, rfl, rfl, W.lst hq, hu, k.of u hd⟩
/-- of one of ours -/
theorem x_ixO {p : Addr} {vs : List V} {i : Int} {u : V} (n : Nat) (W : Wd K S H O) (h : O[n]? = some (p, .lst vs)) (hi : atI vs i = some u) (k : Q u H) : rIx K (.ref p) (.int i) H Q :=
  .inl ⟨p, vs, i, u, rfl, rfl, .of (W.at n h), hi, k⟩
theorem x_setO {p : Addr} {vs : List V} {i : Int} {j : Nat} {Q : Hp → Prop} (n : Nat) (W : Wd K S H O) (h : O[n]? = some (p, .lst vs)) (hi : ixN vs.length i = some j)
    (k : ∀ H', Wd K S H' (O.set n (p, .lst (vs.set j v))) → Q H') : rSetL (.ref p) (.int i) v H Q :=
  ⟨p, vs, i, j, rfl, rfl, W.at n h, hi, k _ (W.put n h)⟩
theorem tyV_own {p : Addr} {vs : List V} (n : Nat) (W : Wd K S H O) (h : O[n]? = some (p, .lst vs)) : tyV K "list" (.ref p) H := .inl ⟨rfl, vs, .of (W.at n h)⟩
theorem tyV_dp {ds : List PyData} (W : Wd K S H O) (h : Dp K S x (.list ds)) : tyV K "list" x H := by
  obtain ⟨a, vs, rfl, hq, ha⟩ := dp_lst_ex h
  exact .inl ⟨rfl, vs, W.lst hq⟩
theorem x_app {p : Addr} {vs : List V} (n : Nat) (W : Wd K S H O) (h : O[n]? = some (p, .lst vs)) (hl : vs.length ≤ 1000000) (k : ∀ H', Wd K S H' (O.set n (p, .lst (vs ++ [v]))) → Q .non H') :
    rAppend (.ref p) [v] H Q := ⟨p, vs, v, rfl, rfl, W.at n h, szl hl, k _ (W.put n h)⟩
theorem x_pop {p : Addr} {vs : List V} (n : Nat) (W : Wd K S H O) (h : O[n]? = some (p, .lst vs)) (hu : vs[vs.length - 1]? = some v) (k : ∀ H', Wd K S H' (O.set n (p, .lst vs.dropLast)) → Q v H') :
    rPop (.ref p) [] H Q := ⟨p, vs, v, rfl, rfl, W.at n h, hu, k _ (W.put n h)⟩

/-! ### built-ins -/
theorem x_len {ds : List PyData} (W : Wd K S H O) (h : Dp K S x (.list ds)) (q : Q (.int ds.length) H) : rLen K [x] H Q := by
  obtain ⟨a, vs, rfl, hq, ha⟩ := dp_lst_ex h
  exact ⟨a, vs, rfl, .inl (W.lst hq), by rw [dpAll_len ha]; exact q⟩
theorem x_lenT {ds : List PyData} (W : Wd K S H O) (h : Dp K S x (.tuple ds)) (q : Q (.int ds.length) H) : rLen K [x] H Q := by
  obtain ⟨a, vs, rfl, hq, ha⟩ := dp_tup_ex h
  exact ⟨a, vs, rfl, .inr (W.tup hq), by rw [dpAll_len ha]; exact q⟩
theorem x_lenO {p : Addr} {vs : List V} (n : Nat) (W : Wd K S H O) (h : O[n]? = some (p, .lst vs)) (q : Q (.int vs.length) H) : rLen K [.ref p] H Q := ⟨p, vs, rfl, .inl (.of (W.at n h)), q⟩
theorem x_sum {ns : List Int} (W : Wd K S H O) (h : Dp K S x (.list (ns.map PyData.int))) (q : Q (.int ns.sum) H) : rSum K [x] H Q := by
  obtain ⟨a, vs, rfl, hq, ha⟩ := dp_lst_ex h
  rw [ints_of ha] at hq
  exact ⟨a, ns, rfl, W.lst hq, q⟩
theorem x_all {bs : List Bool} (W : Wd K S H O) (h : Dp K S x (.list (bs.map PyData.bool))) (q : Q (.bl (bs.all id)) H) : rAll K [x] H Q := by
  obtain ⟨a, vs, rfl, hq, ha⟩ := dp_lst_ex h
  rw [bools_of ha] at hq
  exact ⟨a, bs, rfl, W.lst hq, q⟩
theorem x_any {bs : List Bool} (W : Wd K S H O) (h : Dp K S x (.list (bs.map PyData.bool))) (q : Q (.bl (bs.any id)) H) : rAny K [x] H Q := by
  obtain ⟨a, vs, rfl, hq, ha⟩ := dp_lst_ex h
  rw [bools_of ha] at hq
  exact ⟨a, bs, rfl, W.lst hq, q⟩
theorem x_abs (q : Q (.int (if a < 0 then -a else a)) H) : rAbs [.int a] H Q := ⟨a, rfl, q⟩
theorem x_max2 (q : Q (.int (if b > a then b else a)) H) : rMx2 [.int a, .int b] H Q := ⟨a, b, rfl, q⟩
theorem x_intB {c : Bool} (q : Q (.int (if c then 1 else 0)) H) : rInt1 [.bl c] H Q := .inr ⟨c, rfl, q⟩
/-- list(x) of a list: a new one that stays, or that is ours -/
theorem x_listS {ds : List PyData} (W : Wd K S H O) (h : Dp K S x (.list ds)) (k : ∀ S' H' v, Wd K S' H' O → Same S S' → Dp K S' v (.list ds) → Q v H') : rLst K [x] H Q := by
  obtain ⟨a, vs, rfl, hq, ha⟩ := dp_lst_ex h
  exact ⟨a, vs, rfl, .inl (W.lst hq), x_lst' W ha k⟩
theorem x_listO {ds : List PyData} (W : Wd K S H O) (h : Dp K S x (.list ds)) (k : ∀ p vs H', DpAll K S vs ds → Wd K S H' ((p, .lst vs) :: O) → Q (.ref p) H') : rLst K [x] H Q := by
  obtain ⟨a, vs, rfl, hq, ha⟩ := dp_lst_ex h
  exact ⟨a, vs, rfl, .inl (W.lst hq), fun l hl => k l vs _ ha (W.alloc hl)⟩
theorem x_tr (h : ta σ H fun x H1 => TruQ K QT x H1) : tTr K ta σ H QT := h
theorem x_truB {c : Bool} (q : QT c H) : TruQ K QT (.bl c) H := ⟨_, rfl, q⟩
/-- truth of a list -/
theorem x_truL {ds : List PyData} (W : Wd K S H O) (h : Dp K S x (.list ds)) (q : QT (!ds.isEmpty) H) : TruQ K QT x H := by
  obtain ⟨a, vs, rfl, hq, ha⟩ := dp_lst_ex h
  refine ⟨_, .inl ⟨vs, W.lst hq, rfl⟩, ?_⟩
  have e : vs.isEmpty = ds.isEmpty := by
    have := dpAll_len ha
    cases vs <;> cases ds <;> simp_all
  rw [e]
  exact q
theorem x_truO {p : Addr} {vs : List V} (n : Nat) (W : Wd K S H O) (h : O[n]? = some (p, .lst vs)) (q : QT (!vs.isEmpty) H) : TruQ K QT (.ref p) H :=
  ⟨_, .inl ⟨vs, .of (W.at n h), rfl⟩, q⟩
/-! ### isinstance of data -/
theorem tyx_lst {ds : List PyData} (W : Wd K S H O) (h : Dp K S x (.list ds)) : TyX K H x (.type "list") := by
  obtain ⟨a, vs, rfl, hq, ha⟩ := dp_lst_ex h
  rcases W.lst hq with (e | ⟨o, e⟩) | ⟨o, its, n, e, c, _⟩
  · exact .base (.lst e)
  · exact .base (.frz e)
  · exact .kList e c
theorem tyx_tup {ds : List PyData} (W : Wd K S H O) (h : Dp K S x (.tuple ds)) : TyX K H x (.type "tuple") := by
  obtain ⟨a, vs, rfl, hq, ha⟩ := dp_tup_ex h
  rcases W.tup hq with (e | ⟨o, e⟩) | ⟨o, its, n, e, c, _⟩
  · exact .base (.tup e)
  · exact .fTuple e
  · exact .kTuple e c
theorem x_isi {t : Value} {n : String} {b : Bool} (h : TyX K H x t) (hk : PySem.W.kitOne K t (.type n) = some b) (q : Q (.bl b) H) : rIsi K [x, .ty n] H Q := ⟨x, .ty n, t, .type n, b, rfl, .ty n, h, hk, q⟩
theorem x_isiI {n : String} {b : Bool} (hk : kitB "int" n = some b) (q : Q (.bl b) H) : rIsi K [.int a, .ty n] H Q := x_isi (.base (.int a)) (kit_ty hk) q
theorem x_isiB {n : String} {b c : Bool} (hk : kitB "bool" n = some b) (q : Q (.bl b) H) : rIsi K [.bl c, .ty n] H Q := x_isi (.base (.bl c)) (kit_ty hk) q
theorem x_isiN {n : String} {b : Bool} (hk : kitB "NoneType" n = some b) (q : Q (.bl b) H) : rIsi K [.non, .ty n] H Q := x_isi (.base .non) (kit_ty hk) q
theorem x_isiS {n : String} {b : Bool} {z : Str} (hk : kitB "str" n = some b) (q : Q (.bl b) H) : rIsi K [.str z, .ty n] H Q := x_isi (.base (.str z)) (kit_ty hk) q
theorem x_isiL {n : String} {b : Bool} {ds : List PyData} (W : Wd K S H O) (h : Dp K S x (.list ds)) (hk : kitB "list" n = some b) (q : Q (.bl b) H) : rIsi K [x, .ty n] H Q := x_isi (tyx_lst W h) (kit_ty hk) q
theorem x_isiT {n : String} {b : Bool} {ds : List PyData} (W : Wd K S H O) (h : Dp K S x (.tuple ds)) (hk : kitB "tuple" n = some b) (q : Q (.bl b) H) : rIsi K [x, .ty n] H Q := x_isi (tyx_tup W h) (kit_ty hk) q
end
/-- isinstance of the exception that the suite holds, its class told by the reading -/
def rIsX (K : PySem.W.Frag) (cls : Value) (d : Option Addr) (a : Addr) : List V → Hp → VK → Prop := fun xs H Q => ∃ (D : Addr) (c : V) (cv : Value) (b : Bool),
  cls = .ref D ∧ d = none ∧ ExcC K D ∧ xs = [.ref a, c] ∧ (∀ u, RelV c u → u = cv) ∧ PySem.W.kitOne K (.ref D) cv = some b ∧ Q (.bl b) H
theorem call_isX {X : Cx} {a : Addr} {oe : Obj} {cls : Value} {d : Option Addr} {pn : List (Addr × Obj)} (hz : Zc cls d oe) (hf : ∃ vs, oe.data = .fields vs) : CallR (X.suite a ((a, oe) :: pn)) (.builtin "isinstance") (rIsX X.K cls d a) := by
  intro pins s σ H xs us Q I r h
  obtain ⟨D, c, cv, b, rfl, rfl, C, e1, e2, e3, q⟩ := h
  exact call_isE C hz hf pins s σ H xs us Q I r ⟨c, cv, b, e1, e2, e3, q⟩
end SB
/-! Loops and comprehensions. -/
namespace SB
open PySem PySem.Spec PyProof.Rows L2
section
variable {K : PySem.W.Frag} {S H : Hp} {O : List (Addr × HO)} {σ : L2.St} {Q : VK} {x y v : V} {D : Ends}
  {nx bk ct : L2.St → Hp → Prop} {rt : VK} {tt tc : TT} {tb : TS} {g : TG} {te tl : TE} {ta : TA} {vs : List Nat}

/-! ### while -/
/-- a turn of a while: n is its number -/
def Again (J : Nat → L2.St → Hp → Prop) (n : Nat) (tb : TS) (D : Ends) (σ : L2.St) (H : Hp) : Prop :=
  ∃ N : L2.St → Hp → Prop, (∀ σ' H', N σ' H' → ∃ m', m' < n ∧ J m' σ' H') ∧ tb ⟨N, D.rt, D.nx, N⟩ σ H
theorem x_again {J : Nat → L2.St → Hp → Prop} {n : Nat} (h : tb ⟨fun σ' H' => ∃ m', m' < n ∧ J m' σ' H', rt, nx, fun σ' H' => ∃ m', m' < n ∧ J m' σ' H'⟩ σ H) : Again J n tb ⟨nx, rt, bk, ct⟩ σ H := ⟨_, fun _ _ h => h, h⟩
theorem x_while (J : Nat → L2.St → Hp → Prop) (m : Nat) (h0 : J m σ H) (hs : ∀ n σ' H', J n σ' H' → tc σ' H' fun b H1 => if b = true then Again J n tb ⟨nx, rt, bk, ct⟩ σ' H1 else nx σ' H1) :
    tWhile tc tb ⟨nx, rt, bk, ct⟩ σ H := ⟨J, ⟨m, h0⟩, hs⟩

/-! ### for -/
/-- the loop when its iterable's value has come -/
def ForL (K : PySem.W.Frag) (g : TG) (tb : TS) (D : Ends) (x : V) (σ : L2.St) (H : Hp) : Prop := ∃ a, x = .ref a ∧ (∃ xs, SqL K H a xs) ∧ ∃ W : Nat → Nat → L2.St → Hp → Prop, (∃ m, W 0 m σ H) ∧ ∀ i m σ H, W i m σ H →
  ((Itl K a).stop i H ∧ D.nx σ H) ∨ ((Itl K a).go i H ∧ ∃ N : L2.St → Hp → Prop, (∀ σ' H', N σ' H' → ∃ m', m' < m ∧ W (i + 1) m' σ' H') ∧ ∀ x H', (Itl K a).yld i H x H' → g x σ H' fun σ2 H2 => tb { D with nx := N, ct := N, bk := D.nx } σ2 H2)
theorem x_for (h : tl σ H fun x H1 => ForL K g tb D x σ H1) : tFor (iList K tl) g tb D σ H := h
theorem x_forV {a : Addr} {ys : List V} (J : Nat → L2.St → Hp → Prop) (h0 : J 0 σ H) (hq : ∀ i σ' H', J i σ' H' → SqL K H' a ys)
    (hs : ∀ i y σ' H', ys[i]? = some y → J i σ' H' → g y σ' H' fun σ2 H2 => tb ⟨J (i + 1), rt, nx, J (i + 1)⟩ σ2 H2) (hd : ∀ σ' H', J ys.length σ' H' → nx σ' H') : ForL K g tb ⟨nx, rt, bk, ct⟩ (.ref a) σ H :=
  ⟨a, rfl, ⟨ys, hq 0 σ H h0⟩, for_list (K := K) (a := a) (xs := ys) (D := ⟨nx, rt, bk, ct⟩) J h0 (fun i σ' H' _ h => hq i σ' H' h) hs hd⟩
theorem x_forD {α : Type} {xs : List α} {f : α → PyData} (hv : Dp K S x (.list (xs.map f))) (J : Nat → L2.St → Hp → Prop) (h0 : J 0 σ H) (hq : ∀ i σ' H', J i σ' H' → Same S H')
    (hs : ∀ i z σ' H', xs[i]? = some z → J i σ' H' → Kn K S (f z) fun u => g u σ' H' fun σ2 H2 => tb ⟨J (i + 1), rt, nx, J (i + 1)⟩ σ2 H2) (hd : ∀ σ' H', J xs.length σ' H' → nx σ' H') : ForL K g tb ⟨nx, rt, bk, ct⟩ x σ H := by
  obtain ⟨a, us, rfl, hq', ha⟩ := dp_lst_ex hv
  have hl : us.length = xs.length := by rw [dpAll_len ha, List.length_map]
  refine x_forV (ys := us) J h0 (fun i σ' H' h => (hq i σ' H' h).seq hq') (fun i y σ' H' hy h => ?_) (fun σ' H' h => hd σ' H' (hl ▸ h))
  obtain ⟨dd, hd1, hd2⟩ := dpAll_get' ha hy
  rw [List.getElem?_map] at hd1
  cases e : xs[i]? with
  | none => rw [e] at hd1; cases hd1
  | some z =>
    rw [e] at hd1
    cases hd1
    exact (hs i z σ' H' e h).of y hd2
/-- over range(n) -/
def ForR (g : TG) (tb : TS) (D : Ends) (us : List V) (σ : L2.St) (H : Hp) : Prop := ∃ j : Int, us = [.int j] ∧ -(2 ^ 62) ≤ j ∧ j < 2 ^ 62 ∧ ∃ W : Nat → Nat → L2.St → Hp → Prop, (∃ m, W 0 m σ H) ∧ ∀ i m σ H, W i m σ H →
  ((Itr 0 j.toNat).stop i H ∧ D.nx σ H) ∨ ((Itr 0 j.toNat).go i H ∧ ∃ N : L2.St → Hp → Prop, (∀ σ' H', N σ' H' → ∃ m', m' < m ∧ W (i + 1) m' σ' H') ∧ ∀ x H', (Itr 0 j.toNat).yld i H x H' → g x σ H' fun σ2 H2 => tb { D with nx := N, ct := N, bk := D.nx } σ2 H2)
theorem x_forr (h : ta σ H fun us H1 => ForR g tb D us σ H1) : tFor (iRng1 ta) g tb D σ H := h
theorem x_forN {j : Int} (J : Nat → L2.St → Hp → Prop) (hj : j < 2 ^ 62 ∧ -(2 ^ 62) ≤ j) (h0 : J 0 σ H)
    (hs : ∀ (i : Nat) σ' H', i < j.toNat → J i σ' H' → g (.int (i : Int)) σ' H' fun σ2 H2 => tb ⟨J (i + 1), rt, nx, J (i + 1)⟩ σ2 H2) (hd : ∀ σ' H', J j.toNat σ' H' → nx σ' H') : ForR g tb ⟨nx, rt, bk, ct⟩ [.int j] σ H :=
  ⟨j, rfl, hj.2, hj.1, for_range (lo := 0) (n := j.toNat) (D := ⟨nx, rt, bk, ct⟩) J h0 (fun i σ' H' hi h => by rw [Int.zero_add]; exact hs i σ' H' hi h) hd⟩
/-- over zip(xs, ys) -/
def ForZ (K : PySem.W.Frag) (g : TG) (tb : TS) (D : Ends) (us : List V) (σ : L2.St) (H : Hp) : Prop := ∃ a b xs ys, us = [.ref a, .ref b] ∧ SqL K H a xs ∧ SqL K H b ys ∧ ∃ W : Nat → Nat → L2.St → Hp → Prop, (∃ m, W 0 m σ H) ∧ ∀ i m σ H, W i m σ H →
  ((Itz K a b).stop i H ∧ D.nx σ H) ∨ ((Itz K a b).go i H ∧ ∃ N : L2.St → Hp → Prop, (∀ σ' H', N σ' H' → ∃ m', m' < m ∧ W (i + 1) m' σ' H') ∧ ∀ x H', (Itz K a b).yld i H x H' → g x σ H' fun σ2 H2 => tb { D with nx := N, ct := N, bk := D.nx } σ2 H2)
theorem x_forz (h : ta σ H fun us H1 => ForZ K g tb D us σ H1) : tFor (iZip K ta) g tb D σ H := h
theorem x_forZ {α β : Type} {xs : List α} {ys : List β} {f : α → PyData} {h : β → PyData} {p q : Nat} {bs : V}
    (hx : Dp K S x (.list (xs.map f))) (hy : Dp K S y (.list (ys.map h))) (hl : xs.length = ys.length) (J : Nat → L2.St → Hp → Prop) (h0 : J 0 σ H) (hq : ∀ i σ' H', J i σ' H' → Same S H')
    (hs : ∀ i z w σ' H' T, xs[i]? = some z → ys[i]? = some w → J i σ' H' → H' T = none → Kn K S (f z) fun u => Kn K S (h w) fun v => tb ⟨J (i + 1), rt, nx, J (i + 1)⟩ ((σ'.set p (some u)).set q (some v)) (upd H' T (.tup [u, v])))
    (hd : ∀ σ' H', J xs.length σ' H' → nx σ' H') : ForZ K (gTup K 2 (gCons (gName p) (gCons (gName q) gNil))) tb ⟨nx, rt, bk, ct⟩ [x, y] σ H := by
  obtain ⟨a, us, rfl, hq1, ha⟩ := dp_lst_ex hx
  obtain ⟨b, ws, rfl, hq2, hb⟩ := dp_lst_ex hy
  have l1 : us.length = xs.length := by rw [dpAll_len ha, List.length_map]
  have l2 : ws.length = ys.length := by rw [dpAll_len hb, List.length_map]
  refine ⟨a, b, us, ws, rfl, (hq 0 σ H h0).seq hq1, (hq 0 σ H h0).seq hq2, RZ.for_zipL (K := K) (a := a) (b := b) (xs := us) (ys := ws) (D := ⟨nx, rt, bk, ct⟩) (by omega) J h0 (fun i σ' H' h => ⟨(hq i σ' H' h).seq hq1, (hq i σ' H' h).seq hq2⟩) (fun i u w T σ' H' e1 e2 hJ hT => ?_) (fun σ' H' h => hd σ' H' (l1 ▸ h))⟩
  obtain ⟨d1, g1, r1⟩ := dpAll_get' ha e1
  obtain ⟨d2, g2, r2⟩ := dpAll_get' hb e2
  rw [List.getElem?_map] at g1 g2
  cases c1 : xs[i]? with
  | none => rw [c1] at g1; cases g1
  | some z =>
    cases c2 : ys[i]? with
    | none => rw [c2] at g2; cases g2
    | some z2 =>
      rw [c1] at g1
      rw [c2] at g2
      cases g1
      cases g2
      refine ⟨T, [u, w], rfl, .inl (.inl upd_same), rfl, u, [w], rfl, w, [], rfl, rfl, ?_⟩
      exact ((hs i z z2 σ' H' T c1 c2 hJ hT).of u r1).of w r2
/-- over a tuple -/
def ForT (K : PySem.W.Frag) (g : TG) (tb : TS) (D : Ends) (x : V) (σ : L2.St) (H : Hp) : Prop := ∃ a, x = .ref a ∧ (∃ xs, SqT K H a xs) ∧ ∃ W : Nat → Nat → L2.St → Hp → Prop, (∃ m, W 0 m σ H) ∧ ∀ i m σ H, W i m σ H →
  ((Itt K a).stop i H ∧ D.nx σ H) ∨ ((Itt K a).go i H ∧ ∃ N : L2.St → Hp → Prop, (∀ σ' H', N σ' H' → ∃ m', m' < m ∧ W (i + 1) m' σ' H') ∧ ∀ x H', (Itt K a).yld i H x H' → g x σ H' fun σ2 H2 => tb { D with nx := N, ct := N, bk := D.nx } σ2 H2)
theorem x_fort (h : tl σ H fun x H1 => ForT K g tb D x σ H1) : tFor (iTup K tl) g tb D σ H := h
theorem x_forT {α : Type} {xs : List α} {f : α → PyData} (hv : Dp K S x (.tuple (xs.map f))) (J : Nat → L2.St → Hp → Prop) (h0 : J 0 σ H) (hq : ∀ i σ' H', J i σ' H' → Same S H')
    (hs : ∀ i z σ' H', xs[i]? = some z → J i σ' H' → Kn K S (f z) fun u => g u σ' H' fun σ2 H2 => tb ⟨J (i + 1), rt, nx, J (i + 1)⟩ σ2 H2) (hd : ∀ σ' H', J xs.length σ' H' → nx σ' H') : ForT K g tb ⟨nx, rt, bk, ct⟩ x σ H := by
  obtain ⟨a, us, rfl, hq', ha⟩ := dp_tup_ex hv
  have hl : us.length = xs.length := by rw [dpAll_len ha, List.length_map]
  refine ⟨a, rfl, ⟨us, same_t (hq 0 σ H h0) hq'⟩, for_tup (K := K) (a := a) (xs := us) (D := ⟨nx, rt, bk, ct⟩) J h0 (fun i σ' H' _ h => same_t (hq i σ' H' h) hq') (fun i y σ' H' hy h => ?_) (fun σ' H' h => hd σ' H' (hl ▸ h))⟩
  obtain ⟨dd, hd1, hd2⟩ := dpAll_get' ha hy
  rw [List.getElem?_map] at hd1
  cases e : xs[i]? with
  | none => rw [e] at hd1; cases hd1
  | some z =>
    rw [e] at hd1
    cases hd1
    exact (hs i z σ' H' e h).of y hd2

/-! ### comprehensions -/
/-- an element that is taken, one that is not -/
def LcY (K : PySem.W.Frag) (S : Hp) (O : List (Addr × HO)) (R : Addr) (acc : List V) (o : Option PyData) (y : V) (H : Hp) : Prop :=
  ∃ S' d, o = some d ∧ Wd K S' H ((R, .lst acc) :: O) ∧ Same S S' ∧ Dp K S' y d
def LcN (K : PySem.W.Frag) (S : Hp) (O : List (Addr × HO)) (R : Addr) (acc : List V) (o : Option PyData) (H : Hp) : Prop :=
  o = none ∧ ∃ S', Wd K S' H ((R, .lst acc) :: O) ∧ Same S S'
theorem lc_y {R : Addr} {acc : List V} {o : Option PyData} {S' : Hp} {d : PyData} (h : o = some d) (W : Wd K S' H ((R, .lst acc) :: O)) (hs : Same S S') (hd : Dp K S' y d) : LcY K S O R acc o y H := ⟨S', d, h, W, hs, hd⟩
theorem lc_n {R : Addr} {acc : List V} {o : Option PyData} {S' : Hp} (h : o = none) (W : Wd K S' H ((R, .lst acc) :: O)) (hs : Same S S') : LcN K S O R acc o H := ⟨h, S', W, hs⟩
/-- what the new list holds behind i elements -/
def LcP (K : PySem.W.Frag) {α : Type} (xs : List α) (fr : α → Option PyData) (S : Hp) (O : List (Addr × HO)) (R : Addr) : Nat → Hp → Prop := fun i H =>
  ∃ S' acc, Wd K S' H ((R, .lst acc) :: O) ∧ Same S S' ∧ DpAll K S' acc ((xs.take i).filterMap fr)
theorem lcP_turn {α : Type} {xs : List α} {fr : α → Option PyData} {R : Addr} {i : Nat} {z : α} (hlen : xs.length ≤ 1000000) (hz : xs[i]? = some z) {S' : Hp} {acc : List V} (hS : Same S S') (hA : DpAll K S' acc ((xs.take i).filterMap fr)) :
    (∀ y H4, LcY K S' O R acc (fr z) y H4 → ∃ acc', H4 R = some (.lst acc') ∧ acc'.length < sizeLine ∧ LcP K xs fr S O R (i + 1) (upd H4 R (.lst (acc' ++ [y])))) ∧
    (∀ H3, LcN K S' O R acc (fr z) H3 → LcP K xs fr S O R (i + 1) H3) := by
  have hi : i < xs.length := (List.getElem?_eq_some_iff.mp hz).1
  have ht : xs.take (i + 1) = xs.take i ++ [z] := by
    rw [List.take_add_one, hz]
    rfl
  constructor
  · rintro y H4 ⟨S4, dd, e, W4, hS4, hd⟩
    refine ⟨acc, W4.at 0 rfl, ?_, S4, acc ++ [y], W4.put 0 rfl, hS.trans hS4, ?_⟩
    · have := dpAll_len hA
      have l2 := List.length_filterMap_le fr (xs.take i)
      rw [List.length_take] at l2
      exact szl (by omega)
    · rw [ht, List.filterMap_append]
      have : List.filterMap fr [z] = [dd] := by simp [e]
      rw [this]
      exact dpAll_app (dpAll_mono hS4 hA) hd
  · rintro H3 ⟨e, S3, W3, hS3⟩
    refine ⟨S3, acc, W3, hS.trans hS3, ?_⟩
    rw [ht, List.filterMap_append]
    have : List.filterMap fr [z] = [] := by simp [e]
    rw [this, List.append_nil]
    exact dpAll_mono hS3 hA
/-- how a turn of a comprehension may end -/
def EndY (R : Addr) (N : Hp → Prop) (y : V) (H : Hp) : Prop := ∃ acc, H R = some (.lst acc) ∧ acc.length < sizeLine ∧ N (upd H R (.lst (acc ++ [y])))
structure LcE (K : PySem.W.Frag) (S : Hp) (O : List (Addr × HO)) (R : Addr) (acc : List V) (o : Option PyData) (N : Hp → Prop) : Prop where
  yes : ∀ y H, LcY K S O R acc o y H → EndY R N y H
  no : ∀ H, LcN K S O R acc o H → N H
theorem lce_y {R : Addr} {acc : List V} {o : Option PyData} {N : Hp → Prop} {S' : Hp} {d : PyData} (E : LcE K S O R acc o N) (W : Wd K S' H ((R, .lst acc) :: O)) (hs : Same S S') (hd : Dp K S' y d) (h : o = some d) : EndY R N y H := E.yes _ _ ⟨S', d, h, W, hs, hd⟩
theorem lce_n {R : Addr} {acc : List V} {o : Option PyData} {N : Hp → Prop} {S' : Hp} (E : LcE K S O R acc o N) (W : Wd K S' H ((R, .lst acc) :: O)) (hs : Same S S') (h : o = none) : N H := E.no _ ⟨h, S', W, hs⟩
theorem lcE_of {α : Type} {xs : List α} {fr : α → Option PyData} {R : Addr} {i : Nat} {z : α} (hlen : xs.length ≤ 1000000) (hz : xs[i]? = some z) {S' : Hp} {acc : List V} (hS : Same S S') (hA : DpAll K S' acc ((xs.take i).filterMap fr)) :
    LcE K S' O R acc (fr z) (LcP K xs fr S O R (i + 1)) := ⟨(lcP_turn hlen hz hS hA).1, (lcP_turn hlen hz hS hA).2⟩
/-- the body of a comprehension for an element's value u -/
def LcB (g : TG) (tt : TT) (te : TE) (vs : List Nat) (σ : L2.St) (R : Addr) (N : Hp → Prop) (u : V) (H : Hp) : Prop :=
  g u (wipe σ vs) H fun σ2 H2 => wipe σ2 vs = wipe σ vs ∧ tt σ2 H2 fun b H3 => if b = true then te σ2 H3 fun y H4 => EndY R N y H4 else N H3
theorem x_lcb {R : Addr} {N : Hp → Prop} {j : Nat} (h : tt ((wipe σ vs).set j (some x)) H fun b H3 => if b = true then te ((wipe σ vs).set j (some x)) H3 fun y H4 => EndY R N y H4 else N H3)
    (e : wipe ((wipe σ vs).set j (some x)) vs = wipe σ vs := by rfl) : LcB (gName j) tt te vs σ R N x H := ⟨e, h⟩
theorem x_yes {Q : Bool → Hp → Prop} (h : Q true H) : tYes σ H Q := h
/-- over a list -/
def LcL (K : PySem.W.Frag) (g : TG) (tt : TT) (te : TE) (vs : List Nat) (σ : L2.St) (Q : VK) (x : V) (H : Hp) : Prop := ∃ a, x = .ref a ∧ (∃ xs, SqL K H a xs) ∧ ∀ R, H R = none → ∃ W : Nat → Nat → Hp → Prop, (∃ m, W 0 m (upd H R (.lst []))) ∧ ∀ i m H, W i m H →
  ((Itl K a).stop i H ∧ Q (.ref R) H) ∨ ((Itl K a).go i H ∧ ∃ Nx : Hp → Prop, (∀ H', Nx H' → ∃ m', m' < m ∧ W (i + 1) m' H') ∧ ∀ x H', (Itl K a).yld i H x H' → g x (wipe σ vs) H' fun σ2 H2 => wipe σ2 vs = wipe σ vs ∧ tt σ2 H2 fun b H3 =>
    if b = true then te σ2 H3 fun y H4 => ∃ acc, H4 R = some (.lst acc) ∧ acc.length < sizeLine ∧ Nx (upd H4 R (.lst (acc ++ [y]))) else Nx H3)
theorem x_lcl (h : tl σ H fun x H1 => LcL K g tt te vs σ Q x H1) : tLc (iList K tl) g tt te vs σ H Q := h
/-- the new list is ours at the end -/
theorem lc_listO {α : Type} {xs : List α} {f : α → PyData} (fr : α → Option PyData) (W : Wd K S H O) (hv : Dp K S x (.list (xs.map f))) (hlen : xs.length ≤ 1000000)
    (hs : ∀ z S' H' R acc N, z ∈ xs → Wd K S' H' ((R, .lst acc) :: O) → Same S S' → LcE K S' O R acc (fr z) N → Kn K S' (f z) fun u => LcB g tt te vs σ R N u H')
    (k : ∀ S' H' R acc, Wd K S' H' ((R, .lst acc) :: O) → Same S S' → DpAll K S' acc (xs.filterMap fr) → Q (.ref R) H') : LcL K g tt te vs σ Q x H := by
  obtain ⟨a, us, rfl, hq', ha⟩ := dp_lst_ex hv
  have hl : us.length = xs.length := by rw [dpAll_len ha, List.length_map]
  refine ⟨a, rfl, ⟨us, W.lst hq'⟩, fun R hR => lc_list (K := K) (a := a) (xs := us) (Qd := fun H' => Q (.ref R) H') (LcP K xs fr S O R) ⟨S, [], W.alloc hR, Same.refl S, by simp; exact .nil⟩ (fun i H' _ ⟨S', acc, W', hS, hA⟩ => W'.lst (hS.seq hq')) (fun i y H' hy ⟨S', acc, W', hS, hA⟩ => ?_) (fun H' ⟨S', acc, W', hS, hA⟩ => ?_)⟩
  · obtain ⟨dd, hd1, hd2⟩ := dpAll_get' ha hy
    rw [List.getElem?_map] at hd1
    cases e : xs[i]? with
    | none => rw [e] at hd1; cases hd1
    | some z =>
      rw [e] at hd1
      cases hd1
      exact (hs z S' H' R acc (LcP K xs fr S O R (i + 1)) (List.mem_of_getElem? e) W' hS (lcE_of hlen e hS hA)).of y (dp_mono hS hd2)
  · rw [hl, List.take_length] at hA
    exact k S' H' R acc W' hS hA
/-- the new list stays -/
theorem lc_listS {α : Type} {xs : List α} {f : α → PyData} (fr : α → Option PyData) (W : Wd K S H O) (hv : Dp K S x (.list (xs.map f))) (hlen : xs.length ≤ 1000000)
    (hs : ∀ z S' H' R acc N, z ∈ xs → Wd K S' H' ((R, .lst acc) :: O) → Same S S' → LcE K S' O R acc (fr z) N → Kn K S' (f z) fun u => LcB g tt te vs σ R N u H')
    (k : ∀ S' H' v, Wd K S' H' O → Same S S' → Dp K S' v (.list (xs.filterMap fr)) → Q v H') : LcL K g tt te vs σ Q x H :=
  lc_listO fr W hv hlen hs fun S' H' R acc W' hS hA => k _ H' _ (W'.give 0 rfl) (hS.trans (same_new (W'.atS 0 rfl))) (dp_give (W'.atS 0 rfl) hA)
/-- over range(n) -/
def LcR (g : TG) (tt : TT) (te : TE) (vs : List Nat) (σ : L2.St) (Q : VK) (us : List V) (H : Hp) : Prop := ∃ j : Int, us = [.int j] ∧ -(2 ^ 62) ≤ j ∧ j < 2 ^ 62 ∧ ∀ R, H R = none → ∃ W : Nat → Nat → Hp → Prop, (∃ m, W 0 m (upd H R (.lst []))) ∧ ∀ i m H, W i m H →
  ((Itr 0 j.toNat).stop i H ∧ Q (.ref R) H) ∨ ((Itr 0 j.toNat).go i H ∧ ∃ Nx : Hp → Prop, (∀ H', Nx H' → ∃ m', m' < m ∧ W (i + 1) m' H') ∧ ∀ x H', (Itr 0 j.toNat).yld i H x H' → g x (wipe σ vs) H' fun σ2 H2 => wipe σ2 vs = wipe σ vs ∧ tt σ2 H2 fun b H3 =>
    if b = true then te σ2 H3 fun y H4 => ∃ acc, H4 R = some (.lst acc) ∧ acc.length < sizeLine ∧ Nx (upd H4 R (.lst (acc ++ [y]))) else Nx H3)
theorem x_lcr (h : ta σ H fun us H1 => LcR g tt te vs σ Q us H1) : tLc (iRng1 ta) g tt te vs σ H Q := h
theorem lc_rangeO {j : Int} (fr : Nat → Option PyData) (W : Wd K S H O) (hj : -(2 ^ 62) ≤ j ∧ j ≤ 1000000)
    (hs : ∀ (z : Nat) S' H' R acc N, z < j.toNat → Wd K S' H' ((R, .lst acc) :: O) → Same S S' → LcE K S' O R acc (fr z) N → LcB g tt te vs σ R N (.int (z : Int)) H')
    (k : ∀ S' H' R acc, Wd K S' H' ((R, .lst acc) :: O) → Same S S' → DpAll K S' acc ((List.range j.toNat).filterMap fr) → Q (.ref R) H') : LcR g tt te vs σ Q [.int j] H := by
  have hn : (List.range j.toNat).length ≤ 1000000 := by rw [List.length_range]; omega
  refine ⟨j, rfl, hj.1, by omega, fun R hR => lc_range (lo := 0) (n := j.toNat) (Qd := fun H' => Q (.ref R) H') (LcP K (List.range j.toNat) fr S O R) ⟨S, [], W.alloc hR, Same.refl S, by simp; exact .nil⟩ (fun i H' hi ⟨S', acc, W', hS, hA⟩ => ?_) (fun H' ⟨S', acc, W', hS, hA⟩ => ?_)⟩
  · have e : (List.range j.toNat)[i]? = some i := List.getElem?_range hi
    rw [Int.zero_add]
    exact hs i S' H' R acc (LcP K (List.range j.toNat) fr S O R (i + 1)) hi W' hS (lcE_of hn e hS hA)
  · rw [List.take_of_length_le (by rw [List.length_range]; exact Nat.le_refl _)] at hA
    exact k S' H' R acc W' hS hA
theorem lc_rangeS {j : Int} (fr : Nat → Option PyData) (W : Wd K S H O) (hj : -(2 ^ 62) ≤ j ∧ j ≤ 1000000)
    (hs : ∀ (z : Nat) S' H' R acc N, z < j.toNat → Wd K S' H' ((R, .lst acc) :: O) → Same S S' → LcE K S' O R acc (fr z) N → LcB g tt te vs σ R N (.int (z : Int)) H')
    (k : ∀ S' H' v, Wd K S' H' O → Same S S' → Dp K S' v (.list ((List.range j.toNat).filterMap fr)) → Q v H') : LcR g tt te vs σ Q [.int j] H :=
  lc_rangeO fr W hj hs fun S' H' R acc W' hS hA => k _ H' _ (W'.give 0 rfl) (hS.trans (same_new (W'.atS 0 rfl))) (dp_give (W'.atS 0 rfl) hA)
/-- over zip(xs, ys), the target two names -/
def LcZ (K : PySem.W.Frag) (g : TG) (tt : TT) (te : TE) (vs : List Nat) (σ : L2.St) (Q : VK) (us : List V) (H : Hp) : Prop := ∃ a b xs ys, us = [.ref a, .ref b] ∧ SqL K H a xs ∧ SqL K H b ys ∧ ∀ R, H R = none → ∃ W : Nat → Nat → Hp → Prop, (∃ m, W 0 m (upd H R (.lst []))) ∧ ∀ i m H, W i m H →
  ((Itz K a b).stop i H ∧ Q (.ref R) H) ∨ ((Itz K a b).go i H ∧ ∃ Nx : Hp → Prop, (∀ H', Nx H' → ∃ m', m' < m ∧ W (i + 1) m' H') ∧ ∀ x H', (Itz K a b).yld i H x H' → g x (wipe σ vs) H' fun σ2 H2 => wipe σ2 vs = wipe σ vs ∧ tt σ2 H2 fun b H3 =>
    if b = true then te σ2 H3 fun y H4 => ∃ acc, H4 R = some (.lst acc) ∧ acc.length < sizeLine ∧ Nx (upd H4 R (.lst (acc ++ [y]))) else Nx H3)
theorem x_lcz (h : ta σ H fun us H1 => LcZ K g tt te vs σ Q us H1) : tLc (iZip K ta) g tt te vs σ H Q := h
theorem lc_zipO {α β : Type} {xs : List α} {ys : List β} {f : α → PyData} {h : β → PyData} {p q : Nat} (fr : α × β → Option PyData) (W : Wd K S H O) (hx : Dp K S x (.list (xs.map f))) (hy : Dp K S y (.list (ys.map h))) (hl : xs.length = ys.length) (hlen : xs.length ≤ 1000000)
    (hs : ∀ z w S' H' R acc N, (z, w) ∈ xs.zip ys → Wd K S' H' ((R, .lst acc) :: O) → Same S S' → LcE K S' O R acc (fr (z, w)) N → Kn K S' (f z) fun u => Kn K S' (h w) fun v =>
      tt (((wipe σ vs).set p (some u)).set q (some v)) H' fun b H3 => if b = true then te (((wipe σ vs).set p (some u)).set q (some v)) H3 fun y H4 => EndY R N y H4 else N H3)
    (k : ∀ S' H' R acc, Wd K S' H' ((R, .lst acc) :: O) → Same S S' → DpAll K S' acc ((xs.zip ys).filterMap fr) → Q (.ref R) H')
    (e : ∀ u v, wipe (((wipe σ vs).set p (some u)).set q (some v)) vs = wipe σ vs := by intros; rfl) : LcZ K (gTup K 2 (gCons (gName p) (gCons (gName q) gNil))) tt te vs σ Q [x, y] H := by
  obtain ⟨a, us, rfl, hq1, ha⟩ := dp_lst_ex hx
  obtain ⟨b, ws, rfl, hq2, hb⟩ := dp_lst_ex hy
  have l1 : us.length = xs.length := by rw [dpAll_len ha, List.length_map]
  have l2 : ws.length = ys.length := by rw [dpAll_len hb, List.length_map]
  have lz : (xs.zip ys).length = xs.length := by rw [List.length_zip]; omega
  refine ⟨a, b, us, ws, rfl, W.lst hq1, W.lst hq2, fun R hR => ⟨fun i m H' => m = xs.length - i ∧ i ≤ xs.length ∧ LcP K (xs.zip ys) fr S O R i H', ⟨xs.length, rfl, Nat.zero_le _, S, [], W.alloc hR, Same.refl S, by simp; exact .nil⟩, ?_⟩⟩
  rintro i m H' ⟨rfl, hi, S', acc, W', hS, hA⟩
  have g1 : SqL K H' a us := W'.lst (hS.seq hq1)
  have g2 : SqL K H' b ws := W'.lst (hS.seq hq2)
  by_cases hlt : i < xs.length
  · have e1 : us[i]? = some us[i] := List.getElem?_eq_getElem (by omega)
    have e2 : ws[i]? = some ws[i] := List.getElem?_eq_getElem (by omega)
    refine .inr ⟨⟨us, ws, _, _, g1, g2, e1, e2⟩, LcP K (xs.zip ys) fr S O R (i + 1), fun H'' p' => ⟨xs.length - (i + 1), by omega, rfl, hlt, p'⟩, fun v H'' yy => ?_⟩
    obtain ⟨T, u, w, rfl, hT, rfl, f1, f2⟩ := yy
    have e1 := f1 us g1
    have e2 := f2 ws g2
    obtain ⟨d1, h1, r1⟩ := dpAll_get' ha e1
    obtain ⟨d2, h2, r2⟩ := dpAll_get' hb e2
    rw [List.getElem?_map] at h1 h2
    have c1 : xs[i]? = some xs[i] := List.getElem?_eq_getElem hlt
    have c2 : ys[i]? = some (ys[i]'(by omega)) := List.getElem?_eq_getElem (by omega)
    rw [c1] at h1
    rw [c2] at h2
    cases h1
    cases h2
    have cz : (xs.zip ys)[i]? = some (xs[i], ys[i]'(by omega)) := by rw [List.getElem?_zip_eq_some]; exact ⟨c1, c2⟩
    refine ⟨T, [u, w], rfl, .inl (.inl upd_same), rfl, u, [w], rfl, w, [], rfl, rfl, e u w, ?_⟩
    have W2 := W'.new (o := .tup [u, w]) hT
    have hT' := W'.frS hT
    have E2 := lcE_of (S := S) (K := K) (O := O) (R := R) (fr := fr) (by rw [lz]; exact hlen) cz (hS.trans (same_new (o := .tup [u, w]) hT')) (dpAll_mono (same_new hT') hA)
    exact ((hs _ _ _ _ R acc _ (List.mem_of_getElem? cz) W2 (hS.trans (same_new hT')) E2).of u (dp_mono (hS.trans (same_new hT')) r1)).of w (dp_mono (hS.trans (same_new hT')) r2)
  · have e3 : i = xs.length := by omega
    subst e3
    refine .inl ⟨⟨us, ws, g1, g2, Or.inl (by omega)⟩, ?_⟩
    rw [← lz, List.take_length] at hA
    exact k S' H' R acc W' hS hA
theorem lc_zipS {α β : Type} {xs : List α} {ys : List β} {f : α → PyData} {h : β → PyData} {p q : Nat} (fr : α × β → Option PyData) (W : Wd K S H O) (hx : Dp K S x (.list (xs.map f))) (hy : Dp K S y (.list (ys.map h))) (hl : xs.length = ys.length) (hlen : xs.length ≤ 1000000)
    (hs : ∀ z w S' H' R acc N, (z, w) ∈ xs.zip ys → Wd K S' H' ((R, .lst acc) :: O) → Same S S' → LcE K S' O R acc (fr (z, w)) N → Kn K S' (f z) fun u => Kn K S' (h w) fun v =>
      tt (((wipe σ vs).set p (some u)).set q (some v)) H' fun b H3 => if b = true then te (((wipe σ vs).set p (some u)).set q (some v)) H3 fun y H4 => EndY R N y H4 else N H3)
    (k : ∀ S' H' v, Wd K S' H' O → Same S S' → Dp K S' v (.list ((xs.zip ys).filterMap fr)) → Q v H')
    (e : ∀ u v, wipe (((wipe σ vs).set p (some u)).set q (some v)) vs = wipe σ vs := by intros; rfl) : LcZ K (gTup K 2 (gCons (gName p) (gCons (gName q) gNil))) tt te vs σ Q [x, y] H :=
  lc_zipO fr W hx hy hl hlen hs (fun S' H' R acc W' hS hA => k _ H' _ (W'.give 0 rfl) (hS.trans (same_new (W'.atS 0 rfl))) (dp_give (W'.atS 0 rfl) hA)) e
end
end SB
namespace SB
open L2
theorem cdivw_any {i i' j : Int} (h : CDivW i j) : CDivW i' j := h
theorem cdivw_of {i j : Int} {b : Nat} (h : 0 < j) (hb : j.natAbs < 2 ^ b) (h0 : 0 < b := by decide) (h9 : b ≤ 9000 := by decide) : CDivW i j := wide_div h hb h0 h9
theorem cmulw_of {i j : Int} {a b : Nat} (ha : i.natAbs < 2 ^ a) (hb : j.natAbs < 2 ^ b) (h0 : 0 < a := by decide) (h1 : 0 < b := by decide) (h : a + b ≤ 1000000 := by decide) : CMulW i j := wide_mul ha hb h0 h1 h
end SB
namespace SB
open PySem PySem.Spec PyProof.Rows L2
section
variable {CX : CXT} {P : Program} {w : World} {K : PySem.W.Frag} {mg : Str → Option Value} {base : Heap} {N : List Str} {qual : Str} {scope : Scope} {f : Addr} {cd : Value} {A : Around} {outer : List Env} {s : Shared} {H : Hp} {E : XK}
theorem cxK : (cxOf CX P w K mg base N qual scope f cd A outer s H E).K = K := rfl
theorem cxw : (cxOf CX P w K mg base N qual scope f cd A outer s H E).w = w := rfl
theorem cxprog : (cxOf CX P w K mg base N qual scope f cd A outer s H E).prog = P := rfl
end
end SB
namespace SB
open PySem PySem.Spec PyProof.Rows L2
theorem exm_own {K : PySem.W.Frag} {C D : Addr} {b : Bool} (hs : PySem.W.subIn K (.ref D) (.type "BaseException") = some true) (hi : PySem.W.isClsIn K D = true) (ht : PySem.W.typeIn K (.ref D) = some (.type "type"))
    (h : PySem.W.subIn K (.ref C) (.ref D) = some b) : PySem.W.exmOne K (.ref C) (.ref D) = some b := by
  have e1 : (PySem.W.subIn K (.ref D) (.type "BaseException") == some true) = true := by rw [hs]; rfl
  have hi' : (PySem.W.clsIn K D).isSome = true := hi
  have e2 : ((PySem.W.clsIn K D).isSome && PySem.W.typeIn K (.ref D) == some (.type "type")) = true := by rw [hi', ht]; rfl
  show (if (PySem.W.subIn K (.ref D) (.type "BaseException") == some true) = true then (if ((PySem.W.clsIn K D).isSome && PySem.W.typeIn K (.ref D) == some (.type "type")) = true then PySem.W.subIn K (.ref C) (.ref D) else none) else none) = some b
  rw [if_pos e1, if_pos e2]
  exact h
theorem kit_self {K : PySem.W.Frag} {C : Addr} : PySem.W.kitOne K (.ref C) (.ref C) = some true := by
  show (if ((Value.ref C : Value) == .ref C) = true then some true else _) = some true
  rw [if_pos (by simp)]
theorem kit_own {K : PySem.W.Frag} {C D : Addr} {b : Bool} (hne : C ≠ D) (hi : PySem.W.isClsIn K D = true) (ht : PySem.W.typeIn K (.ref D) = some (.type "type"))
    (h : PySem.W.subIn K (.ref C) (.ref D) = some b) : PySem.W.kitOne K (.ref C) (.ref D) = some b := by
  have hi' : (PySem.W.clsIn K D).isSome = true := hi
  have e2 : ((PySem.W.clsIn K D).isSome && PySem.W.typeIn K (.ref D) == some (.type "type")) = true := by rw [hi', ht]; rfl
  show (if ((Value.ref C : Value) == .ref D) = true then some true else (if ((PySem.W.clsIn K D).isSome && PySem.W.typeIn K (.ref D) == some (.type "type")) = true then PySem.W.subIn K (.ref C) (.ref D) else none)) = some b
  rw [if_neg (by simpa using hne), if_pos e2]
  exact h
theorem kit_bty {K : PySem.W.Frag} {C : Addr} {n : String} {b : Bool} (hm : PySem.W.kitMeta n = true) (h : PySem.W.subIn K (.ref C) (.type n) = some b) : PySem.W.kitOne K (.ref C) (.type n) = some b := by
  show (if ((Value.ref C : Value) == .type n) = true then some true else (if PySem.W.kitMeta n = true then PySem.W.subIn K (.ref C) (.type n) else none)) = some b
  rw [if_neg (by simp), if_pos hm]
  exact h
theorem x_isX {K : PySem.W.Frag} {C c a : Addr} {b : Bool} {Q : VK} {H : Hp} (hC : ExcC K C) (hk : PySem.W.kitOne K (.ref C) (.ref c) = some b) (q : Q (.bl b) H) : rIsX K (.ref C) none a [.ref a, .ref c] H Q :=
  ⟨C, .ref c, .ref c, b, rfl, rfl, hC, rfl, fun u h => h, hk, q⟩
theorem x_isXT {K : PySem.W.Frag} {C a : Addr} {n : String} {b : Bool} {Q : VK} {H : Hp} (hC : ExcC K C) (hk : PySem.W.kitOne K (.ref C) (.type n) = some b) (q : Q (.bl b) H) : rIsX K (.ref C) none a [.ref a, .ty n] H Q :=
  ⟨C, .ty n, .type n, b, rfl, rfl, hC, rfl, fun u h => h, hk, q⟩
end SB
namespace SB
open L2
theorem kb_int_int : kitB "int" "int" = some true := by decide +kernel
theorem kb_int_bool : kitB "int" "bool" = some false := by decide +kernel
theorem kb_bool_bool : kitB "bool" "bool" = some true := by decide +kernel
theorem kb_bool_int : kitB "bool" "int" = some true := by decide +kernel
theorem kb_list_list : kitB "list" "list" = some true := by decide +kernel
theorem kb_tuple_tuple : kitB "tuple" "tuple" = some true := by decide +kernel
theorem kb_dict_dict : kitB "dict" "dict" = some true := by decide +kernel
theorem kb_NoneType_int : kitB "NoneType" "int" = some false := by decide +kernel
theorem kb_tuple_list : kitB "tuple" "list" = some false := by decide +kernel
theorem kb_list_tuple : kitB "list" "tuple" = some false := by decide +kernel
theorem kb_str_int : kitB "str" "int" = some false := by decide +kernel
theorem kb_tuple_int : kitB "tuple" "int" = some false := by decide +kernel
theorem kb_list_int : kitB "list" "int" = some false := by decide +kernel
end SB
namespace SB
open PySem PySem.Spec PyProof.Rows L2
/-! ### == of data -/
def Shp (n : Nat) (d : PyData) : Prop := d.canLay0 = true ∧ d.depth ≤ n
theorem shp_shaped {n : Nat} {d : PyData} (h : Shp n d) (hn : n ≤ 64 := by decide) : SeqAt.shaped d = true := by
  unfold SeqAt.shaped
  rw [h.1, Bool.true_and]
  exact decide_eq_true (Nat.le_trans h.2 hn)
theorem shp_int {n : Nat} (i : Int) : Shp n (.int i) := ⟨rfl, Nat.zero_le _⟩
theorem shp_bl {n : Nat} (i : Bool) : Shp n (.bool i) := ⟨rfl, Nat.zero_le _⟩
theorem shp_non {n : Nat} : Shp n .none := ⟨rfl, Nat.zero_le _⟩
theorem shp_all {n : Nat} : ∀ {ds : List PyData}, (∀ d ∈ ds, Shp n d) → PyData.canLayAll0 ds = true ∧ PyData.depthAll ds ≤ n
  | [], _ => ⟨rfl, Nat.zero_le _⟩
  | d :: ds, h => by
    have h1 := h d List.mem_cons_self
    have h2 := shp_all (ds := ds) fun e he => h e (List.mem_cons_of_mem _ he)
    refine ⟨?_, ?_⟩
    · show (PyData.canLay0 d && PyData.canLayAll0 ds) = true
      rw [h1.1, h2.1]
      rfl
    · show max (PyData.depth d) (PyData.depthAll ds) ≤ n
      exact Nat.max_le.mpr ⟨h1.2, h2.2⟩
theorem shp_list {n : Nat} {ds : List PyData} (h : ∀ d ∈ ds, Shp n d) : Shp (n + 1) (.list ds) := by
  have := shp_all h
  exact ⟨this.1, Nat.succ_le_succ this.2⟩
theorem shp_tup {n : Nat} {ds : List PyData} (h : ∀ d ∈ ds, Shp n d) : Shp (n + 1) (.tuple ds) := by
  have := shp_all h
  exact ⟨this.1, Nat.succ_le_succ this.2⟩
theorem shp_map {α : Type} {n : Nat} {xs : List α} {f : α → PyData} (h : ∀ x, Shp n (f x)) : Shp (n + 1) (.list (xs.map f)) := shp_list fun d hd => by
  obtain ⟨x, _, rfl⟩ := List.mem_map.mp hd
  exact h x
theorem eqvAll_map {α : Type} [DecidableEq α] {f : α → PyData} (h : ∀ x y, PyData.eqv (f x) (f y) = decide (x = y)) : ∀ xs ys : List α, PyData.eqvAll (xs.map f) (ys.map f) = decide (xs = ys)
  | [], [] => rfl
  | [], _ :: _ => rfl
  | _ :: _, [] => rfl
  | x :: xs, y :: ys => by
    show (PyData.eqv (f x) (f y) && PyData.eqvAll (xs.map f) (ys.map f)) = _
    rw [h, eqvAll_map h xs ys]
    by_cases e : x = y
    · subst e
      by_cases e2 : xs = ys
      · subst e2; simp
      · simp [e2]
    · simp [e]
theorem eqv_map {α : Type} [DecidableEq α] {f : α → PyData} (h : ∀ x y, PyData.eqv (f x) (f y) = decide (x = y)) (xs ys : List α) : PyData.eqv (.list (xs.map f)) (.list (ys.map f)) = decide (xs = ys) := eqvAll_map h xs ys
theorem eqv_int (x y : Int) : PyData.eqv (.int x) (.int y) = decide (x = y) := Bool.beq_eq_decide_eq x y
theorem eqv_self {d : PyData} {n : Nat} (h : Shp n d) : PyData.eqv d d = true := SeqAt.eqv_refl d h.1
section
variable {K : PySem.W.Frag} {S H : Hp} {O : List (Addr × HO)} {Q : VK} {x y : V}
theorem x_eqD {d e : PyData} (W : Wd K S H O) (h1 : Dp K S x d) (h2 : Dp K S y e) (s1 : Shp 64 d) (s2 : Shp 64 e) (q : Q (.bl (PyData.eqv d e)) H) : rEqD K x y H Q :=
  ⟨d, e, dp_mono W.sub h1, dp_mono W.sub h2, shp_shaped s1, shp_shaped s2, q⟩
theorem x_neD {d e : PyData} (W : Wd K S H O) (h1 : Dp K S x d) (h2 : Dp K S y e) (s1 : Shp 64 d) (s2 : Shp 64 e) (q : Q (.bl (!PyData.eqv d e)) H) : rNeD K x y H Q :=
  ⟨d, e, dp_mono W.sub h1, dp_mono W.sub h2, shp_shaped s1, shp_shaped s2, q⟩
end
theorem Shp.mono {m n : Nat} {d : PyData} (h : Shp m d) (hn : m ≤ n) : Shp n d := ⟨h.1, Nat.le_trans h.2 hn⟩
end SB
/-! ratios of whole numbers, plain -/
namespace SB
/-- the ratio that ratio tells -/
def rat (t u : Int) : Int × Int := if u < 0 then (-t / (Int.gcd t u : Int), -u / (Int.gcd t u : Int)) else (t / (Int.gcd t u : Int), u / (Int.gcd t u : Int))
def IsR (r : Int × Int) : Prop := 0 < r.2 ∧ Int.gcd r.1 r.2 = 1
theorem gcd_step {x y : Int} : Int.gcd y (x % y) = Int.gcd x y := by
  rw [Int.gcd_comm y]
  have h : ∀ c : Int, c ∣ y → (c ∣ x % y ↔ c ∣ x) := fun c hc => by
    constructor
    · intro h
      have := Int.emod_add_mul_ediv x y
      rw [← this]
      exact Int.dvd_add h (Int.dvd_trans hc (Int.dvd_mul_right y _))
    · intro h
      rw [Int.emod_def]
      exact Int.dvd_sub h (Int.dvd_trans hc (Int.dvd_mul_right y _))
  exact Int.gcd_left_eq_iff.mpr h
theorem gcd_pos' (t : Int) {u : Int} (h : u ≠ 0) : 0 < (Int.gcd t u : Int) := by
  have := Int.gcd_pos_of_ne_zero_right t h
  omega
theorem rat_pos {t u : Int} (h : u ≠ 0) : 0 < (rat t u).2 := by
  have hg := gcd_pos' t h
  have hd : (Int.gcd t u : Int) ∣ u := Int.gcd_dvd_right t u
  unfold rat
  split
  · have : (0 : Int) < -u := by omega
    exact Int.ediv_pos_of_pos_of_dvd this (Int.le_of_lt hg) ((Int.dvd_neg).mpr hd)
  · have : (0 : Int) < u := by omega
    exact Int.ediv_pos_of_pos_of_dvd this (Int.le_of_lt hg) hd
theorem rat_gcd {t u : Int} (h : u ≠ 0) : Int.gcd (rat t u).1 (rat t u).2 = 1 := by
  have hg := Int.gcd_pos_of_ne_zero_right t h
  unfold rat
  split
  · have e : Int.gcd t u = Int.gcd (-t) (-u) := by simp
    rw [e] at hg ⊢
    exact Int.gcd_ediv_gcd_ediv_gcd hg
  · exact Int.gcd_ediv_gcd_ediv_gcd hg
theorem rat_isR {t u : Int} (h : u ≠ 0) : IsR (rat t u) := ⟨rat_pos h, rat_gcd h⟩
theorem rat_eq {t u : Int} : (rat t u).1 * u = t * (rat t u).2 := by
  have h1 : (Int.gcd t u : Int) ∣ u := Int.gcd_dvd_right t u
  have h2 : (Int.gcd t u : Int) ∣ t := Int.gcd_dvd_left t u
  unfold rat
  obtain ⟨a, ha⟩ := h1
  obtain ⟨b, hb⟩ := h2
  generalize (Int.gcd t u : Int) = g at *
  by_cases hg : g = 0
  · subst hg
    simp at ha hb
    subst ha hb
    simp
  · have e1 : u / g = a := by rw [ha, Int.mul_ediv_cancel_left _ hg]
    have e2 : t / g = b := by rw [hb, Int.mul_ediv_cancel_left _ hg]
    have e3 : -u / g = -a := by rw [ha, ← Int.mul_neg, Int.mul_ediv_cancel_left _ hg]
    have e4 : -t / g = -b := by rw [hb, ← Int.mul_neg, Int.mul_ediv_cancel_left _ hg]
    split
    · show -t / g * u = t * (-u / g)
      rw [e3, e4, ha, hb]
      grind
    · show t / g * u = t * (u / g)
      rw [e1, e2, ha, hb]
      grind
theorem rat_abs1 {t u : Int} : (rat t u).1.natAbs ≤ t.natAbs := by
  unfold rat
  split
  · show (-t / _).natAbs ≤ _
    have := Int.natAbs_ediv_le_natAbs (-t) (Int.gcd t u : Int)
    simpa using this
  · exact Int.natAbs_ediv_le_natAbs t _
theorem rat_abs2 {t u : Int} : (rat t u).2.natAbs ≤ u.natAbs := by
  unfold rat
  split
  · show (-u / _).natAbs ≤ _
    have := Int.natAbs_ediv_le_natAbs (-u) (Int.gcd t u : Int)
    simpa using this
  · exact Int.natAbs_ediv_le_natAbs u _
/-- small enough for the walk -/
def Sm (n : Int) : Prop := n.natAbs < 2 ^ 1000
def BR (r : Int × Int) : Prop := 0 < r.2 ∧ r.1.natAbs < 2 ^ 2000 ∧ r.2.natAbs < 2 ^ 2000
end SB
namespace SB
theorem big8 {n : Nat} (h : n < 2 ^ (2000 + 2000)) : n < 2 ^ 8000 := Nat.lt_trans h (Nat.pow_lt_pow_right (by decide) (by decide))
end SB
namespace SB
section
variable {a b c e R1 R2 U1 U2 r1 r2 : Int}
theorem plus_eq (hR : R1 * b = a * R2) (hU : U1 * e = c * U2) (hn : R2 * U2 ≠ 0) (hr : r1 * (R2 * U2) = (R1 * U2 + U1 * R2) * r2) : r1 * (b * e) = (a * e + c * b) * r2 := by
  apply Int.eq_of_mul_eq_mul_right hn
  grind
theorem minus_eq (hR : R1 * b = a * R2) (hU : U1 * e = c * U2) (hn : R2 * U2 ≠ 0) (hr : r1 * (R2 * U2) = (R1 * U2 - U1 * R2) * r2) : r1 * (b * e) = (a * e - c * b) * r2 := by
  apply Int.eq_of_mul_eq_mul_right hn
  grind
theorem times_eq (hR : R1 * b = a * R2) (hU : U1 * e = c * U2) (hn : R2 * U2 ≠ 0) (hr : r1 * (R2 * U2) = R1 * U1 * r2) : r1 * (b * e) = a * c * r2 := by
  apply Int.eq_of_mul_eq_mul_right hn
  grind
theorem over_eq (hR : R1 * b = a * R2) (hU : U1 * e = c * U2) (hn : R2 * U1 ≠ 0) (hr : r1 * (R2 * U1) = R1 * U2 * r2) : r1 * (b * c) = a * e * r2 := by
  apply Int.eq_of_mul_eq_mul_right hn
  grind
theorem num_zero (he : e ≠ 0) (h2 : 0 < U2) (hU : U1 * e = c * U2) : U1 = 0 ↔ c = 0 := by
  constructor
  · intro h
    rw [h, Int.zero_mul] at hU
    rcases Int.mul_eq_zero.mp hU.symm with z | z
    · exact z
    · omega
  · intro h
    rw [h, Int.zero_mul] at hU
    rcases Int.mul_eq_zero.mp hU with z | z
    · exact z
    · exact absurd z he
theorem less_iff (hR : R1 * b = a * R2) (hU : U1 * e = c * U2) (hb : b ≠ 0) (he : e ≠ 0) (h1 : 0 < R2) (h2 : 0 < U2) : R1 * U2 < U1 * R2 ↔ (a * e - c * b) * b * e < 0 := by
  have hP : 0 < b * e * (b * e) := by
    have hne : b * e ≠ 0 := Int.mul_ne_zero hb he
    rcases Int.lt_or_gt_of_ne hne with h | h
    · exact Int.mul_pos_of_neg_of_neg h h
    · exact Int.mul_pos h h
  have hQ : 0 < R2 * U2 := Int.mul_pos h1 h2
  have key : (b * e * (b * e)) * (R1 * U2 - U1 * R2) = ((a * e - c * b) * b * e) * (R2 * U2) := by grind
  constructor
  · intro h
    have hx : R1 * U2 - U1 * R2 < 0 := by omega
    have := Int.mul_neg_of_pos_of_neg hP hx
    rw [key] at this
    exact Int.neg_of_mul_neg_right (by rw [Int.mul_comm]; exact this) hQ
  · intro h
    have := Int.mul_neg_of_neg_of_pos h hQ
    rw [← key] at this
    have := Int.neg_of_mul_neg_left (by rw [Int.mul_comm]; exact this) hP
    omega
end
end SB
/-! what the laws draw from a script, plain -/
namespace SB
def cell (ns : List Int) (i : Int) : Int := if ns = [] then 0 else nth ns (i % (ns.length : Int))
def mix (ns : List Int) (i : Int) : Int :=
  let n := (cell ns i + 104729 * (i + 1)) % 4294967291 * 48271 % 4294967279
  (n / 64 * 69621 + n) % 4294967231
theorem mix_lo (ns : List Int) (i : Int) : 0 ≤ mix ns i := Int.emod_nonneg _ (by decide)
theorem mix_hi (ns : List Int) (i : Int) : mix ns i < 4294967231 := Int.emod_lt_of_pos _ (by decide)
end SB
namespace SB
/-- a whole number of up to forty figures -/
def wholeOf (ns : List Int) (i : Int) : Int := nth [mix ns i % 20 - 10, mix ns i, cell ns (i + 1) % 10 ^ 40 - 10 ^ 39, 0] (mix ns i / 20 % 4)
theorem wholeOf_sm (ns : List Int) (i : Int) : (wholeOf ns i).natAbs < 2 ^ 140 := by
  unfold wholeOf
  have h := nth_mem (xs := [mix ns i % 20 - 10, mix ns i, cell ns (i + 1) % 10 ^ 40 - 10 ^ 39, 0]) (i := mix ns i / 20 % 4) (Int.emod_nonneg _ (by decide)) (Int.emod_lt_of_pos _ (by decide))
  generalize nth [mix ns i % 20 - 10, mix ns i, cell ns (i + 1) % 10 ^ 40 - 10 ^ 39, 0] (mix ns i / 20 % 4) = z at h
  have h1 := mix_lo ns i
  have h2 := mix_hi ns i
  have h3 := Int.emod_nonneg (mix ns i) (show (20 : Int) ≠ 0 by decide)
  have h4 := Int.emod_lt_of_pos (mix ns i) (show (0 : Int) < 20 by decide)
  have h5 := Int.emod_nonneg (cell ns (i + 1)) (show (10 ^ 40 : Int) ≠ 0 by decide)
  have h6 := Int.emod_lt_of_pos (cell ns (i + 1)) (show (0 : Int) < 10 ^ 40 by decide)
  simp only [List.mem_cons, List.mem_nil_iff, or_false, List.not_mem_nil] at h
  have e : (2 : Nat) ^ 140 = 1393796574908163946345982392040522594123776 := by decide
  rw [e]
  rcases h with h | h | h | h <;> omega
end SB
namespace SB
open PySem PySem.Spec PyProof.Rows L2
abbrev veT : List Value := [.type "ValueError", .type "Exception", .type "BaseException", .type "object"]
/-! ### the text by places -/
def top (i : Nat) : Stmt := PySem.Challenge.pw_surebest_k01_ratios.main.body.getD i (.Pass ⟨0, 0, 0, 0⟩)
abbrev s_common : Stmt := top 7
abbrev s_ratio : Stmt := top 8
abbrev s_plus : Stmt := top 9
abbrev s_minus : Stmt := top 10
abbrev s_times : Stmt := top 11
abbrev s_over : Stmt := top 12
abbrev s_is_less : Stmt := top 13
abbrev s_law_cell : Stmt := top 15
abbrev s_law_mix : Stmt := top 16
abbrev s_law_whole : Stmt := top 17
abbrev s_law_whole_of : Stmt := top 19
abbrev s_law_made : Stmt := top 20
abbrev s_law_over : Stmt := top 21
abbrev s_law_is : Stmt := top 22
abbrev s_law : Stmt := top 23
theorem sc_common : FnScope ["one", "other", "rest"] ["one", "other"] (defScope s_common) := ⟨rfl, rfl, rfl, by decide +kernel, rfl, by decide +kernel, by decide +kernel⟩
theorem sc_ratio : FnScope ["top", "under", "share"] ["top", "under"] (defScope s_ratio) := ⟨rfl, rfl, rfl, by decide +kernel, rfl, by decide +kernel, by decide +kernel⟩
theorem sc_plus : FnScope ["one", "other"] ["one", "other"] (defScope s_plus) := ⟨rfl, rfl, rfl, by decide +kernel, rfl, by decide +kernel, by decide +kernel⟩
theorem sc_minus : FnScope ["one", "other"] ["one", "other"] (defScope s_minus) := ⟨rfl, rfl, rfl, by decide +kernel, rfl, by decide +kernel, by decide +kernel⟩
theorem sc_times : FnScope ["one", "other"] ["one", "other"] (defScope s_times) := ⟨rfl, rfl, rfl, by decide +kernel, rfl, by decide +kernel, by decide +kernel⟩
theorem sc_over : FnScope ["one", "other"] ["one", "other"] (defScope s_over) := ⟨rfl, rfl, rfl, by decide +kernel, rfl, by decide +kernel, by decide +kernel⟩
theorem sc_is_less : FnScope ["one", "other"] ["one", "other"] (defScope s_is_less) := ⟨rfl, rfl, rfl, by decide +kernel, rfl, by decide +kernel, by decide +kernel⟩
theorem sc_law_cell : FnScope ["_law_script", "_law_k"] ["_law_script", "_law_k"] (defScope s_law_cell) := ⟨rfl, rfl, rfl, by decide +kernel, rfl, by decide +kernel, by decide +kernel⟩
theorem sc_law_mix : FnScope ["_law_script", "_law_k", "_law_number"] ["_law_script", "_law_k"] (defScope s_law_mix) := ⟨rfl, rfl, rfl, by decide +kernel, rfl, by decide +kernel, by decide +kernel⟩
theorem sc_law_whole : FnScope ["_law_found"] ["_law_found"] (defScope s_law_whole) := ⟨rfl, rfl, rfl, by decide +kernel, rfl, by decide +kernel, by decide +kernel⟩
theorem sc_law_whole_of : FnScope ["_law_script", "_law_base", "_law_number", "_law_found"] ["_law_script", "_law_base"] (defScope s_law_whole_of) := ⟨rfl, rfl, rfl, by decide +kernel, rfl, by decide +kernel, by decide +kernel⟩
theorem sc_law_made : FnScope ["_law_top", "_law_under", "_law_found", "e"] ["_law_top", "_law_under"] (defScope s_law_made) := ⟨rfl, rfl, rfl, by decide +kernel, rfl, by decide +kernel, by decide +kernel⟩
theorem sc_law_over : FnScope ["_law_one", "_law_other", "_law_found", "e"] ["_law_one", "_law_other"] (defScope s_law_over) := ⟨rfl, rfl, rfl, by decide +kernel, rfl, by decide +kernel, by decide +kernel⟩
theorem sc_law_is : FnScope ["_law_found", "_law_top", "_law_under", "_law_one", "_law_other", "_law_rest"] ["_law_found", "_law_top", "_law_under"] (defScope s_law_is) := ⟨rfl, rfl, rfl, by decide +kernel, rfl, by decide +kernel, by decide +kernel⟩
theorem sc_law : FnScope ["_law_script", "_law_a", "_law_b", "_law_c", "_law_d", "_law_one", "_law_other", "_law_found", "_law_answer"] ["_law_script"] (defScope s_law) := ⟨rfl, rfl, rfl, by decide +kernel, rfl, by decide +kernel, by decide +kernel⟩
/-! ### where all stands, and what the top has left -/
structure Ad where
  (a_common a_ratio a_plus a_minus a_times a_over a_is_less a_law_cell a_law_mix a_law_whole a_law_whole_of a_law_made a_law_over a_law_is a_law c_BestError c_NoNetwork c_NoTable c_NoRatio c_NoWay : Addr)
  (f_common f_ratio f_plus f_minus f_times f_over f_is_less f_law_cell f_law_mix f_law_whole f_law_whole_of f_law_made f_law_over f_law_is f_law : FuncData)
structure Txt (K : PySem.W.Frag) (mg : Str → Option Value) (d : Ad) : Prop where
  F_common : Fun K "common" "common" s_common d.a_common d.f_common
  p_common : Binds K d.f_common ["one", "other"] []
  g_common : mg "common" = some (.ref d.a_common)
  k_common : PySem.W.keepIn K (.ref d.a_common) = true
  F_ratio : Fun K "ratio" "ratio" s_ratio d.a_ratio d.f_ratio
  p_ratio : Binds K d.f_ratio ["top", "under"] []
  g_ratio : mg "ratio" = some (.ref d.a_ratio)
  k_ratio : PySem.W.keepIn K (.ref d.a_ratio) = true
  F_plus : Fun K "plus" "plus" s_plus d.a_plus d.f_plus
  p_plus : Binds K d.f_plus ["one", "other"] []
  g_plus : mg "plus" = some (.ref d.a_plus)
  k_plus : PySem.W.keepIn K (.ref d.a_plus) = true
  F_minus : Fun K "minus" "minus" s_minus d.a_minus d.f_minus
  p_minus : Binds K d.f_minus ["one", "other"] []
  g_minus : mg "minus" = some (.ref d.a_minus)
  k_minus : PySem.W.keepIn K (.ref d.a_minus) = true
  F_times : Fun K "times" "times" s_times d.a_times d.f_times
  p_times : Binds K d.f_times ["one", "other"] []
  g_times : mg "times" = some (.ref d.a_times)
  k_times : PySem.W.keepIn K (.ref d.a_times) = true
  F_over : Fun K "over" "over" s_over d.a_over d.f_over
  p_over : Binds K d.f_over ["one", "other"] []
  g_over : mg "over" = some (.ref d.a_over)
  k_over : PySem.W.keepIn K (.ref d.a_over) = true
  F_is_less : Fun K "is_less" "is_less" s_is_less d.a_is_less d.f_is_less
  p_is_less : Binds K d.f_is_less ["one", "other"] []
  g_is_less : mg "is_less" = some (.ref d.a_is_less)
  k_is_less : PySem.W.keepIn K (.ref d.a_is_less) = true
  F_law_cell : Fun K "_law_cell" "_law_cell" s_law_cell d.a_law_cell d.f_law_cell
  p_law_cell : Binds K d.f_law_cell ["_law_script", "_law_k"] []
  g_law_cell : mg "_law_cell" = some (.ref d.a_law_cell)
  k_law_cell : PySem.W.keepIn K (.ref d.a_law_cell) = true
  F_law_mix : Fun K "_law_mix" "_law_mix" s_law_mix d.a_law_mix d.f_law_mix
  p_law_mix : Binds K d.f_law_mix ["_law_script", "_law_k"] []
  g_law_mix : mg "_law_mix" = some (.ref d.a_law_mix)
  k_law_mix : PySem.W.keepIn K (.ref d.a_law_mix) = true
  F_law_whole : Fun K "_law_whole" "_law_whole" s_law_whole d.a_law_whole d.f_law_whole
  p_law_whole : Binds K d.f_law_whole ["_law_found"] []
  g_law_whole : mg "_law_whole" = some (.ref d.a_law_whole)
  k_law_whole : PySem.W.keepIn K (.ref d.a_law_whole) = true
  F_law_whole_of : Fun K "_law_whole_of" "_law_whole_of" s_law_whole_of d.a_law_whole_of d.f_law_whole_of
  p_law_whole_of : Binds K d.f_law_whole_of ["_law_script", "_law_base"] []
  g_law_whole_of : mg "_law_whole_of" = some (.ref d.a_law_whole_of)
  k_law_whole_of : PySem.W.keepIn K (.ref d.a_law_whole_of) = true
  F_law_made : Fun K "_law_made" "_law_made" s_law_made d.a_law_made d.f_law_made
  p_law_made : Binds K d.f_law_made ["_law_top", "_law_under"] []
  g_law_made : mg "_law_made" = some (.ref d.a_law_made)
  k_law_made : PySem.W.keepIn K (.ref d.a_law_made) = true
  F_law_over : Fun K "_law_over" "_law_over" s_law_over d.a_law_over d.f_law_over
  p_law_over : Binds K d.f_law_over ["_law_one", "_law_other"] []
  g_law_over : mg "_law_over" = some (.ref d.a_law_over)
  k_law_over : PySem.W.keepIn K (.ref d.a_law_over) = true
  F_law_is : Fun K "_law_is" "_law_is" s_law_is d.a_law_is d.f_law_is
  p_law_is : Binds K d.f_law_is ["_law_found", "_law_top", "_law_under"] []
  g_law_is : mg "_law_is" = some (.ref d.a_law_is)
  k_law_is : PySem.W.keepIn K (.ref d.a_law_is) = true
  F_law : Fun K "law" "law" s_law d.a_law d.f_law
  p_law : Binds K d.f_law ["_law_script"] []
  g_law : mg "law" = some (.ref d.a_law)
  k_law : PySem.W.keepIn K (.ref d.a_law) = true
  g_BestError : mg "BestError" = some (.ref d.c_BestError)
  k_BestError : PySem.W.keepIn K (.ref d.c_BestError) = true
  x_BestError : PySem.W.excIn K d.c_BestError veT "ValueError.__new__" = true
  s_BestError : PySem.W.subIn K (.ref d.c_BestError) (.type "BaseException") = some true
  t_BestError : PySem.W.typeIn K (.ref d.c_BestError) = some (.type "type")
  i_BestError : PySem.W.isClsIn K d.c_BestError = true
  g_NoNetwork : mg "NoNetwork" = some (.ref d.c_NoNetwork)
  k_NoNetwork : PySem.W.keepIn K (.ref d.c_NoNetwork) = true
  x_NoNetwork : PySem.W.excIn K d.c_NoNetwork veT "ValueError.__new__" = true
  s_NoNetwork : PySem.W.subIn K (.ref d.c_NoNetwork) (.type "BaseException") = some true
  t_NoNetwork : PySem.W.typeIn K (.ref d.c_NoNetwork) = some (.type "type")
  i_NoNetwork : PySem.W.isClsIn K d.c_NoNetwork = true
  g_NoTable : mg "NoTable" = some (.ref d.c_NoTable)
  k_NoTable : PySem.W.keepIn K (.ref d.c_NoTable) = true
  x_NoTable : PySem.W.excIn K d.c_NoTable veT "ValueError.__new__" = true
  s_NoTable : PySem.W.subIn K (.ref d.c_NoTable) (.type "BaseException") = some true
  t_NoTable : PySem.W.typeIn K (.ref d.c_NoTable) = some (.type "type")
  i_NoTable : PySem.W.isClsIn K d.c_NoTable = true
  g_NoRatio : mg "NoRatio" = some (.ref d.c_NoRatio)
  k_NoRatio : PySem.W.keepIn K (.ref d.c_NoRatio) = true
  x_NoRatio : PySem.W.excIn K d.c_NoRatio veT "ValueError.__new__" = true
  s_NoRatio : PySem.W.subIn K (.ref d.c_NoRatio) (.type "BaseException") = some true
  t_NoRatio : PySem.W.typeIn K (.ref d.c_NoRatio) = some (.type "type")
  i_NoRatio : PySem.W.isClsIn K d.c_NoRatio = true
  g_NoWay : mg "NoWay" = some (.ref d.c_NoWay)
  k_NoWay : PySem.W.keepIn K (.ref d.c_NoWay) = true
  x_NoWay : PySem.W.excIn K d.c_NoWay veT "ValueError.__new__" = true
  s_NoWay : PySem.W.subIn K (.ref d.c_NoWay) (.type "BaseException") = some true
  t_NoWay : PySem.W.typeIn K (.ref d.c_NoWay) = some (.type "type")
  i_NoWay : PySem.W.isClsIn K d.c_NoWay = true
  e_NoRatio_BestError : PySem.W.exmOne K (.ref d.c_NoRatio) (.ref d.c_BestError) = some true
  y_NoRatio : ExcC K d.c_NoRatio
  q_NoRatio_NoRatio : PySem.W.kitOne K (.ref d.c_NoRatio) (.ref d.c_NoRatio) = some true
  q_NoRatio_ValueError : PySem.W.kitOne K (.ref d.c_NoRatio) (.type "ValueError") = some true
  q_NoRatio_NoNetwork : PySem.W.kitOne K (.ref d.c_NoRatio) (.ref d.c_NoNetwork) = some false
  q_NoRatio_NoTable : PySem.W.kitOne K (.ref d.c_NoRatio) (.ref d.c_NoTable) = some false
  q_NoRatio_NoWay : PySem.W.kitOne K (.ref d.c_NoRatio) (.ref d.c_NoWay) = some false
  b_ValueError : mg "ValueError" = none
  b_abs : mg "abs" = none
  b_bool : mg "bool" = none
  b_int : mg "int" = none
  b_isinstance : mg "isinstance" = none
  b_len : mg "len" = none
  b_tuple : mg "tuple" = none
end SB
namespace SB
open PySem PySem.Spec PyProof.Rows L2
local macro_rules | `(tactic| walk_at "same") => `(tactic| first
  | exact Same.refl _
  | assumption
  | (refine Same.trans ?_ (by assumption); walk_at "same"))
local macro_rules | `(tactic| walk_at "is") => `(tactic| first
  | assumption
  | exact Dp.int _
  | exact Dp.bl _
  | exact Dp.non
  | exact Dp.str _
  | (refine' dp_mono ?_ (by assumption); walk_at "same"))
local macro_rules | `(tactic| walk_at "dpa") => `(tactic| first
  | exact DpAll.nil
  | (refine' DpAll.cons ?h1 ?h2; (case h1 => walk_at "is"); (case h2 => walk_at "dpa"))
  | exact dpAll_ints _
  | exact dpAll_bools _
  | assumption
  | (refine' dpAll_mono ?_ (by assumption); walk_at "same"))
local macro_rules | `(tactic| walk_at "bd") => `(tactic| first | omega | assumption | (simp only [List.length_map, List.length_range, List.length_replicate] at *; omega))
local macro_rules | `(tactic| walk_at "ati") => `(tactic| first
  | rfl
  | exact atI_map (by walk_at "bd") (by walk_at "bd"))
local macro_rules | `(tactic| walk_at "kn") => `(tactic| first
  | (with_reducible refine kn_int ?_)
  | (with_reducible refine kn_bl ?_)
  | (with_reducible refine kn_non ?_)
  | (with_reducible refine kn_str ?_)
  | ((with_reducible refine kn_tup ?_); intro u hu)
  | ((with_reducible refine kn_lst ?_); intro u hu))
local macro_rules | `(tactic| walk_at "wm") => `(tactic| first
  | exact .inl ⟨by decide, by decide⟩
  | exact .inr ⟨by decide, by decide⟩)
local macro_rules | `(tactic| walk_at "st") => `(tactic| first
  | ((with_reducible refine' x_var ?h ?_); (case h => with_unfolding_all rfl))
  | (with_reducible refine x_c ?_)
  | (with_reducible refine x_op ?_)
  | (with_reducible refine x_I0 ?_)
  | (with_reducible refine x_cons ?_)
  | (with_reducible refine x_nil ?_)
  | (with_reducible refine x_seq ?_)
  | (with_reducible refine x_asg ?_)
  | (with_reducible refine x_gname ?_)
  | (with_reducible refine x_test ?_)
  | (with_reducible refine x_tB ?_)
  | (with_reducible refine x_k ?_)
  | (with_reducible refine x_kx ?_)
  | (with_reducible refine x_if ?_)
  | (with_reducible refine x_ret ?_)
  | (with_reducible refine x_next ?_)
  | (with_reducible refine x_iteT ?_)
  | (with_reducible refine x_iteF ?_)
  | (with_reducible refine x_nT ?_)
  | (with_reducible refine x_nF ?_)
  | (with_reducible refine x_eqI ?_)
  | (with_reducible refine x_neI ?_)
  | (with_reducible refine x_eqB ?_)
  | (with_reducible refine x_neB ?_)
  | (with_reducible refine x_cb ?_)
  | (with_reducible refine x_call0 ?_)
  | (with_reducible refine x_callS ?_)
  | ((with_reducible refine x_I (C := CMul) ?h ?_); (case h => walk_at "wm"))
  | ((with_reducible refine x_I (C := CDiv) ?h ?_); (case h => exact ⟨by decide, by decide⟩))
  | ((with_reducible refine x_I (C := CPow) ?h ?_); (case h => exact ⟨by decide, by decide, by decide⟩))
  | ((with_reducible refine x_I ?h ?_); (case h => walk_at "side"))
  | (with_reducible refine x_U ?_)
  | (with_reducible refine x_un ?_)
  | (with_reducible refine x_and ?_)
  | (with_reducible refine x_or ?_)
  | (with_reducible refine x_not ?_)
  | (with_reducible refine x_andV ?_)
  | (with_reducible refine x_orV ?_)
  | (with_reducible refine x_notV ?_)
  | (with_reducible refine x_ifE ?_)
  | (with_reducible refine x_chain ?_)
  | (with_reducible refine x_ttup ?_)
  | (with_reducible refine x_tlst ?_)
  | (with_reducible refine x_gsub ?_)
  | (with_reducible refine x_drop ?_)
  | (with_reducible refine x_retN ?_)
  | (with_reducible refine x_brk ?_)
  | (with_reducible refine x_fld ?_)
  | (with_reducible refine x_fldr ?_)
  | (with_reducible refine x_meth ?_)
  | (with_reducible refine x_gnil ?_)
  | (with_reducible refine x_gcons ?_)
  | (with_reducible refine x_isN ?_)
  | (with_reducible refine x_notN ?_)
  | (with_reducible refine x_abs ?_)
  | (with_reducible refine x_max2 ?_)
  | (with_reducible refine x_intB ?_)
  | (with_reducible refine x_isX (by assumption) (by assumption) ?_)
  | (with_reducible refine x_isXT (by assumption) (by assumption) ?_)
  | (with_reducible refine x_isiI kb_int_int ?_)
  | (with_reducible refine x_isiI kb_int_bool ?_)
  | (with_reducible refine x_isiB kb_bool_bool ?_)
  | (with_reducible refine x_isiB kb_bool_int ?_)
  | (with_reducible refine' x_isiL (by assumption) (by walk_at "is") kb_list_list ?_)
  | (with_reducible refine' x_isiT (by assumption) (by walk_at "is") kb_tuple_tuple ?_)
  | (with_reducible refine x_isiN kb_NoneType_int ?_)
  | (with_reducible refine' x_isiT (by assumption) (by walk_at "is") kb_tuple_list ?_)
  | (with_reducible refine' x_isiL (by assumption) (by walk_at "is") kb_list_tuple ?_)
  | (with_reducible refine x_isiS kb_str_int ?_)
  | (with_reducible refine' x_isiT (by assumption) (by walk_at "is") kb_tuple_int ?_)
  | (with_reducible refine' x_isiL (by assumption) (by walk_at "is") kb_list_int ?_)
  | ((with_reducible refine' x_ixT (by assumption) (by walk_at "is") ?h ?_); (case h => walk_at "ati"); (walk_at "kn"))
  | ((with_reducible refine' x_ixL (by assumption) (by walk_at "is") ?h ?_); (case h => walk_at "ati"); (walk_at "kn"))
  | (with_reducible refine' x_lenT (by assumption) (by walk_at "is") ?_)
  | (with_reducible refine' x_len (by assumption) (by walk_at "is") ?_)
  | (with_reducible refine x_tr ?_)
  | (with_reducible refine x_truB ?_)
  | (with_reducible refine' x_truL (by assumption) (by walk_at "is") ?_)
  | ((with_reducible refine' x_tup (by assumption) (by walk_at "dpa") (by simp) ?_); intro S' H' v W' hS hv))
local macro_rules | `(tactic| walk_at "go") => `(tactic| repeat (walk_at "st"))
local macro_rules | `(tactic| walk_at "side") => `(tactic| first | omega | assumption | exact cdivw_any (by assumption) | decide)
local macro_rules | `(tactic| walk_at "own") => `(tactic| ((with_reducible refine x_own (by assumption) (by simp) ?_); intro p H' W'))
local macro_rules | `(tactic| walk_at "lst") => `(tactic| ((with_reducible refine' x_lst (by assumption) (by walk_at "dpa") (by simp) ?_); intro S' H' v W' hS hv))
section
variable {P : Program} {w : World} {K : PySem.W.Frag} {mg : Str → Option Value} {base : Heap} {d : Ad}
inductive Sp_law_cell (K : PySem.W.Frag) : List V → Hp → VK → XK → Prop
  | mk {S : Hp} {O : List (Addr × HO)} {ns : List Int} {i : Int} {x : V} {H : Hp} {Q : VK} {E : XK} (W : Wd K S H O) (h : Dp K S x (.list (ns.map PyData.int)))
    (k : Q (.int (cell ns i)) H) : Sp_law_cell K [x, .int i] H Q E
theorem ok_law_cell (T : Txt K mg d) : FnOk P w K mg base CX0 1 d.a_law_cell d.f_law_cell ["_law_script", "_law_k"] (Sp_law_cell K) := by
  refine T.F_law_cell.ok sc_law_cell (fun vs H Q E h => ?_) (fun cdv A outer s H vs Q E hr h => ?_)
  · cases h; rfl
  · have hu := hu_of hr
    obtain ⟨W, h, k⟩ := h
    rename_i S O ns i x
    refine ⟨_, (pss_cons (ps_if (pl_truth (pv 0) (by intro _; rfl)) (pss_one (ps_ret (pe_ix ix_seq (pv 0) (pe_op op_mod (pv 1) (pe_callB cl_len (by rfl) T.b_len (by decide +kernel) (pa_cons (pv 0) pa_nil))) (fun _ _ => rfl)))) pss_nil)
      (pss_one (ps_ret pe_int))), ?_⟩
    try dsimp only [cxK, cxw, cxprog]
    walk_at "go"
    refine x_iteN (fun he => ?_) (fun he => ?_)
    · have hl : (0 : Int) < (ns.map PyData.int).length := by
        cases ns with
        | nil => simp at he
        | cons a r => simp only [List.length_map, List.length_cons]; omega
      walk_at "go"
      have h0 := Int.emod_nonneg i (show ((ns.map PyData.int).length : Int) ≠ 0 by omega)
      have h2 := Int.emod_lt_of_pos i hl
      simp only [List.length_map] at h0 h2 hl
      rw [List.length_map]
      refine x_ixL W h (atI_map (f := PyData.int) h0 h2) (kn_int ?_)
      have e : cell ns i = nth ns (i % (ns.length : Int)) := by
        unfold cell
        rw [if_neg]
        · intro z
          rw [z] at hl
          simp at hl
      rw [← e]
      exact k
    · walk_at "go"
      have e : cell ns i = 0 := by
        unfold cell
        rw [if_pos]
        cases ns with
        | nil => rfl
        | cons a r => simp at he
      rw [← e]
      exact k
end
section
variable {P : Program} {w : World} {K : PySem.W.Frag} {mg : Str → Option Value} {base : Heap} {d : Ad}
inductive Sp_law_mix (K : PySem.W.Frag) : List V → Hp → VK → XK → Prop
  | mk {S : Hp} {O : List (Addr × HO)} {ns : List Int} {i : Int} {x : V} {H : Hp} {Q : VK} {E : XK} (W : Wd K S H O) (h : Dp K S x (.list (ns.map PyData.int)))
    (k : Q (.int (mix ns i)) H) : Sp_law_mix K [x, .int i] H Q E
theorem ok_law_mix (T : Txt K mg d) : FnOk P w K mg base CX0 2 d.a_law_mix d.f_law_mix ["_law_script", "_law_k"] (Sp_law_mix K) := by
  refine T.F_law_mix.ok sc_law_mix (fun vs H Q E h => ?_) (fun cdv A outer s H vs Q E hr h => ?_)
  · cases h; rfl
  · have hu := hu_of hr
    obtain ⟨W, h, k⟩ := h
    rename_i S O ns i x
    refine ⟨_, (pss_cons (ps_set (i := 2) sc_law_mix.nd rfl (by first | exact Or.inl rfl | exact Or.inr rfl) (pe_op op_mod (pe_op op_add (pe_call (ok_law_cell T) (hr.mono (by decide)) (by rfl) T.g_law_cell T.k_law_cell T.p_law_cell .nil pass0 (pa_cons (pv 0) (pa_cons (pv 1) pa_nil))) (pe_op op_mul pe_int (pe_op op_add (pv 1) pe_int))) pe_int))
      (pss_cons (ps_set (i := 2) sc_law_mix.nd rfl (by first | exact Or.inl rfl | exact Or.inr rfl) (pe_op op_mod (pe_op op_mul (pv 2) pe_int) pe_int))
      (pss_one (ps_ret (pe_op op_mod (pe_op op_add (pe_op op_mul (pe_op op_fdiv (pv 2) pe_int) pe_int) (pv 2)) pe_int))))), ?_⟩
    try dsimp only [cxK, cxw, cxprog]
    walk_at "go"
    refine .mk W h ?_
    walk_at "go"
    exact k
end
section
variable {P : Program} {w : World} {K : PySem.W.Frag} {mg : Str → Option Value} {base : Heap} {d : Ad}
inductive Sp_law_whole_of (K : PySem.W.Frag) : List V → Hp → VK → XK → Prop
  | mk {S : Hp} {O : List (Addr × HO)} {ns : List Int} {i : Int} {x : V} {H : Hp} {Q : VK} {E : XK} (W : Wd K S H O) (h : Dp K S x (.list (ns.map PyData.int)))
    (k : ∀ S' H', Wd K S' H' O → Same S S' → Q (.int (wholeOf ns i)) H') : Sp_law_whole_of K [x, .int i] H Q E
theorem ok_law_whole_of (T : Txt K mg d) : FnOk P w K mg base CX0 3 d.a_law_whole_of d.f_law_whole_of ["_law_script", "_law_base"] (Sp_law_whole_of K) := by
  refine T.F_law_whole_of.ok sc_law_whole_of (fun vs H Q E h => ?_) (fun cdv A outer s H vs Q E hr h => ?_)
  · cases h; rfl
  · have hu := hu_of hr
    obtain ⟨W, h, k⟩ := h
    rename_i S O ns i x
    refine ⟨_, (pss_cons (ps_set (i := 2) sc_law_whole_of.nd rfl (by first | exact Or.inl rfl | exact Or.inr rfl) (pe_call (ok_law_mix T) (hr.mono (by decide)) (by rfl) T.g_law_mix T.k_law_mix T.p_law_mix .nil pass0 (pa_cons (pv 0) (pa_cons (pv 1) pa_nil))))
      (pss_cons (ps_set (i := 3) sc_law_whole_of.nd rfl (by first | exact Or.inl rfl | exact Or.inr rfl) (pe_ix ix_seq (pe_lst (pa_cons (pe_op op_sub (pe_op op_mod (pv 2) pe_int) pe_int) (pa_cons (pv 2) (pa_cons (pe_op op_sub (pe_op op_mod (pe_call (ok_law_cell T) (hr.mono (by decide)) (by rfl) T.g_law_cell T.k_law_cell T.p_law_cell .nil pass0 (pa_cons (pv 0) (pa_cons (pe_op op_add (pv 1) pe_int) pa_nil))) (pe_op op_pow pe_int pe_int)) (pe_op op_pow pe_int pe_int)) (pa_cons pe_int pa_nil))))) (pe_op op_mod (pe_op op_fdiv (pv 2) pe_int) pe_int) (fun _ _ => rfl)))
      (pss_one (ps_ret (pv 3))))), ?_⟩
    try dsimp only [cxK, cxw, cxprog]
    walk_at "go"
    refine .mk W h ?_
    walk_at "go"
    refine .mk W h ?_
    walk_at "go"
    refine x_lst W (ds := [mix ns i % 20 - 10, mix ns i, cell ns (i + 1) % 10 ^ 40 - 10 ^ 39, 0].map PyData.int) (dpAll_ints [mix ns i % 20 - 10, mix ns i, cell ns (i + 1) % 10 ^ 40 - 10 ^ 39, 0]) (by simp) (fun S' H' v W' hS hv => ?_)
    walk_at "go"
    refine x_ixL W' hv (atI_map (f := PyData.int) (Int.emod_nonneg _ (by decide)) (Int.emod_lt_of_pos _ (by decide))) (kn_int ?_)
    walk_at "go"
    exact k S' H' W' hS
end
section
variable {P : Program} {w : World} {K : PySem.W.Frag} {mg : Str → Option Value} {base : Heap} {d : Ad}
inductive Sp_common : List V → Hp → VK → XK → Prop
  | mk {a b : Int} {H : Hp} {Q : VK} {E : XK} (hb : 0 ≤ b) (k : Q (.int (Int.gcd a b)) H) : Sp_common [.int a, .int b] H Q E
theorem ok_common (T : Txt K mg d) : FnOk P w K mg base CX0 1 d.a_common d.f_common ["one", "other"] (Sp_common) := by
  refine T.F_common.ok sc_common (fun vs H Q E h => ?_) (fun cdv A outer s H vs Q E hr h => ?_)
  · cases h; rfl
  · have hu := hu_of hr
    obtain ⟨hb, k⟩ := h
    rename_i a b
    refine ⟨_, (pss_cons (ps_while PassesOwn.never (pt_cmpR op_ne (pv 1) pe_int (nomark _)) (pss_cons (ps_set (i := 2) sc_common.nd rfl (by first | exact Or.inl rfl | exact Or.inr rfl) (pe_op op_mod (pv 0) (pv 1)))
      (pss_cons (ps_set (i := 0) sc_common.nd rfl (by first | exact Or.inl rfl | exact Or.inr rfl) (pv 1))
      (pss_one (ps_set (i := 1) sc_common.nd rfl (by first | exact Or.inl rfl | exact Or.inr rfl) (pv 2))))))
      (pss_one (ps_ret (pe_callB cl_abs (by rfl) T.b_abs (by decide +kernel) (pa_cons (pv 0) pa_nil))))), ?_⟩
    try dsimp only [cxK, cxw, cxprog]
    walk_at "go"
    refine x_while (fun n σ' H' => ∃ x y : Int, ∃ r : Option V, σ' = [some (.int x), some (.int y), r] ∧ H' = H ∧ 0 ≤ y ∧ y.toNat = n ∧ Int.gcd x y = Int.gcd a b) _ ⟨a, b, _, rfl, rfl, hb, rfl, rfl⟩ ?_
    rintro n σ' H' ⟨x, y, r, rfl, rfl, h0, rfl, hg⟩
    walk_at "go"
    refine x_iteND (fun hy => ?_) (fun hy => ?_)
    · refine x_again ?_
      walk_at "go"
      have h1 := Int.emod_nonneg x hy
      have h2 := Int.emod_lt_of_pos x (show 0 < y by omega)
      exact ⟨(x % y).toNat, by omega, y, x % y, _, rfl, rfl, h1, rfl, by rw [gcd_step]; exact hg⟩
    · walk_at "go"
      subst hy
      rw [Int.gcd_zero_right] at hg
      have e : (if x < 0 then -x else x) = ((Int.gcd a b : Nat) : Int) := by
        rw [← hg]
        split <;> omega
      rw [e]
      exact k
end
section
variable {P : Program} {w : World} {K : PySem.W.Frag} {mg : Str → Option Value} {base : Heap} {d : Ad}
abbrev ratD (r : Int × Int) : PyData := .tuple [.int r.1, .int r.2]
inductive Sp_ratio (K : PySem.W.Frag) (C : Addr) : List V → Hp → VK → XK → Prop
  | mk {S : Hp} {O : List (Addr × HO)} {t u : Int} {H : Hp} {Q : VK} {E : XK} (W : Wd K S H O) (hb : u.natAbs < 2 ^ 8000) (e : u = 0 → E (.ref C) none H)
    (k : u ≠ 0 → ∀ S' H' v, Wd K S' H' O → Same S S' → Dp K S' v (ratD (rat t u)) → Q v H') : Sp_ratio K C [.int t, .int u] H Q E
theorem ok_ratio (T : Txt K mg d) : FnOk P w K mg base (L2.CX P w) 3 d.a_ratio d.f_ratio ["top", "under"] (Sp_ratio K d.c_NoRatio) := by
  refine T.F_ratio.okX sc_ratio (fun vs H Q E h => ?_) (fun cdv A outer s H vs Q E hr h => ?_)
  · cases h; rfl
  · have hu := hu_of hr
    obtain ⟨W, hb, e, k⟩ := h
    rename_i S O t u
    refine ⟨_, (pss_cons (ps_if (pt_cmpR op_eq (pv 1) pe_int (nomark _)) (pss_one (ps_raise rfl (takes_of rfl rfl rfl rfl) (pmk_own PySem.F.excBase_ValueError T.x_NoRatio T.g_NoRatio T.k_NoRatio (raises_own T.s_NoRatio T.t_NoRatio) (by exact rfl)))) pss_nil)
      (pss_cons (ps_if (pt_cmpR op_lt (pv 1) pe_int (nomark _)) (pss_cons (ps_set (i := 0) sc_ratio.nd rfl (by first | exact Or.inl rfl | exact Or.inr rfl) (pe_un un_neg (pv 0)))
      (pss_one (ps_set (i := 1) sc_ratio.nd rfl (by first | exact Or.inl rfl | exact Or.inr rfl) (pe_un un_neg (pv 1))))) pss_nil)
      (pss_cons (ps_set (i := 2) sc_ratio.nd rfl (by first | exact Or.inl rfl | exact Or.inr rfl) (pe_call (ok_common T) (hr.mono (by decide)) (by rfl) T.g_common T.k_common T.p_common .nil pass0 (pa_cons (pv 0) (pa_cons (pv 1) pa_nil))))
      (pss_one (ps_ret (pe_tup (pa_cons (pe_op op_fdivW (pv 0) (pv 2)) (pa_cons (pe_op op_fdivW (pv 1) (pv 2)) pa_nil)))))))), ?_⟩
    try dsimp only [cxK, cxw, cxprog]
    walk_at "go"
    refine x_iteD (fun hu0 => e hu0) (fun hu0 => ?_)
    walk_at "go"
    have hle := Int.gcd_le_natAbs_right t hu0
    have hgp := gcd_pos' t hu0
    have hdv : CDivW t (Int.gcd t u : Int) := wide_div (b := 8000) hgp (by omega) (by decide) (by decide)
    refine x_iteD (fun hn => ?_) (fun hn => ?_)
    · walk_at "go"
      refine .mk (by omega) ?_
      rw [Int.neg_gcd, Int.gcd_neg]
      walk_at "go"
      refine k hu0 _ _ _ (by assumption) (by assumption) ?_
      have e1 : ratD (rat t u) = .tuple [.int (-t / (Int.gcd t u : Int)), .int (-u / (Int.gcd t u : Int))] := by
        unfold rat
        rw [if_pos hn]
      rw [e1]
      assumption
    · walk_at "go"
      refine .mk (by omega) ?_
      walk_at "go"
      refine k hu0 _ _ _ (by assumption) (by assumption) ?_
      have e1 : ratD (rat t u) = .tuple [.int (t / (Int.gcd t u : Int)), .int (u / (Int.gcd t u : Int))] := by
        unfold rat
        rw [if_neg hn]
      rw [e1]
      assumption
end
section
variable {P : Program} {w : World} {K : PySem.W.Frag} {mg : Str → Option Value} {base : Heap} {d : Ad}
inductive Sp_law_made (K : PySem.W.Frag) : List V → Hp → VK → XK → Prop
  | mk {S : Hp} {O : List (Addr × HO)} {t u : Int} {H : Hp} {Q : VK} {E : XK} (W : Wd K S H O) (hb : u.natAbs < 2 ^ 8000) (e : u = 0 → Q (.str "no") H)
    (k : u ≠ 0 → ∀ S' H' v, Wd K S' H' O → Same S S' → Dp K S' v (ratD (rat t u)) → Q v H') : Sp_law_made K [.int t, .int u] H Q E
theorem ok_law_made (T : Txt K mg d) : FnOk P w K mg base CX0 4 d.a_law_made d.f_law_made ["_law_top", "_law_under"] (Sp_law_made K) := by
  refine T.F_law_made.ok sc_law_made (fun vs H Q E h => ?_) (fun cdv A outer s H vs Q E hr h => ?_)
  · cases h; rfl
  · have hu := hu_of hr
    obtain ⟨W, hb, e, k⟩ := h
    rename_i S O t u
    have y1 := T.y_NoRatio
    have q1 := T.q_NoRatio_NoRatio
    have q2 := T.q_NoRatio_ValueError
    have q3 := T.q_NoRatio_NoNetwork
    have q4 := T.q_NoRatio_NoTable
    have q5 := T.q_NoRatio_NoWay
    refine ⟨_, (pss_cons (ps_set (i := 2) sc_law_made.nd rfl (by first | exact Or.inl rfl | exact Or.inr rfl) pe_non)
      (pss_cons (ps_try_as (i := 3) (Wout := fun _ _ _ _ => False) rfl rfl sc_law_made.nd rfl rfl ⟨rfl, by decide, Or.inl T.g_BestError⟩ takes0 (fun W pn xe tk _ => (pss_one (ps_set (i := 2) sc_law_made.nd rfl (by first | exact Or.inl rfl | exact Or.inr rfl) (by exact (pe_callS (ok_ratio T) (hr.mono (by decide)) rfl T.g_ratio T.k_ratio T.p_ratio (fun σ => passAt tk σ) (by exact (pa_cons (pv 0) (pa_cons (pv 1) pa_nil)))))))) (fun a oe cls d' pn hz hf => (pss_cons (ps_set (i := 2) sc_law_made.nd rfl (by first | exact Or.inl rfl | exact Or.inr rfl) (pe_ifExp (PW.pt (pw_and (pt_val (pe_callB (call_isX hz hf) (by rfl) T.b_isinstance (by decide +kernel) (pa_cons (pv 3) (pa_cons (pe_glob (v := .ref d.c_NoRatio) (by rfl) T.g_NoRatio rfl) pa_nil)))) (pw_and1 (pt_val (pe_callB (call_isX hz hf) (by rfl) T.b_isinstance (by decide +kernel) (pa_cons (pv 3) (pa_cons (pe_bltn (v := .ty "ValueError") (by rfl) T.b_ValueError (by decide +kernel) rfl) pa_nil))))))) pe_str pe_str))
      (pss_one (ps_if (PW.pt (pw_or (pt_val (pe_callB (call_isX hz hf) (by rfl) T.b_isinstance (by decide +kernel) (pa_cons (pv 3) (pa_cons (pe_glob (v := .ref d.c_NoNetwork) (by rfl) T.g_NoNetwork rfl) pa_nil)))) (pw_or (pt_val (pe_callB (call_isX hz hf) (by rfl) T.b_isinstance (by decide +kernel) (pa_cons (pv 3) (pa_cons (pe_glob (v := .ref d.c_NoTable) (by rfl) T.g_NoTable rfl) pa_nil)))) (pw_or1 (pt_val (pe_callB (call_isX hz hf) (by rfl) T.b_isinstance (by decide +kernel) (pa_cons (pv 3) (pa_cons (pe_glob (v := .ref d.c_NoWay) (by rfl) T.g_NoWay rfl) pa_nil)))))))) (pss_one (ps_set (i := 2) sc_law_made.nd rfl (by first | exact Or.inl rfl | exact Or.inr rfl) pe_str)) pss_nil)))))
      (pss_one (ps_ret (pv 2))))), ?_⟩
    try dsimp only [cxK, cxw, cxprog]
    walk_at "go"
    refine .mk W hb (fun e0 => ?_) (fun hne S' H' v W' hS hv => ?_)
    · refine ⟨true, T.e_NoRatio_BestError, fun _ a _ => ?_, fun q => Bool.noConfusion q⟩
      walk_at "go"
      exact e e0
    · walk_at "go"
      exact k hne S' H' v W' hS hv
end
section
variable {P : Program} {w : World} {K : PySem.W.Frag} {mg : Str → Option Value} {base : Heap} {d : Ad}
inductive Sp_over (K : PySem.W.Frag) (C : Addr) : List V → Hp → VK → XK → Prop
  | mk {S : Hp} {O : List (Addr × HO)} {a b : Int × Int} {x y : V} {H : Hp} {Q : VK} {E : XK} (W : Wd K S H O) (h1 : Dp K S x (ratD a)) (h2 : Dp K S y (ratD b)) (r1 : BR a) (r2 : BR b) (e : b.1 = 0 → E (.ref C) none H)
    (k : b.1 ≠ 0 → ∀ S' H' v, Wd K S' H' O → Same S S' → Dp K S' v (ratD (rat (a.1 * b.2) (a.2 * b.1))) → Q v H') : Sp_over K C [x, y] H Q E
theorem ok_over (T : Txt K mg d) : FnOk P w K mg base (L2.CX P w) 4 d.a_over d.f_over ["one", "other"] (Sp_over K d.c_NoRatio) := by
  refine T.F_over.okX sc_over (fun vs H Q E h => ?_) (fun cdv A outer s H vs Q E hr h => ?_)
  · cases h; rfl
  · have hu := hu_of hr
    obtain ⟨W, h1, h2, r1, r2, e, k⟩ := h
    rename_i S O a b x y
    obtain ⟨p1, n1, m1⟩ := r1
    obtain ⟨p2, n2, m2⟩ := r2
    have c1 : CMulW a.1 b.2 := cmulw_of n1 m2
    have c3 : CMulW a.2 b.1 := cmulw_of m1 n2
    have hb : (a.2 * b.1).natAbs < 2 ^ 8000 := big8 (wide_lt m1 n2)
    refine ⟨_, (pss_one (ps_ret (pe_call (ok_ratio T) (hr.mono (by decide)) (by rfl) T.g_ratio T.k_ratio T.p_ratio .nil (passes_call (takes_of rfl rfl rfl rfl) (fun _ _ _ _ h => h)) (pa_cons (pe_op op_mulW (pe_ix ix_seq (pv 0) pe_int (fun _ _ => rfl)) (pe_ix ix_seq (pv 1) pe_int (fun _ _ => rfl))) (pa_cons (pe_op op_mulW (pe_ix ix_seq (pv 0) pe_int (fun _ _ => rfl)) (pe_ix ix_seq (pv 1) pe_int (fun _ _ => rfl))) pa_nil))))), ?_⟩
    try dsimp only [cxK, cxw, cxprog]
    walk_at "go"
    refine .mk W hb (fun e0 => e ?_) (fun hne S' H' v W' hS hv => k ?_ S' H' v W' hS hv)
    · rcases Int.mul_eq_zero.mp e0 with z | z
      · omega
      · exact z
    · intro z
      rw [z, Int.mul_zero] at hne
      exact hne rfl
end
section
variable {P : Program} {w : World} {K : PySem.W.Frag} {mg : Str → Option Value} {base : Heap} {d : Ad}
inductive Sp_law_over (K : PySem.W.Frag) : List V → Hp → VK → XK → Prop
  | mk {S : Hp} {O : List (Addr × HO)} {a b : Int × Int} {x y : V} {H : Hp} {Q : VK} {E : XK} (W : Wd K S H O) (h1 : Dp K S x (ratD a)) (h2 : Dp K S y (ratD b)) (r1 : BR a) (r2 : BR b) (e : b.1 = 0 → Q (.str "no") H)
    (k : b.1 ≠ 0 → ∀ S' H' v, Wd K S' H' O → Same S S' → Dp K S' v (ratD (rat (a.1 * b.2) (a.2 * b.1))) → Q v H') : Sp_law_over K [x, y] H Q E
theorem ok_law_over (T : Txt K mg d) : FnOk P w K mg base CX0 5 d.a_law_over d.f_law_over ["_law_one", "_law_other"] (Sp_law_over K) := by
  refine T.F_law_over.ok sc_law_over (fun vs H Q E h => ?_) (fun cdv A outer s H vs Q E hr h => ?_)
  · cases h; rfl
  · have hu := hu_of hr
    obtain ⟨W, h1, h2, r1, r2, e, k⟩ := h
    rename_i S O a b x y
    have y1 := T.y_NoRatio
    have q1 := T.q_NoRatio_NoRatio
    refine ⟨_, (pss_cons (ps_set (i := 2) sc_law_over.nd rfl (by first | exact Or.inl rfl | exact Or.inr rfl) pe_non)
      (pss_cons (ps_try_as (i := 3) (Wout := fun _ _ _ _ => False) rfl rfl sc_law_over.nd rfl rfl ⟨rfl, by decide, Or.inl T.g_BestError⟩ takes0 (fun W pn xe tk _ => (pss_one (ps_set (i := 2) sc_law_over.nd rfl (by first | exact Or.inl rfl | exact Or.inr rfl) (by exact (pe_callS (ok_over T) (hr.mono (by decide)) rfl T.g_over T.k_over T.p_over (fun σ => passAt tk σ) (by exact (pa_cons (pv 0) (pa_cons (pv 1) pa_nil)))))))) (fun a oe cls d' pn hz hf => (pss_one (ps_set (i := 2) sc_law_over.nd rfl (by first | exact Or.inl rfl | exact Or.inr rfl) (pe_ifExp (pt_val (pe_callB (call_isX hz hf) (by rfl) T.b_isinstance (by decide +kernel) (pa_cons (pv 3) (pa_cons (pe_glob (v := .ref d.c_NoRatio) (by rfl) T.g_NoRatio rfl) pa_nil)))) pe_str pe_str)))))
      (pss_one (ps_ret (pv 2))))), ?_⟩
    try dsimp only [cxK, cxw, cxprog]
    walk_at "go"
    refine .mk W h1 h2 r1 r2 (fun e0 => ?_) (fun hne S' H' v W' hS hv => ?_)
    · refine ⟨true, T.e_NoRatio_BestError, fun _ a _ => ?_, fun q => Bool.noConfusion q⟩
      walk_at "go"
      exact e e0
    · walk_at "go"
      exact k hne S' H' v W' hS hv
end
section
variable {P : Program} {w : World} {K : PySem.W.Frag} {mg : Str → Option Value} {base : Heap} {d : Ad}
inductive Sp_is_less (K : PySem.W.Frag) : List V → Hp → VK → XK → Prop
  | mk {S : Hp} {O : List (Addr × HO)} {a b : Int × Int} {x y : V} {H : Hp} {Q : VK} {E : XK} (W : Wd K S H O) (h1 : Dp K S x (ratD a)) (h2 : Dp K S y (ratD b)) (r1 : BR a) (r2 : BR b)
    (k : Q (.bl (decide (a.1 * b.2 < b.1 * a.2))) H) : Sp_is_less K [x, y] H Q E
theorem ok_is_less (T : Txt K mg d) : FnOk P w K mg base CX0 1 d.a_is_less d.f_is_less ["one", "other"] (Sp_is_less K) := by
  refine T.F_is_less.ok sc_is_less (fun vs H Q E h => ?_) (fun cdv A outer s H vs Q E hr h => ?_)
  · cases h; rfl
  · have hu := hu_of hr
    obtain ⟨W, h1, h2, r1, r2, k⟩ := h
    rename_i S O a b x y
    obtain ⟨p1, n1, m1⟩ := r1
    obtain ⟨p2, n2, m2⟩ := r2
    have c1 : CMulW a.1 b.2 := cmulw_of n1 m2
    have c2 : CMulW b.1 a.2 := cmulw_of n2 m1
    refine ⟨_, (pss_one (ps_ret (pe_cmpR op_lt (pe_op op_mulW (pe_ix ix_seq (pv 0) pe_int (fun _ _ => rfl)) (pe_ix ix_seq (pv 1) pe_int (fun _ _ => rfl))) (pe_op op_mulW (pe_ix ix_seq (pv 1) pe_int (fun _ _ => rfl)) (pe_ix ix_seq (pv 0) pe_int (fun _ _ => rfl))) (nomark _)))), ?_⟩
    try dsimp only [cxK, cxw, cxprog]
    walk_at "go"
    exact k
end
section
variable {P : Program} {w : World} {K : PySem.W.Frag} {mg : Str → Option Value} {base : Heap} {d : Ad}
inductive Sp_law_whole : List V → Hp → VK → XK → Prop
  | mk {a : Int} {H : Hp} {Q : VK} {E : XK} (k : Q (.bl true) H) : Sp_law_whole [.int a] H Q E
theorem ok_law_whole (T : Txt K mg d) : FnOk P w K mg base CX0 1 d.a_law_whole d.f_law_whole ["_law_found"] (Sp_law_whole) := by
  refine T.F_law_whole.ok sc_law_whole (fun vs H Q E h => ?_) (fun cdv A outer s H vs Q E hr h => ?_)
  · cases h; rfl
  · have hu := hu_of hr
    obtain ⟨k⟩ := h
    rename_i a
    refine ⟨_, (pss_one (ps_ret (pe_and (pe_callB call_isi (by rfl) T.b_isinstance (by decide +kernel) (pa_cons (pv 0) (pa_cons (pe_bltn (v := .ty "int") (by rfl) T.b_int (by decide +kernel) rfl) pa_nil))) (pe_one (pe_not (pe_callB call_isi (by rfl) T.b_isinstance (by decide +kernel) (pa_cons (pv 0) (pa_cons (pe_bltn (v := .ty "bool") (by rfl) T.b_bool (by decide +kernel) rfl) pa_nil)))))))), ?_⟩
    try dsimp only [cxK, cxw, cxprog]
    walk_at "go"
    exact k
end
section
variable {P : Program} {w : World} {K : PySem.W.Frag} {mg : Str → Option Value} {base : Heap} {d : Ad}
inductive Sp_law_is (K : PySem.W.Frag) : List V → Hp → VK → XK → Prop
  | mk {S : Hp} {O : List (Addr × HO)} {r : Int × Int} {t u : Int} {x : V} {H : Hp} {Q : VK} {E : XK} (W : Wd K S H O) (h : Dp K S x (ratD r)) (hr : IsR r) (he : r.1 * u = t * r.2)
    (c1 : CMulW r.1 u) (c2 : CMulW t r.2) (k : Q (.bl true) H) : Sp_law_is K [x, .int t, .int u] H Q E
theorem ok_law_is (T : Txt K mg d) : FnOk P w K mg base CX0 2 d.a_law_is d.f_law_is ["_law_found", "_law_top", "_law_under"] (Sp_law_is K) := by
  refine T.F_law_is.ok sc_law_is (fun vs H Q E h => ?_) (fun cdv A outer s H vs Q E hr h => ?_)
  · cases h; rfl
  · have hu := hu_of hr
    obtain ⟨W, h, hR, he, c1, c2, k⟩ := h
    rename_i S O r t u x
    obtain ⟨hp, hg⟩ := hR
    refine ⟨_, (pss_cons (ps_if (PW.pt (pw_or (pt_not (pt_val (pe_callB call_isi (by rfl) T.b_isinstance (by decide +kernel) (pa_cons (pv 0) (pa_cons (pe_bltn (v := .ty "tuple") (by rfl) T.b_tuple (by decide +kernel) rfl) pa_nil))))) (pw_or (pt_cmpR op_ne (pe_callB cl_len (by rfl) T.b_len (by decide +kernel) (pa_cons (pv 0) pa_nil)) pe_int (nomark _)) (pw_or (pt_not (pt_val (pe_call (ok_law_whole T) (hr.mono (by decide)) (by rfl) T.g_law_whole T.k_law_whole T.p_law_whole .nil pass0 (pa_cons (pe_ix ix_seq (pv 0) pe_int (fun _ _ => rfl)) pa_nil)))) (pw_or1 (pt_not (pt_val (pe_call (ok_law_whole T) (hr.mono (by decide)) (by rfl) T.g_law_whole T.k_law_whole T.p_law_whole .nil pass0 (pa_cons (pe_ix ix_seq (pv 0) pe_int (fun _ _ => rfl)) pa_nil))))))))) (pss_one (ps_ret pe_bl)) pss_nil)
      (pss_cons (ps_set (i := 3) sc_law_is.nd rfl (by first | exact Or.inl rfl | exact Or.inr rfl) (pe_callB cl_abs (by rfl) T.b_abs (by decide +kernel) (pa_cons (pe_ix ix_seq (pv 0) pe_int (fun _ _ => rfl)) pa_nil)))
      (pss_cons (ps_set (i := 4) sc_law_is.nd rfl (by first | exact Or.inl rfl | exact Or.inr rfl) (pe_ix ix_seq (pv 0) pe_int (fun _ _ => rfl)))
      (pss_cons (ps_if (pt_cmpR op_le (pv 4) pe_int (nomark _)) (pss_one (ps_ret pe_bl)) pss_nil)
      (pss_cons (ps_while PassesOwn.never (pt_cmpR op_gt (pv 4) pe_int (nomark _)) (pss_cons (ps_set (i := 5) sc_law_is.nd rfl (by first | exact Or.inl rfl | exact Or.inr rfl) (pe_op op_mod (pv 3) (pv 4)))
      (pss_cons (ps_set (i := 3) sc_law_is.nd rfl (by first | exact Or.inl rfl | exact Or.inr rfl) (pv 4))
      (pss_one (ps_set (i := 4) sc_law_is.nd rfl (by first | exact Or.inl rfl | exact Or.inr rfl) (pv 5))))))
      (pss_one (ps_ret (pe_and (pe_cmpR op_eq (pv 3) pe_int (nomark _)) (pe_one (pe_cmpR op_eq (pe_op op_mulW (pe_ix ix_seq (pv 0) pe_int (fun _ _ => rfl)) (pv 2)) (pe_op op_mulW (pv 1) (pe_ix ix_seq (pv 0) pe_int (fun _ _ => rfl))) (nomark _))))))))))), ?_⟩
    try dsimp only [cxK, cxw, cxprog]
    walk_at "go"
    refine x_no (by simp) ?_
    walk_at "go"
    refine .mk ?_
    walk_at "go"
    refine .mk ?_
    walk_at "go"
    refine x_no (by simpa using hp) ?_
    walk_at "go"
    refine x_while (fun n σ' H' => ∃ a b : Int, ∃ z : Option V, σ' = [some x, some (.int t), some (.int u), some (.int a), some (.int b), z] ∧ H' = H ∧ 0 ≤ a ∧ 0 ≤ b ∧ b.toNat = n ∧ Int.gcd a b = 1) _
      ⟨if r.1 < 0 then -r.1 else r.1, r.2, _, rfl, rfl, by split <;> omega, by omega, rfl, ?_⟩ ?_
    · rw [← hg]
      split
      · rw [Int.neg_gcd]
      · rfl
    rintro n σ' H' ⟨a, b, z, rfl, rfl, ha, hb, rfl, hab⟩
    walk_at "go"
    refine x_iteD (fun hy => ?_) (fun hy => ?_)
    · refine x_again ?_
      walk_at "go"
      have h1 := Int.emod_nonneg a (show b ≠ 0 by omega)
      have h2 := Int.emod_lt_of_pos a hy
      exact ⟨(a % b).toNat, by omega, b, a % b, _, rfl, rfl, by omega, h1, rfl, by rw [gcd_step]; exact hab⟩
    · walk_at "go"
      have e : b = 0 := by omega
      subst e
      rw [Int.gcd_zero_right] at hab
      refine x_sure (by simp; omega) ?_
      walk_at "go"
      rw [he]
      simpa using k
end
section
variable {P : Program} {w : World} {K : PySem.W.Frag} {mg : Str → Option Value} {base : Heap} {d : Ad}
inductive Sp_plus (K : PySem.W.Frag) : List V → Hp → VK → XK → Prop
  | mk {S : Hp} {O : List (Addr × HO)} {a b : Int × Int} {x y : V} {H : Hp} {Q : VK} {E : XK} (W : Wd K S H O) (h1 : Dp K S x (ratD a)) (h2 : Dp K S y (ratD b)) (r1 : BR a) (r2 : BR b)
    (k : ∀ S' H' v, Wd K S' H' O → Same S S' → Dp K S' v (ratD (rat (a.1 * b.2 + b.1 * a.2) (a.2 * b.2))) → Q v H') : Sp_plus K [x, y] H Q E
theorem ok_plus (T : Txt K mg d) : FnOk P w K mg base CX0 4 d.a_plus d.f_plus ["one", "other"] (Sp_plus K) := by
  refine T.F_plus.ok sc_plus (fun vs H Q E h => ?_) (fun cdv A outer s H vs Q E hr h => ?_)
  · cases h; rfl
  · have hu := hu_of hr
    obtain ⟨W, h1, h2, r1, r2, k⟩ := h
    rename_i S O a b x y
    obtain ⟨p1, n1, m1⟩ := r1
    obtain ⟨p2, n2, m2⟩ := r2
    have c1 : CMulW a.1 b.2 := cmulw_of n1 m2
    have c2 : CMulW b.1 a.2 := cmulw_of n2 m1
    have c3 : CMulW a.2 b.2 := cmulw_of m1 m2
    have hp : 0 < a.2 * b.2 := Int.mul_pos p1 p2
    have hb : (a.2 * b.2).natAbs < 2 ^ 8000 := big8 (wide_lt m1 m2)
    refine ⟨_, (pss_one (ps_ret (pe_call (ok_ratio T) (hr.mono (by decide)) (by rfl) T.g_ratio T.k_ratio T.p_ratio .nil passL (pa_cons (pe_op op_add (pe_op op_mulW (pe_ix ix_seq (pv 0) pe_int (fun _ _ => rfl)) (pe_ix ix_seq (pv 1) pe_int (fun _ _ => rfl))) (pe_op op_mulW (pe_ix ix_seq (pv 1) pe_int (fun _ _ => rfl)) (pe_ix ix_seq (pv 0) pe_int (fun _ _ => rfl)))) (pa_cons (pe_op op_mulW (pe_ix ix_seq (pv 0) pe_int (fun _ _ => rfl)) (pe_ix ix_seq (pv 1) pe_int (fun _ _ => rfl))) pa_nil))))), ?_⟩
    try dsimp only [cxK, cxw, cxprog]
    walk_at "go"
    exact .mk W hb (fun e => by omega) (fun _ S' H' v W' hS hv => k S' H' v W' hS hv)
end
section
variable {P : Program} {w : World} {K : PySem.W.Frag} {mg : Str → Option Value} {base : Heap} {d : Ad}
inductive Sp_minus (K : PySem.W.Frag) : List V → Hp → VK → XK → Prop
  | mk {S : Hp} {O : List (Addr × HO)} {a b : Int × Int} {x y : V} {H : Hp} {Q : VK} {E : XK} (W : Wd K S H O) (h1 : Dp K S x (ratD a)) (h2 : Dp K S y (ratD b)) (r1 : BR a) (r2 : BR b)
    (k : ∀ S' H' v, Wd K S' H' O → Same S S' → Dp K S' v (ratD (rat (a.1 * b.2 - b.1 * a.2) (a.2 * b.2))) → Q v H') : Sp_minus K [x, y] H Q E
theorem ok_minus (T : Txt K mg d) : FnOk P w K mg base CX0 4 d.a_minus d.f_minus ["one", "other"] (Sp_minus K) := by
  refine T.F_minus.ok sc_minus (fun vs H Q E h => ?_) (fun cdv A outer s H vs Q E hr h => ?_)
  · cases h; rfl
  · have hu := hu_of hr
    obtain ⟨W, h1, h2, r1, r2, k⟩ := h
    rename_i S O a b x y
    obtain ⟨p1, n1, m1⟩ := r1
    obtain ⟨p2, n2, m2⟩ := r2
    have c1 : CMulW a.1 b.2 := cmulw_of n1 m2
    have c2 : CMulW b.1 a.2 := cmulw_of n2 m1
    have c3 : CMulW a.2 b.2 := cmulw_of m1 m2
    have hp : 0 < a.2 * b.2 := Int.mul_pos p1 p2
    have hb : (a.2 * b.2).natAbs < 2 ^ 8000 := big8 (wide_lt m1 m2)
    refine ⟨_, (pss_one (ps_ret (pe_call (ok_ratio T) (hr.mono (by decide)) (by rfl) T.g_ratio T.k_ratio T.p_ratio .nil passL (pa_cons (pe_op op_sub (pe_op op_mulW (pe_ix ix_seq (pv 0) pe_int (fun _ _ => rfl)) (pe_ix ix_seq (pv 1) pe_int (fun _ _ => rfl))) (pe_op op_mulW (pe_ix ix_seq (pv 1) pe_int (fun _ _ => rfl)) (pe_ix ix_seq (pv 0) pe_int (fun _ _ => rfl)))) (pa_cons (pe_op op_mulW (pe_ix ix_seq (pv 0) pe_int (fun _ _ => rfl)) (pe_ix ix_seq (pv 1) pe_int (fun _ _ => rfl))) pa_nil))))), ?_⟩
    try dsimp only [cxK, cxw, cxprog]
    walk_at "go"
    exact .mk W hb (fun e => by omega) (fun _ S' H' v W' hS hv => k S' H' v W' hS hv)
end
section
variable {P : Program} {w : World} {K : PySem.W.Frag} {mg : Str → Option Value} {base : Heap} {d : Ad}
inductive Sp_times (K : PySem.W.Frag) : List V → Hp → VK → XK → Prop
  | mk {S : Hp} {O : List (Addr × HO)} {a b : Int × Int} {x y : V} {H : Hp} {Q : VK} {E : XK} (W : Wd K S H O) (h1 : Dp K S x (ratD a)) (h2 : Dp K S y (ratD b)) (r1 : BR a) (r2 : BR b)
    (k : ∀ S' H' v, Wd K S' H' O → Same S S' → Dp K S' v (ratD (rat (a.1 * b.1) (a.2 * b.2))) → Q v H') : Sp_times K [x, y] H Q E
theorem ok_times (T : Txt K mg d) : FnOk P w K mg base CX0 4 d.a_times d.f_times ["one", "other"] (Sp_times K) := by
  refine T.F_times.ok sc_times (fun vs H Q E h => ?_) (fun cdv A outer s H vs Q E hr h => ?_)
  · cases h; rfl
  · have hu := hu_of hr
    obtain ⟨W, h1, h2, r1, r2, k⟩ := h
    rename_i S O a b x y
    obtain ⟨p1, n1, m1⟩ := r1
    obtain ⟨p2, n2, m2⟩ := r2
    have c1 : CMulW a.1 b.1 := cmulw_of n1 n2
    have c3 : CMulW a.2 b.2 := cmulw_of m1 m2
    have hp : 0 < a.2 * b.2 := Int.mul_pos p1 p2
    have hb : (a.2 * b.2).natAbs < 2 ^ 8000 := big8 (wide_lt m1 m2)
    refine ⟨_, (pss_one (ps_ret (pe_call (ok_ratio T) (hr.mono (by decide)) (by rfl) T.g_ratio T.k_ratio T.p_ratio .nil passL (pa_cons (pe_op op_mulW (pe_ix ix_seq (pv 0) pe_int (fun _ _ => rfl)) (pe_ix ix_seq (pv 1) pe_int (fun _ _ => rfl))) (pa_cons (pe_op op_mulW (pe_ix ix_seq (pv 0) pe_int (fun _ _ => rfl)) (pe_ix ix_seq (pv 1) pe_int (fun _ _ => rfl))) pa_nil))))), ?_⟩
    try dsimp only [cxK, cxw, cxprog]
    walk_at "go"
    exact .mk W hb (fun e => by omega) (fun _ S' H' v W' hS hv => k S' H' v W' hS hv)
end
section
variable {P : Program} {w : World} {K : PySem.W.Frag} {mg : Str → Option Value} {base : Heap} {d : Ad}
theorem shp_rat (r : Int × Int) : Shp 64 (ratD r) := (shp_tup (n := 0) fun d hd => by
  rcases List.mem_cons.mp hd with rfl | hd
  · exact shp_int _
  · rcases List.mem_cons.mp hd with rfl | hd
    · exact shp_int _
    · cases hd).mono (by decide)
theorem shp_no : Shp 64 (.str "no") := ⟨by decide +kernel, Nat.zero_le _⟩
theorem br_rat {t u : Int} (ht : t.natAbs < 2 ^ 140) (hu : u.natAbs < 2 ^ 140) (h : u ≠ 0) : BR (rat t u) :=
  ⟨rat_pos h, Nat.lt_of_le_of_lt rat_abs1 (Nat.lt_trans ht (Nat.pow_lt_pow_right (by decide) (by decide))), Nat.lt_of_le_of_lt rat_abs2 (Nat.lt_trans hu (Nat.pow_lt_pow_right (by decide) (by decide)))⟩
theorem sm_mul {a b : Int} {m n : Nat} (ha : a.natAbs < 2 ^ m) (hb : b.natAbs < 2 ^ n) : (a * b).natAbs < 2 ^ (m + n) := wide_lt ha hb
theorem sm_add {a b : Int} {m : Nat} (ha : a.natAbs < 2 ^ m) (hb : b.natAbs < 2 ^ m) : (a + b).natAbs < 2 ^ (m + 1) := by rw [Nat.pow_succ]; omega
theorem sm_sub {a b : Int} {m : Nat} (ha : a.natAbs < 2 ^ m) (hb : b.natAbs < 2 ^ m) : (a - b).natAbs < 2 ^ (m + 1) := by rw [Nat.pow_succ]; omega
inductive Sp_law (K : PySem.W.Frag) : List V → Hp → VK → XK → Prop
  | mk {ns : List Int} {x : V} {H : Hp} {Q : VK} {E : XK} (h : Dp K H x (.list (ns.map PyData.int))) (k : ∀ H', Q (.bl true) H') : Sp_law K [x] H Q E
theorem ok_law (T : Txt K mg d) : FnOk P w K mg base CX0 6 d.a_law d.f_law ["_law_script"] (Sp_law K) := by
  refine T.F_law.ok sc_law (fun vs H Q E h => ?_) (fun cdv A outer s H vs Q E hr h => ?_)
  · cases h; rfl
  · have hu := hu_of hr
    obtain ⟨h, k⟩ := h
    rename_i ns x
    have W := Wd.all (K := K) H
    have ba := wholeOf_sm ns 0
    have bb := wholeOf_sm ns 2
    have bc := wholeOf_sm ns 4
    have bd := wholeOf_sm ns 6
    generalize ea : wholeOf ns 0 = a at *
    generalize eb : wholeOf ns 2 = b at *
    generalize ec : wholeOf ns 4 = c at *
    generalize ed : wholeOf ns 6 = e at *
    refine ⟨_, (pss_cons (ps_set (i := 1) sc_law.nd rfl (by first | exact Or.inl rfl | exact Or.inr rfl) (pe_call (ok_law_whole_of T) (hr.mono (by decide)) (by rfl) T.g_law_whole_of T.k_law_whole_of T.p_law_whole_of .nil pass0 (pa_cons (pv 0) (pa_cons pe_int pa_nil))))
      (pss_cons (ps_set (i := 2) sc_law.nd rfl (by first | exact Or.inl rfl | exact Or.inr rfl) (pe_call (ok_law_whole_of T) (hr.mono (by decide)) (by rfl) T.g_law_whole_of T.k_law_whole_of T.p_law_whole_of .nil pass0 (pa_cons (pv 0) (pa_cons pe_int pa_nil))))
      (pss_cons (ps_set (i := 3) sc_law.nd rfl (by first | exact Or.inl rfl | exact Or.inr rfl) (pe_call (ok_law_whole_of T) (hr.mono (by decide)) (by rfl) T.g_law_whole_of T.k_law_whole_of T.p_law_whole_of .nil pass0 (pa_cons (pv 0) (pa_cons pe_int pa_nil))))
      (pss_cons (ps_set (i := 4) sc_law.nd rfl (by first | exact Or.inl rfl | exact Or.inr rfl) (pe_call (ok_law_whole_of T) (hr.mono (by decide)) (by rfl) T.g_law_whole_of T.k_law_whole_of T.p_law_whole_of .nil pass0 (pa_cons (pv 0) (pa_cons pe_int pa_nil))))
      (pss_cons (ps_set (i := 5) sc_law.nd rfl (by first | exact Or.inl rfl | exact Or.inr rfl) (pe_call (ok_law_made T) (hr.mono (by decide)) (by rfl) T.g_law_made T.k_law_made T.p_law_made .nil pass0 (pa_cons (pv 1) (pa_cons (pv 2) pa_nil))))
      (pss_cons (ps_set (i := 6) sc_law.nd rfl (by first | exact Or.inl rfl | exact Or.inr rfl) (pe_call (ok_law_made T) (hr.mono (by decide)) (by rfl) T.g_law_made T.k_law_made T.p_law_made .nil pass0 (pa_cons (pv 3) (pa_cons (pv 4) pa_nil))))
      (pss_cons (ps_if (PW.pt (pw_or (pt_cmpR op_ne (pe_cmpR (op_eqD hr.units) (pv 5) pe_str (nomark _)) (pe_cmpR op_eq (pv 2) pe_int (nomark _)) (nomark _)) (pw_or1 (pt_cmpR op_ne (pe_cmpR (op_eqD hr.units) (pv 6) pe_str (nomark _)) (pe_cmpR op_eq (pv 4) pe_int (nomark _)) (nomark _))))) (pss_one (ps_ret pe_bl)) pss_nil)
      (pss_cons (ps_if (PW.pt (pw_or (pt_cmpR op_eq (pv 2) pe_int (nomark _)) (pw_or1 (pt_cmpR op_eq (pv 4) pe_int (nomark _))))) (pss_one (ps_ret (pe_or (pe_cmpR op_eq (pv 2) pe_int (nomark _)) (pe_one (pe_call (ok_law_is T) (hr.mono (by decide)) (by rfl) T.g_law_is T.k_law_is T.p_law_is .nil pass0 (pa_cons (pv 5) (pa_cons (pv 1) (pa_cons (pv 2) pa_nil)))))))) pss_nil)
      (pss_cons (ps_if (PW.pt (pw_or (pt_not (pt_val (pe_call (ok_law_is T) (hr.mono (by decide)) (by rfl) T.g_law_is T.k_law_is T.p_law_is .nil pass0 (pa_cons (pv 5) (pa_cons (pv 1) (pa_cons (pv 2) pa_nil)))))) (pw_or (pt_not (pt_val (pe_call (ok_law_is T) (hr.mono (by decide)) (by rfl) T.g_law_is T.k_law_is T.p_law_is .nil pass0 (pa_cons (pv 6) (pa_cons (pv 3) (pa_cons (pv 4) pa_nil)))))) (pw_or1 (pt_not (pt_val (pe_call (ok_law_is T) (hr.mono (by decide)) (by rfl) T.g_law_is T.k_law_is T.p_law_is .nil pass0 (pa_cons (pe_call (ok_plus T) (hr.mono (by decide)) (by rfl) T.g_plus T.k_plus T.p_plus .nil pass0 (pa_cons (pv 5) (pa_cons (pv 6) pa_nil))) (pa_cons (pe_op op_add (pe_op op_mulW (pv 1) (pv 4)) (pe_op op_mulW (pv 3) (pv 2))) (pa_cons (pe_op op_mulW (pv 2) (pv 4)) pa_nil)))))))))) (pss_one (ps_ret pe_bl)) pss_nil)
      (pss_cons (ps_if (PW.pt (pw_or (pt_not (pt_val (pe_call (ok_law_is T) (hr.mono (by decide)) (by rfl) T.g_law_is T.k_law_is T.p_law_is .nil pass0 (pa_cons (pe_call (ok_minus T) (hr.mono (by decide)) (by rfl) T.g_minus T.k_minus T.p_minus .nil pass0 (pa_cons (pv 5) (pa_cons (pv 6) pa_nil))) (pa_cons (pe_op op_sub (pe_op op_mulW (pv 1) (pv 4)) (pe_op op_mulW (pv 3) (pv 2))) (pa_cons (pe_op op_mulW (pv 2) (pv 4)) pa_nil)))))) (pw_or1 (pt_not (pt_val (pe_call (ok_law_is T) (hr.mono (by decide)) (by rfl) T.g_law_is T.k_law_is T.p_law_is .nil pass0 (pa_cons (pe_call (ok_times T) (hr.mono (by decide)) (by rfl) T.g_times T.k_times T.p_times .nil pass0 (pa_cons (pv 5) (pa_cons (pv 6) pa_nil))) (pa_cons (pe_op op_mulW (pv 1) (pv 3)) (pa_cons (pe_op op_mulW (pv 2) (pv 4)) pa_nil))))))))) (pss_one (ps_ret pe_bl)) pss_nil)
      (pss_cons (ps_set (i := 7) sc_law.nd rfl (by first | exact Or.inl rfl | exact Or.inr rfl) (pe_call (ok_law_over T) (hr.mono (by decide)) (by rfl) T.g_law_over T.k_law_over T.p_law_over .nil pass0 (pa_cons (pv 5) (pa_cons (pv 6) pa_nil))))
      (pss_cons (ps_if (PW.pt (pw_or (pt_cmpR op_ne (pe_cmpR (op_eqD hr.units) (pv 7) pe_str (nomark _)) (pe_cmpR op_eq (pv 3) pe_int (nomark _)) (nomark _)) (pw_or1 (PW.pt (pw_and (pt_cmpR op_ne (pv 3) pe_int (nomark _)) (pw_and1 (pt_not (pt_val (pe_call (ok_law_is T) (hr.mono (by decide)) (by rfl) T.g_law_is T.k_law_is T.p_law_is .nil pass0 (pa_cons (pv 7) (pa_cons (pe_op op_mulW (pv 1) (pv 4)) (pa_cons (pe_op op_mulW (pv 2) (pv 3)) pa_nil)))))))))))) (pss_one (ps_ret pe_bl)) pss_nil)
      (pss_cons (ps_set (i := 8) sc_law.nd rfl (by first | exact Or.inl rfl | exact Or.inr rfl) (pe_call (ok_is_less T) (hr.mono (by decide)) (by rfl) T.g_is_less T.k_is_less T.p_is_less .nil pass0 (pa_cons (pv 5) (pa_cons (pv 6) pa_nil))))
      (pss_one (ps_ret (pe_and (pe_callB call_isi (by rfl) T.b_isinstance (by decide +kernel) (pa_cons (pv 8) (pa_cons (pe_bltn (v := .ty "bool") (by rfl) T.b_bool (by decide +kernel) rfl) pa_nil))) (pe_one (pe_cmpR op_eq (pv 8) (pe_cmpR op_lt (pe_op op_mulW (pe_op op_mulW (pe_op op_sub (pe_op op_mulW (pv 1) (pv 4)) (pe_op op_mulW (pv 3) (pv 2))) (pv 2)) (pv 4)) pe_int (nomark _)) (nomark _))))))))))))))))))), ?_⟩
    try dsimp only [cxK, cxw, cxprog]
    walk_at "go"
    refine .mk W h (fun S1 H1 W1 hS1 => ?_)
    rw [ea]
    walk_at "go"
    refine .mk W1 (by walk_at "is") (fun S2 H2 W2 hS2 => ?_)
    rw [eb]
    walk_at "go"
    refine .mk W2 (by walk_at "is") (fun S3 H3 W3 hS3 => ?_)
    rw [ec]
    walk_at "go"
    refine .mk W3 (by walk_at "is") (fun S4 H4 W4 hS4 => ?_)
    rw [ed]
    walk_at "go"
    have pw : ∀ {n : Nat} {z : Int}, z.natAbs < 2 ^ 140 → 140 ≤ n → z.natAbs < 2 ^ n := fun hz hn => Nat.lt_of_lt_of_le hz (Nat.pow_le_pow_right (by decide) hn)
    refine .mk W4 (pw bb (by decide)) (fun hb0 => ?_) (fun hb0 S5 H5 v1 W5 hS5 hv1 => ?_)
    · walk_at "go"
      refine .mk W4 (pw bd (by decide)) (fun he0 => ?_) (fun he0 S6 H6 v2 W6 hS6 hv2 => ?_)
      · walk_at "go"
        refine x_eqD W4 (.str _) (.str _) shp_no shp_no ?_
        walk_at "go"
        refine x_no (by subst hb0; decide +kernel) ?_
        walk_at "go"
        refine x_eqD W4 (.str _) (.str _) shp_no shp_no ?_
        walk_at "go"
        refine x_no (by subst he0; decide +kernel) ?_
        walk_at "go"
        refine x_sure (by simpa using hb0) ?_
        walk_at "go"
        refine x_sure (by simpa using hb0) ?_
        exact k _
      · walk_at "go"
        refine x_eqD W6 (.str _) (.str _) shp_no shp_no ?_
        walk_at "go"
        refine x_no (by subst hb0; decide +kernel) ?_
        walk_at "go"
        refine x_eqD W6 hv2 (.str _) (shp_rat _) shp_no ?_
        walk_at "go"
        refine x_no (by
          have e1 : decide (e = 0) = false := by simpa using he0
          rw [e1]
          rfl) ?_
        walk_at "go"
        refine x_sure (by simpa using hb0) ?_
        walk_at "go"
        refine x_sure (by simpa using hb0) ?_
        exact k _
    · walk_at "go"
      have eb0 : decide (b = 0) = false := by simpa using hb0
      have r1 := rat_isR (t := a) hb0
      have b1 := br_rat ba bb hb0
      have q1 : CMulW (rat a b).1 b := cmulw_of b1.2.1 bb
      have q2 : CMulW a (rat a b).2 := cmulw_of ba b1.2.2
      refine .mk W5 (pw bd (by decide)) (fun he0 => ?_) (fun he0 S6 H6 v2 W6 hS6 hv2 => ?_)
      · walk_at "go"
        refine x_eqD W5 hv1 (.str _) (shp_rat _) shp_no ?_
        walk_at "go"
        refine x_no (by rw [eb0]; rfl) ?_
        walk_at "go"
        refine x_eqD W5 (.str _) (.str _) shp_no shp_no ?_
        walk_at "go"
        refine x_no (by subst he0; decide +kernel) ?_
        walk_at "go"
        refine x_no eb0 ?_
        walk_at "go"
        refine x_sure (by simpa using he0) ?_
        walk_at "go"
        refine x_no eb0 ?_
        walk_at "go"
        exact .mk W5 hv1 r1 rat_eq q1 q2 (k _)
      · walk_at "go"
        have ee0 : decide (e = 0) = false := by simpa using he0
        have r2 := rat_isR (t := c) he0
        have b2 := br_rat bc bd he0
        have q3 : CMulW (rat c e).1 e := cmulw_of b2.2.1 bd
        have q4 : CMulW c (rat c e).2 := cmulw_of bc b2.2.2
        refine x_eqD W6 (by walk_at "is") (.str _) (shp_rat _) shp_no ?_
        walk_at "go"
        refine x_no (by rw [eb0]; rfl) ?_
        walk_at "go"
        refine x_eqD W6 (by walk_at "is") (.str _) (shp_rat _) shp_no ?_
        walk_at "go"
        refine x_no (by rw [ee0]; rfl) ?_
        walk_at "go"
        refine x_no eb0 ?_
        walk_at "go"
        refine x_no ee0 ?_
        walk_at "go"
        refine .mk W6 (dp_mono hS6 hv1) r1 rat_eq q1 q2 ?_
        walk_at "go"
        refine .mk W6 hv2 r2 rat_eq q3 q4 ?_
        walk_at "go"
        generalize eR : rat a b = R at *
        generalize eT : rat c e = U at *
        have eR1 : R.1 * b = a * R.2 := by rw [← eR]; exact rat_eq
        have eU1 : U.1 * e = c * U.2 := by rw [← eT]; exact rat_eq
        have hn : R.2 * U.2 ≠ 0 := by have := Int.mul_pos b1.1 b2.1; omega
        have c1 : CMulW a e := cmulw_of ba bd
        have c2 : CMulW c b := cmulw_of bc bb
        have c3 : CMulW b e := cmulw_of bb bd
        have c4 : CMulW a c := cmulw_of ba bc
        have c5 : CMulW b c := cmulw_of bb bc
        have m1 := sm_mul ba bd
        have m2 := sm_mul bc bb
        have m3 := sm_mul bb bd
        have m4 := sm_mul ba bc
        have m5 := sm_mul bb bc
        have m6 := sm_add m1 m2
        have m7 := sm_sub m1 m2
        have m8 := sm_mul m7 bb
        have c6 : CMulW (a * e - c * b) b := cmulw_of m7 bb
        have c7 : CMulW ((a * e - c * b) * b) e := cmulw_of m8 bd
        have n1 := sm_mul b1.2.2 b2.2.2
        have n2 := sm_mul b1.2.1 b2.2.2
        have n3 := sm_mul b2.2.1 b1.2.2
        have n4 := sm_add n2 n3
        have n5 := sm_sub n2 n3
        have n6 := sm_mul b1.2.1 b2.2.1
        have n7 := sm_mul b1.2.2 b2.2.1
        refine .mk W6 (dp_mono hS6 hv1) hv2 b1 b2 (fun S7 H7 v3 W7 hS7 hv3 => ?_)
        walk_at "go"
        refine .mk W7 hv3 (rat_isR hn) (plus_eq eR1 eU1 hn rat_eq) (cmulw_of (Nat.lt_of_le_of_lt rat_abs1 n4) m3) (cmulw_of m6 (Nat.lt_of_le_of_lt rat_abs2 n1)) ?_
        walk_at "go"
        refine .mk W7 (by walk_at "is") (by walk_at "is") b1 b2 (fun S8 H8 v4 W8 hS8 hv4 => ?_)
        walk_at "go"
        refine .mk W8 hv4 (rat_isR hn) (minus_eq eR1 eU1 hn rat_eq) (cmulw_of (Nat.lt_of_le_of_lt rat_abs1 n5) m3) (cmulw_of m7 (Nat.lt_of_le_of_lt rat_abs2 n1)) ?_
        walk_at "go"
        refine .mk W8 (by walk_at "is") (by walk_at "is") b1 b2 (fun S9 H9 v5 W9 hS9 hv5 => ?_)
        walk_at "go"
        refine .mk W9 hv5 (rat_isR hn) (times_eq eR1 eU1 hn rat_eq) (cmulw_of (Nat.lt_of_le_of_lt rat_abs1 n6) m3) (cmulw_of m4 (Nat.lt_of_le_of_lt rat_abs2 n1)) ?_
        walk_at "go"
        have hz : U.1 = 0 ↔ c = 0 := num_zero he0 b2.1 eU1
        have hl : decide (R.1 * U.2 < U.1 * R.2) = decide ((a * e - c * b) * b * e < 0) := decide_eq_decide.mpr (less_iff eR1 eU1 hb0 he0 b1.1 b2.1)
        refine .mk W9 (by walk_at "is") (by walk_at "is") b1 b2 (fun hc0 => ?_) (fun hc0 SA HA v6 WA hSA hv6 => ?_)
        · have hc := hz.mp hc0
          walk_at "go"
          refine x_eqD W9 (.str _) (.str _) shp_no shp_no ?_
          walk_at "go"
          refine x_no (by subst hc; decide +kernel) ?_
          walk_at "go"
          refine x_no (by simpa using hc) ?_
          walk_at "go"
          refine .mk W9 (by walk_at "is") (by walk_at "is") b1 b2 ?_
          walk_at "go"
          rw [hl, decide_eq_true rfl]
          exact k _
        · have hc : c ≠ 0 := fun z => hc0 (hz.mpr z)
          have hn2 : R.2 * U.1 ≠ 0 := Int.mul_ne_zero (by have := b1.1; omega) hc0
          walk_at "go"
          refine x_eqD WA hv6 (.str _) (shp_rat _) shp_no ?_
          walk_at "go"
          refine x_no (by
            have e1 : decide (c = 0) = false := by simpa using hc
            rw [e1]
            rfl) ?_
          walk_at "go"
          refine x_sure (by simpa using hc) ?_
          walk_at "go"
          refine .mk WA hv6 (rat_isR hn2) (over_eq eR1 eU1 hn2 rat_eq) (cmulw_of (Nat.lt_of_le_of_lt rat_abs1 n2) m5) (cmulw_of m1 (Nat.lt_of_le_of_lt rat_abs2 n7)) ?_
          walk_at "go"
          refine .mk WA (by walk_at "is") (by walk_at "is") b1 b2 ?_
          walk_at "go"
          rw [hl, decide_eq_true rfl]
          exact k _
end
end SB
namespace SB
open PySem PySem.Spec PyProof.Rows L2
theorem all_mk {K : PySem.W.Frag} {h : Heap} {mg : Str → Option Value} {fa f_common f_ratio f_plus f_minus f_times f_over f_is_less f_law_cell f_law_mix f_law_whole f_law_whole_of f_law_made f_law_over f_law_is f_law c_BestError c_NoNetwork c_NoTable c_NoRatio c_NoWay : Addr}
    {od_common an_common : Option Addr} {sl_common : Array (Option Value)} {oc_common kV_common dc_common pm_common cd_common ct_common : Value}
    {od_ratio an_ratio : Option Addr} {sl_ratio : Array (Option Value)} {oc_ratio kV_ratio dc_ratio pm_ratio cd_ratio ct_ratio : Value}
    {od_plus an_plus : Option Addr} {sl_plus : Array (Option Value)} {oc_plus kV_plus dc_plus pm_plus cd_plus ct_plus : Value}
    {od_minus an_minus : Option Addr} {sl_minus : Array (Option Value)} {oc_minus kV_minus dc_minus pm_minus cd_minus ct_minus : Value}
    {od_times an_times : Option Addr} {sl_times : Array (Option Value)} {oc_times kV_times dc_times pm_times cd_times ct_times : Value}
    {od_over an_over : Option Addr} {sl_over : Array (Option Value)} {oc_over kV_over dc_over pm_over cd_over ct_over : Value}
    {od_is_less an_is_less : Option Addr} {sl_is_less : Array (Option Value)} {oc_is_less kV_is_less dc_is_less pm_is_less cd_is_less ct_is_less : Value}
    {od_law_cell an_law_cell : Option Addr} {sl_law_cell : Array (Option Value)} {oc_law_cell kV_law_cell dc_law_cell pm_law_cell cd_law_cell ct_law_cell : Value}
    {od_law_mix an_law_mix : Option Addr} {sl_law_mix : Array (Option Value)} {oc_law_mix kV_law_mix dc_law_mix pm_law_mix cd_law_mix ct_law_mix : Value}
    {od_law_whole an_law_whole : Option Addr} {sl_law_whole : Array (Option Value)} {oc_law_whole kV_law_whole dc_law_whole pm_law_whole cd_law_whole ct_law_whole : Value}
    {od_law_whole_of an_law_whole_of : Option Addr} {sl_law_whole_of : Array (Option Value)} {oc_law_whole_of kV_law_whole_of dc_law_whole_of pm_law_whole_of cd_law_whole_of ct_law_whole_of : Value}
    {od_law_made an_law_made : Option Addr} {sl_law_made : Array (Option Value)} {oc_law_made kV_law_made dc_law_made pm_law_made cd_law_made ct_law_made : Value}
    {od_law_over an_law_over : Option Addr} {sl_law_over : Array (Option Value)} {oc_law_over kV_law_over dc_law_over pm_law_over cd_law_over ct_law_over : Value}
    {od_law_is an_law_is : Option Addr} {sl_law_is : Array (Option Value)} {oc_law_is kV_law_is dc_law_is pm_law_is cd_law_is ct_law_is : Value}
    {od_law an_law : Option Addr} {sl_law : Array (Option Value)} {oc_law kV_law dc_law pm_law cd_law ct_law : Value} (X : K.In h) (G : h.Ns mainGlobals mg) (hfa : mg "law" = some (.ref fa))
    (A_common : PySem.W.nsIn K mainGlobals "common" = some (some (.ref f_common)))
    (L_common : K.lookup f_common = some ⟨oc_common, od_common, .func (PySem.W.fnOf "common" "common" (defArgs s_common) (defBody s_common) (defScope s_common) .none kV_common dc_common pm_common an_common cd_common ct_common), sl_common⟩)
    (C_common : PySem.W.codeIn K cd_common "common" = true)
    (K_common : PySem.W.keepIn K (.ref f_common) = true)
    (A_ratio : PySem.W.nsIn K mainGlobals "ratio" = some (some (.ref f_ratio)))
    (L_ratio : K.lookup f_ratio = some ⟨oc_ratio, od_ratio, .func (PySem.W.fnOf "ratio" "ratio" (defArgs s_ratio) (defBody s_ratio) (defScope s_ratio) .none kV_ratio dc_ratio pm_ratio an_ratio cd_ratio ct_ratio), sl_ratio⟩)
    (C_ratio : PySem.W.codeIn K cd_ratio "ratio" = true)
    (K_ratio : PySem.W.keepIn K (.ref f_ratio) = true)
    (A_plus : PySem.W.nsIn K mainGlobals "plus" = some (some (.ref f_plus)))
    (L_plus : K.lookup f_plus = some ⟨oc_plus, od_plus, .func (PySem.W.fnOf "plus" "plus" (defArgs s_plus) (defBody s_plus) (defScope s_plus) .none kV_plus dc_plus pm_plus an_plus cd_plus ct_plus), sl_plus⟩)
    (C_plus : PySem.W.codeIn K cd_plus "plus" = true)
    (K_plus : PySem.W.keepIn K (.ref f_plus) = true)
    (A_minus : PySem.W.nsIn K mainGlobals "minus" = some (some (.ref f_minus)))
    (L_minus : K.lookup f_minus = some ⟨oc_minus, od_minus, .func (PySem.W.fnOf "minus" "minus" (defArgs s_minus) (defBody s_minus) (defScope s_minus) .none kV_minus dc_minus pm_minus an_minus cd_minus ct_minus), sl_minus⟩)
    (C_minus : PySem.W.codeIn K cd_minus "minus" = true)
    (K_minus : PySem.W.keepIn K (.ref f_minus) = true)
    (A_times : PySem.W.nsIn K mainGlobals "times" = some (some (.ref f_times)))
    (L_times : K.lookup f_times = some ⟨oc_times, od_times, .func (PySem.W.fnOf "times" "times" (defArgs s_times) (defBody s_times) (defScope s_times) .none kV_times dc_times pm_times an_times cd_times ct_times), sl_times⟩)
    (C_times : PySem.W.codeIn K cd_times "times" = true)
    (K_times : PySem.W.keepIn K (.ref f_times) = true)
    (A_over : PySem.W.nsIn K mainGlobals "over" = some (some (.ref f_over)))
    (L_over : K.lookup f_over = some ⟨oc_over, od_over, .func (PySem.W.fnOf "over" "over" (defArgs s_over) (defBody s_over) (defScope s_over) .none kV_over dc_over pm_over an_over cd_over ct_over), sl_over⟩)
    (C_over : PySem.W.codeIn K cd_over "over" = true)
    (K_over : PySem.W.keepIn K (.ref f_over) = true)
    (A_is_less : PySem.W.nsIn K mainGlobals "is_less" = some (some (.ref f_is_less)))
    (L_is_less : K.lookup f_is_less = some ⟨oc_is_less, od_is_less, .func (PySem.W.fnOf "is_less" "is_less" (defArgs s_is_less) (defBody s_is_less) (defScope s_is_less) .none kV_is_less dc_is_less pm_is_less an_is_less cd_is_less ct_is_less), sl_is_less⟩)
    (C_is_less : PySem.W.codeIn K cd_is_less "is_less" = true)
    (K_is_less : PySem.W.keepIn K (.ref f_is_less) = true)
    (A_law_cell : PySem.W.nsIn K mainGlobals "_law_cell" = some (some (.ref f_law_cell)))
    (L_law_cell : K.lookup f_law_cell = some ⟨oc_law_cell, od_law_cell, .func (PySem.W.fnOf "_law_cell" "_law_cell" (defArgs s_law_cell) (defBody s_law_cell) (defScope s_law_cell) .none kV_law_cell dc_law_cell pm_law_cell an_law_cell cd_law_cell ct_law_cell), sl_law_cell⟩)
    (C_law_cell : PySem.W.codeIn K cd_law_cell "_law_cell" = true)
    (K_law_cell : PySem.W.keepIn K (.ref f_law_cell) = true)
    (A_law_mix : PySem.W.nsIn K mainGlobals "_law_mix" = some (some (.ref f_law_mix)))
    (L_law_mix : K.lookup f_law_mix = some ⟨oc_law_mix, od_law_mix, .func (PySem.W.fnOf "_law_mix" "_law_mix" (defArgs s_law_mix) (defBody s_law_mix) (defScope s_law_mix) .none kV_law_mix dc_law_mix pm_law_mix an_law_mix cd_law_mix ct_law_mix), sl_law_mix⟩)
    (C_law_mix : PySem.W.codeIn K cd_law_mix "_law_mix" = true)
    (K_law_mix : PySem.W.keepIn K (.ref f_law_mix) = true)
    (A_law_whole : PySem.W.nsIn K mainGlobals "_law_whole" = some (some (.ref f_law_whole)))
    (L_law_whole : K.lookup f_law_whole = some ⟨oc_law_whole, od_law_whole, .func (PySem.W.fnOf "_law_whole" "_law_whole" (defArgs s_law_whole) (defBody s_law_whole) (defScope s_law_whole) .none kV_law_whole dc_law_whole pm_law_whole an_law_whole cd_law_whole ct_law_whole), sl_law_whole⟩)
    (C_law_whole : PySem.W.codeIn K cd_law_whole "_law_whole" = true)
    (K_law_whole : PySem.W.keepIn K (.ref f_law_whole) = true)
    (A_law_whole_of : PySem.W.nsIn K mainGlobals "_law_whole_of" = some (some (.ref f_law_whole_of)))
    (L_law_whole_of : K.lookup f_law_whole_of = some ⟨oc_law_whole_of, od_law_whole_of, .func (PySem.W.fnOf "_law_whole_of" "_law_whole_of" (defArgs s_law_whole_of) (defBody s_law_whole_of) (defScope s_law_whole_of) .none kV_law_whole_of dc_law_whole_of pm_law_whole_of an_law_whole_of cd_law_whole_of ct_law_whole_of), sl_law_whole_of⟩)
    (C_law_whole_of : PySem.W.codeIn K cd_law_whole_of "_law_whole_of" = true)
    (K_law_whole_of : PySem.W.keepIn K (.ref f_law_whole_of) = true)
    (A_law_made : PySem.W.nsIn K mainGlobals "_law_made" = some (some (.ref f_law_made)))
    (L_law_made : K.lookup f_law_made = some ⟨oc_law_made, od_law_made, .func (PySem.W.fnOf "_law_made" "_law_made" (defArgs s_law_made) (defBody s_law_made) (defScope s_law_made) .none kV_law_made dc_law_made pm_law_made an_law_made cd_law_made ct_law_made), sl_law_made⟩)
    (C_law_made : PySem.W.codeIn K cd_law_made "_law_made" = true)
    (K_law_made : PySem.W.keepIn K (.ref f_law_made) = true)
    (A_law_over : PySem.W.nsIn K mainGlobals "_law_over" = some (some (.ref f_law_over)))
    (L_law_over : K.lookup f_law_over = some ⟨oc_law_over, od_law_over, .func (PySem.W.fnOf "_law_over" "_law_over" (defArgs s_law_over) (defBody s_law_over) (defScope s_law_over) .none kV_law_over dc_law_over pm_law_over an_law_over cd_law_over ct_law_over), sl_law_over⟩)
    (C_law_over : PySem.W.codeIn K cd_law_over "_law_over" = true)
    (K_law_over : PySem.W.keepIn K (.ref f_law_over) = true)
    (A_law_is : PySem.W.nsIn K mainGlobals "_law_is" = some (some (.ref f_law_is)))
    (L_law_is : K.lookup f_law_is = some ⟨oc_law_is, od_law_is, .func (PySem.W.fnOf "_law_is" "_law_is" (defArgs s_law_is) (defBody s_law_is) (defScope s_law_is) .none kV_law_is dc_law_is pm_law_is an_law_is cd_law_is ct_law_is), sl_law_is⟩)
    (C_law_is : PySem.W.codeIn K cd_law_is "_law_is" = true)
    (K_law_is : PySem.W.keepIn K (.ref f_law_is) = true)
    (A_law : PySem.W.nsIn K mainGlobals "law" = some (some (.ref f_law)))
    (L_law : K.lookup f_law = some ⟨oc_law, od_law, .func (PySem.W.fnOf "law" "law" (defArgs s_law) (defBody s_law) (defScope s_law) .none kV_law dc_law pm_law an_law cd_law ct_law), sl_law⟩)
    (C_law : PySem.W.codeIn K cd_law "law" = true)
    (K_law : PySem.W.keepIn K (.ref f_law) = true)
    (B_BestError : PySem.W.nsIn K mainGlobals "BestError" = some (some (.ref c_BestError)))
    (K_BestError : PySem.W.keepIn K (.ref c_BestError) = true)
    (X_BestError : PySem.W.excIn K c_BestError veT "ValueError.__new__" = true)
    (S_BestError : PySem.W.subIn K (.ref c_BestError) (.type "BaseException") = some true)
    (T_BestError : PySem.W.typeIn K (.ref c_BestError) = some (.type "type"))
    (I_BestError : PySem.W.isClsIn K c_BestError = true)
    (B_NoNetwork : PySem.W.nsIn K mainGlobals "NoNetwork" = some (some (.ref c_NoNetwork)))
    (K_NoNetwork : PySem.W.keepIn K (.ref c_NoNetwork) = true)
    (X_NoNetwork : PySem.W.excIn K c_NoNetwork veT "ValueError.__new__" = true)
    (S_NoNetwork : PySem.W.subIn K (.ref c_NoNetwork) (.type "BaseException") = some true)
    (T_NoNetwork : PySem.W.typeIn K (.ref c_NoNetwork) = some (.type "type"))
    (I_NoNetwork : PySem.W.isClsIn K c_NoNetwork = true)
    (B_NoTable : PySem.W.nsIn K mainGlobals "NoTable" = some (some (.ref c_NoTable)))
    (K_NoTable : PySem.W.keepIn K (.ref c_NoTable) = true)
    (X_NoTable : PySem.W.excIn K c_NoTable veT "ValueError.__new__" = true)
    (S_NoTable : PySem.W.subIn K (.ref c_NoTable) (.type "BaseException") = some true)
    (T_NoTable : PySem.W.typeIn K (.ref c_NoTable) = some (.type "type"))
    (I_NoTable : PySem.W.isClsIn K c_NoTable = true)
    (B_NoRatio : PySem.W.nsIn K mainGlobals "NoRatio" = some (some (.ref c_NoRatio)))
    (K_NoRatio : PySem.W.keepIn K (.ref c_NoRatio) = true)
    (X_NoRatio : PySem.W.excIn K c_NoRatio veT "ValueError.__new__" = true)
    (S_NoRatio : PySem.W.subIn K (.ref c_NoRatio) (.type "BaseException") = some true)
    (T_NoRatio : PySem.W.typeIn K (.ref c_NoRatio) = some (.type "type"))
    (I_NoRatio : PySem.W.isClsIn K c_NoRatio = true)
    (B_NoWay : PySem.W.nsIn K mainGlobals "NoWay" = some (some (.ref c_NoWay)))
    (K_NoWay : PySem.W.keepIn K (.ref c_NoWay) = true)
    (X_NoWay : PySem.W.excIn K c_NoWay veT "ValueError.__new__" = true)
    (S_NoWay : PySem.W.subIn K (.ref c_NoWay) (.type "BaseException") = some true)
    (T_NoWay : PySem.W.typeIn K (.ref c_NoWay) = some (.type "type"))
    (I_NoWay : PySem.W.isClsIn K c_NoWay = true)
    (e_NoRatio_BestError : PySem.W.subIn K (.ref c_NoRatio) (.ref c_BestError) = some true)
    (yga_NoRatio : PySem.W.findIn K (.ref c_NoRatio) "__getattribute__" = some (some (.builtin "BaseException.__getattribute__")))
    (ygg_NoRatio : PySem.W.findIn K (.ref c_NoRatio) "__getattr__" = some none)
    (yhh_NoRatio : PySem.W.hasDictIn K c_NoRatio = true)
    (ycl_NoRatio : PySem.W.findIn K (.ref c_NoRatio) "__class__" = some (some (.builtin "object.__class__")))
    (ymo_NoRatio : PySem.W.mroIn K c_NoRatio (.type "object") = some true)
    (ysp_NoRatio : PySem.W.specialIn K (.builtin "object.__class__") "__get__" = some (some (.builtin "getset_descriptor.__get__")))
    (ytk_NoRatio : PySem.W.takesIn K (.builtin "object.__class__") = some true)
    (q_NoRatio_ValueError : PySem.W.subIn K (.ref c_NoRatio) (.type "ValueError") = some true)
    (v_NoRatio_NoNetwork : c_NoRatio ≠ c_NoNetwork)
    (q_NoRatio_NoNetwork : PySem.W.subIn K (.ref c_NoRatio) (.ref c_NoNetwork) = some false)
    (v_NoRatio_NoTable : c_NoRatio ≠ c_NoTable)
    (q_NoRatio_NoTable : PySem.W.subIn K (.ref c_NoRatio) (.ref c_NoTable) = some false)
    (v_NoRatio_NoWay : c_NoRatio ≠ c_NoWay)
    (q_NoRatio_NoWay : PySem.W.subIn K (.ref c_NoRatio) (.ref c_NoWay) = some false)
    (z_ValueError : PySem.W.nsIn K mainGlobals "ValueError" = some none)
    (z_abs : PySem.W.nsIn K mainGlobals "abs" = some none)
    (z_bool : PySem.W.nsIn K mainGlobals "bool" = some none)
    (z_int : PySem.W.nsIn K mainGlobals "int" = some none)
    (z_isinstance : PySem.W.nsIn K mainGlobals "isinstance" = some none)
    (z_len : PySem.W.nsIn K mainGlobals "len" = some none)
    (z_tuple : PySem.W.nsIn K mainGlobals "tuple" = some none)
    : ∃ d : Ad, Txt K mg d ∧ d.a_law = fa ∧ ∀ (s : Shared) (u : Value), BindsTo s d.f_law ⟨[u], []⟩ [("_law_script", u)] := by
  have e : f_law = fa := Value.ref.inj (Option.some.inj ((PySem.W.mg_of X G A_law).symm.trans hfa))
  subst e
  refine ⟨{
    a_common := f_common
    f_common := PySem.W.fnOf "common" "common" (defArgs s_common) (defBody s_common) (defScope s_common) .none kV_common dc_common pm_common an_common cd_common ct_common
    a_ratio := f_ratio
    f_ratio := PySem.W.fnOf "ratio" "ratio" (defArgs s_ratio) (defBody s_ratio) (defScope s_ratio) .none kV_ratio dc_ratio pm_ratio an_ratio cd_ratio ct_ratio
    a_plus := f_plus
    f_plus := PySem.W.fnOf "plus" "plus" (defArgs s_plus) (defBody s_plus) (defScope s_plus) .none kV_plus dc_plus pm_plus an_plus cd_plus ct_plus
    a_minus := f_minus
    f_minus := PySem.W.fnOf "minus" "minus" (defArgs s_minus) (defBody s_minus) (defScope s_minus) .none kV_minus dc_minus pm_minus an_minus cd_minus ct_minus
    a_times := f_times
    f_times := PySem.W.fnOf "times" "times" (defArgs s_times) (defBody s_times) (defScope s_times) .none kV_times dc_times pm_times an_times cd_times ct_times
    a_over := f_over
    f_over := PySem.W.fnOf "over" "over" (defArgs s_over) (defBody s_over) (defScope s_over) .none kV_over dc_over pm_over an_over cd_over ct_over
    a_is_less := f_is_less
    f_is_less := PySem.W.fnOf "is_less" "is_less" (defArgs s_is_less) (defBody s_is_less) (defScope s_is_less) .none kV_is_less dc_is_less pm_is_less an_is_less cd_is_less ct_is_less
    a_law_cell := f_law_cell
    f_law_cell := PySem.W.fnOf "_law_cell" "_law_cell" (defArgs s_law_cell) (defBody s_law_cell) (defScope s_law_cell) .none kV_law_cell dc_law_cell pm_law_cell an_law_cell cd_law_cell ct_law_cell
    a_law_mix := f_law_mix
    f_law_mix := PySem.W.fnOf "_law_mix" "_law_mix" (defArgs s_law_mix) (defBody s_law_mix) (defScope s_law_mix) .none kV_law_mix dc_law_mix pm_law_mix an_law_mix cd_law_mix ct_law_mix
    a_law_whole := f_law_whole
    f_law_whole := PySem.W.fnOf "_law_whole" "_law_whole" (defArgs s_law_whole) (defBody s_law_whole) (defScope s_law_whole) .none kV_law_whole dc_law_whole pm_law_whole an_law_whole cd_law_whole ct_law_whole
    a_law_whole_of := f_law_whole_of
    f_law_whole_of := PySem.W.fnOf "_law_whole_of" "_law_whole_of" (defArgs s_law_whole_of) (defBody s_law_whole_of) (defScope s_law_whole_of) .none kV_law_whole_of dc_law_whole_of pm_law_whole_of an_law_whole_of cd_law_whole_of ct_law_whole_of
    a_law_made := f_law_made
    f_law_made := PySem.W.fnOf "_law_made" "_law_made" (defArgs s_law_made) (defBody s_law_made) (defScope s_law_made) .none kV_law_made dc_law_made pm_law_made an_law_made cd_law_made ct_law_made
    a_law_over := f_law_over
    f_law_over := PySem.W.fnOf "_law_over" "_law_over" (defArgs s_law_over) (defBody s_law_over) (defScope s_law_over) .none kV_law_over dc_law_over pm_law_over an_law_over cd_law_over ct_law_over
    a_law_is := f_law_is
    f_law_is := PySem.W.fnOf "_law_is" "_law_is" (defArgs s_law_is) (defBody s_law_is) (defScope s_law_is) .none kV_law_is dc_law_is pm_law_is an_law_is cd_law_is ct_law_is
    a_law := f_law
    f_law := PySem.W.fnOf "law" "law" (defArgs s_law) (defBody s_law) (defScope s_law) .none kV_law dc_law pm_law an_law cd_law ct_law
    c_BestError := c_BestError
    c_NoNetwork := c_NoNetwork
    c_NoTable := c_NoTable
    c_NoRatio := c_NoRatio
    c_NoWay := c_NoWay
    }, {
    F_common := fun_mk (st := s_common) L_common C_common K_common
    p_common := (fun_mk (st := s_common) L_common C_common K_common).binds fun _ _ _ _ _ _ us hl => match us, hl with | [_, _], _ => rfl
    g_common := PySem.W.mg_of X G A_common
    k_common := K_common
    F_ratio := fun_mk (st := s_ratio) L_ratio C_ratio K_ratio
    p_ratio := (fun_mk (st := s_ratio) L_ratio C_ratio K_ratio).binds fun _ _ _ _ _ _ us hl => match us, hl with | [_, _], _ => rfl
    g_ratio := PySem.W.mg_of X G A_ratio
    k_ratio := K_ratio
    F_plus := fun_mk (st := s_plus) L_plus C_plus K_plus
    p_plus := (fun_mk (st := s_plus) L_plus C_plus K_plus).binds fun _ _ _ _ _ _ us hl => match us, hl with | [_, _], _ => rfl
    g_plus := PySem.W.mg_of X G A_plus
    k_plus := K_plus
    F_minus := fun_mk (st := s_minus) L_minus C_minus K_minus
    p_minus := (fun_mk (st := s_minus) L_minus C_minus K_minus).binds fun _ _ _ _ _ _ us hl => match us, hl with | [_, _], _ => rfl
    g_minus := PySem.W.mg_of X G A_minus
    k_minus := K_minus
    F_times := fun_mk (st := s_times) L_times C_times K_times
    p_times := (fun_mk (st := s_times) L_times C_times K_times).binds fun _ _ _ _ _ _ us hl => match us, hl with | [_, _], _ => rfl
    g_times := PySem.W.mg_of X G A_times
    k_times := K_times
    F_over := fun_mk (st := s_over) L_over C_over K_over
    p_over := (fun_mk (st := s_over) L_over C_over K_over).binds fun _ _ _ _ _ _ us hl => match us, hl with | [_, _], _ => rfl
    g_over := PySem.W.mg_of X G A_over
    k_over := K_over
    F_is_less := fun_mk (st := s_is_less) L_is_less C_is_less K_is_less
    p_is_less := (fun_mk (st := s_is_less) L_is_less C_is_less K_is_less).binds fun _ _ _ _ _ _ us hl => match us, hl with | [_, _], _ => rfl
    g_is_less := PySem.W.mg_of X G A_is_less
    k_is_less := K_is_less
    F_law_cell := fun_mk (st := s_law_cell) L_law_cell C_law_cell K_law_cell
    p_law_cell := (fun_mk (st := s_law_cell) L_law_cell C_law_cell K_law_cell).binds fun _ _ _ _ _ _ us hl => match us, hl with | [_, _], _ => rfl
    g_law_cell := PySem.W.mg_of X G A_law_cell
    k_law_cell := K_law_cell
    F_law_mix := fun_mk (st := s_law_mix) L_law_mix C_law_mix K_law_mix
    p_law_mix := (fun_mk (st := s_law_mix) L_law_mix C_law_mix K_law_mix).binds fun _ _ _ _ _ _ us hl => match us, hl with | [_, _], _ => rfl
    g_law_mix := PySem.W.mg_of X G A_law_mix
    k_law_mix := K_law_mix
    F_law_whole := fun_mk (st := s_law_whole) L_law_whole C_law_whole K_law_whole
    p_law_whole := (fun_mk (st := s_law_whole) L_law_whole C_law_whole K_law_whole).binds fun _ _ _ _ _ _ us hl => match us, hl with | [_], _ => rfl
    g_law_whole := PySem.W.mg_of X G A_law_whole
    k_law_whole := K_law_whole
    F_law_whole_of := fun_mk (st := s_law_whole_of) L_law_whole_of C_law_whole_of K_law_whole_of
    p_law_whole_of := (fun_mk (st := s_law_whole_of) L_law_whole_of C_law_whole_of K_law_whole_of).binds fun _ _ _ _ _ _ us hl => match us, hl with | [_, _], _ => rfl
    g_law_whole_of := PySem.W.mg_of X G A_law_whole_of
    k_law_whole_of := K_law_whole_of
    F_law_made := fun_mk (st := s_law_made) L_law_made C_law_made K_law_made
    p_law_made := (fun_mk (st := s_law_made) L_law_made C_law_made K_law_made).binds fun _ _ _ _ _ _ us hl => match us, hl with | [_, _], _ => rfl
    g_law_made := PySem.W.mg_of X G A_law_made
    k_law_made := K_law_made
    F_law_over := fun_mk (st := s_law_over) L_law_over C_law_over K_law_over
    p_law_over := (fun_mk (st := s_law_over) L_law_over C_law_over K_law_over).binds fun _ _ _ _ _ _ us hl => match us, hl with | [_, _], _ => rfl
    g_law_over := PySem.W.mg_of X G A_law_over
    k_law_over := K_law_over
    F_law_is := fun_mk (st := s_law_is) L_law_is C_law_is K_law_is
    p_law_is := (fun_mk (st := s_law_is) L_law_is C_law_is K_law_is).binds fun _ _ _ _ _ _ us hl => match us, hl with | [_, _, _], _ => rfl
    g_law_is := PySem.W.mg_of X G A_law_is
    k_law_is := K_law_is
    F_law := fun_mk (st := s_law) L_law C_law K_law
    p_law := (fun_mk (st := s_law) L_law C_law K_law).binds fun _ _ _ _ _ _ us hl => match us, hl with | [_], _ => rfl
    g_law := PySem.W.mg_of X G A_law
    k_law := K_law
    g_BestError := PySem.W.mg_of X G B_BestError
    k_BestError := K_BestError
    x_BestError := X_BestError
    s_BestError := S_BestError
    t_BestError := T_BestError
    i_BestError := I_BestError
    g_NoNetwork := PySem.W.mg_of X G B_NoNetwork
    k_NoNetwork := K_NoNetwork
    x_NoNetwork := X_NoNetwork
    s_NoNetwork := S_NoNetwork
    t_NoNetwork := T_NoNetwork
    i_NoNetwork := I_NoNetwork
    g_NoTable := PySem.W.mg_of X G B_NoTable
    k_NoTable := K_NoTable
    x_NoTable := X_NoTable
    s_NoTable := S_NoTable
    t_NoTable := T_NoTable
    i_NoTable := I_NoTable
    g_NoRatio := PySem.W.mg_of X G B_NoRatio
    k_NoRatio := K_NoRatio
    x_NoRatio := X_NoRatio
    s_NoRatio := S_NoRatio
    t_NoRatio := T_NoRatio
    i_NoRatio := I_NoRatio
    g_NoWay := PySem.W.mg_of X G B_NoWay
    k_NoWay := K_NoWay
    x_NoWay := X_NoWay
    s_NoWay := S_NoWay
    t_NoWay := T_NoWay
    i_NoWay := I_NoWay
    e_NoRatio_BestError := exm_own S_BestError I_BestError T_BestError e_NoRatio_BestError
    y_NoRatio := ⟨yga_NoRatio, ygg_NoRatio, S_NoRatio, yhh_NoRatio, ycl_NoRatio, ysp_NoRatio, ytk_NoRatio, ymo_NoRatio⟩
    q_NoRatio_NoRatio := kit_self
    q_NoRatio_ValueError := kit_bty (by decide +kernel) q_NoRatio_ValueError
    q_NoRatio_NoNetwork := kit_own v_NoRatio_NoNetwork I_NoNetwork T_NoNetwork q_NoRatio_NoNetwork
    q_NoRatio_NoTable := kit_own v_NoRatio_NoTable I_NoTable T_NoTable q_NoRatio_NoTable
    q_NoRatio_NoWay := kit_own v_NoRatio_NoWay I_NoWay T_NoWay q_NoRatio_NoWay
    b_ValueError := PySem.W.mg_none_of X G z_ValueError
    b_abs := PySem.W.mg_none_of X G z_abs
    b_bool := PySem.W.mg_none_of X G z_bool
    b_int := PySem.W.mg_none_of X G z_int
    b_isinstance := PySem.W.mg_none_of X G z_isinstance
    b_len := PySem.W.mg_none_of X G z_len
    b_tuple := PySem.W.mg_none_of X G z_tuple
    }, rfl, fun s u => .of_eq rfl⟩
theorem walk {l : PySem.W.OpenLaw} {q : Program} {loose : List Str} {XP : (Str → Option Value) → Heap → Prop} {YP : World → Heap → Prop} {d : DefRec} {K : Params → PySem.W.Frag} (hn : l.most = some 63) (hdf : d.params.defaults = [])
    (hY : ∀ (w : World) (h : Heap), YP w h → (K w.params).In h)
    (F : ∀ (w : World) (mg : Str → Option Value) (fa : Addr) (h : Heap), (K w.params).In h → h.Ns mainGlobals mg → mg d.name = some (.ref fa) →
      ∃ d : Ad, Txt (K w.params) mg d ∧ d.a_law = fa ∧ ∀ (s : Shared) (u : Value), BindsTo s d.f_law ⟨[u], []⟩ [("_law_script", u)]) :
    PySem.W.WalkO q loose XP YP l.row.toRowW d [] (fun f vs => PySem.call f vs) :=
  L2.walk_of (n := 63) (k := 6) (x := "_law_script") (CX := fun _ => CX0) (sp := fun w => Sp_law (K w.params)) hn (by decide) hdf ⟨rfl, by decide, by decide⟩ hY
    (fun w mg fa h KX G hmg => by
      obtain ⟨dd, T, e, hb⟩ := F w mg fa h KX G hmg
      subst e
      exact ⟨dd.f_law, hb, fun base _ _ => ok_law T⟩)
    (fun w H a ns hl hO hS => Sp_law.mk (ns := ns) (.lst hS (dpAll_ints ns)) (fun _ => rfl)) fun _ _ _ _ _ z => z
end SB
open PySem PySem.W PyProof.Rows
set_option maxRecDepth 100000 in
set_option maxHeartbeats 0 in
theorem PySem.Challenge.cw_surebest_k01_ratios_holds : PySem.Challenge.rw_surebest_k01_ratios.Holds := by
  w_on; o_law; k_head; (case hw => w_witness2)
  k_fill
  refine SB.walk (l := PySem.Challenge.rw_surebest_k01_ratios) rfl rfl (fun w h Y => PySem.W.kIn_of Y) ?F
  case F =>
    intro w mg fa h KX G hmg
    refine' SB.all_mk KX G hmg ?A_common ?L_common ?C_common ?K_common ?A_ratio ?L_ratio ?C_ratio ?K_ratio ?A_plus ?L_plus ?C_plus ?K_plus ?A_minus ?L_minus ?C_minus ?K_minus ?A_times ?L_times ?C_times ?K_times ?A_over ?L_over ?C_over ?K_over ?A_is_less ?L_is_less ?C_is_less ?K_is_less ?A_law_cell ?L_law_cell ?C_law_cell ?K_law_cell ?A_law_mix ?L_law_mix ?C_law_mix ?K_law_mix ?A_law_whole ?L_law_whole ?C_law_whole ?K_law_whole ?A_law_whole_of ?L_law_whole_of ?C_law_whole_of ?K_law_whole_of ?A_law_made ?L_law_made ?C_law_made ?K_law_made ?A_law_over ?L_law_over ?C_law_over ?K_law_over ?A_law_is ?L_law_is ?C_law_is ?K_law_is ?A_law ?L_law ?C_law ?K_law ?B_BestError ?K_BestError ?X_BestError ?S_BestError ?T_BestError ?I_BestError ?B_NoNetwork ?K_NoNetwork ?X_NoNetwork ?S_NoNetwork ?T_NoNetwork ?I_NoNetwork ?B_NoTable ?K_NoTable ?X_NoTable ?S_NoTable ?T_NoTable ?I_NoTable ?B_NoRatio ?K_NoRatio ?X_NoRatio ?S_NoRatio ?T_NoRatio ?I_NoRatio ?B_NoWay ?K_NoWay ?X_NoWay ?S_NoWay ?T_NoWay ?I_NoWay ?e_NoRatio_BestError ?yga_NoRatio ?ygg_NoRatio ?yhh_NoRatio ?ycl_NoRatio ?ymo_NoRatio ?ysp_NoRatio ?ytk_NoRatio ?q_NoRatio_ValueError ?v_NoRatio_NoNetwork ?q_NoRatio_NoNetwork ?v_NoRatio_NoTable ?q_NoRatio_NoTable ?v_NoRatio_NoWay ?q_NoRatio_NoWay ?z_ValueError ?z_abs ?z_bool ?z_int ?z_isinstance ?z_len ?z_tuple
    (case A_common => k_is)
    (case L_common => k_is)
    (case C_common => k_is)
    (case K_common => k_is)
    (case A_ratio => k_is)
    (case L_ratio => k_is)
    (case C_ratio => k_is)
    (case K_ratio => k_is)
    (case A_plus => k_is)
    (case L_plus => k_is)
    (case C_plus => k_is)
    (case K_plus => k_is)
    (case A_minus => k_is)
    (case L_minus => k_is)
    (case C_minus => k_is)
    (case K_minus => k_is)
    (case A_times => k_is)
    (case L_times => k_is)
    (case C_times => k_is)
    (case K_times => k_is)
    (case A_over => k_is)
    (case L_over => k_is)
    (case C_over => k_is)
    (case K_over => k_is)
    (case A_is_less => k_is)
    (case L_is_less => k_is)
    (case C_is_less => k_is)
    (case K_is_less => k_is)
    (case A_law_cell => k_is)
    (case L_law_cell => k_is)
    (case C_law_cell => k_is)
    (case K_law_cell => k_is)
    (case A_law_mix => k_is)
    (case L_law_mix => k_is)
    (case C_law_mix => k_is)
    (case K_law_mix => k_is)
    (case A_law_whole => k_is)
    (case L_law_whole => k_is)
    (case C_law_whole => k_is)
    (case K_law_whole => k_is)
    (case A_law_whole_of => k_is)
    (case L_law_whole_of => k_is)
    (case C_law_whole_of => k_is)
    (case K_law_whole_of => k_is)
    (case A_law_made => k_is)
    (case L_law_made => k_is)
    (case C_law_made => k_is)
    (case K_law_made => k_is)
    (case A_law_over => k_is)
    (case L_law_over => k_is)
    (case C_law_over => k_is)
    (case K_law_over => k_is)
    (case A_law_is => k_is)
    (case L_law_is => k_is)
    (case C_law_is => k_is)
    (case K_law_is => k_is)
    (case A_law => k_is)
    (case L_law => k_is)
    (case C_law => k_is)
    (case K_law => k_is)
    (case B_BestError => k_is)
    (case K_BestError => k_is)
    (case X_BestError => k_exc)
    (case S_BestError => k_is)
    (case T_BestError => k_is)
    (case I_BestError => k_is)
    (case B_NoNetwork => k_is)
    (case K_NoNetwork => k_is)
    (case X_NoNetwork => k_exc)
    (case S_NoNetwork => k_is)
    (case T_NoNetwork => k_is)
    (case I_NoNetwork => k_is)
    (case B_NoTable => k_is)
    (case K_NoTable => k_is)
    (case X_NoTable => k_exc)
    (case S_NoTable => k_is)
    (case T_NoTable => k_is)
    (case I_NoTable => k_is)
    (case B_NoRatio => k_is)
    (case K_NoRatio => k_is)
    (case X_NoRatio => k_exc)
    (case S_NoRatio => k_is)
    (case T_NoRatio => k_is)
    (case I_NoRatio => k_is)
    (case B_NoWay => k_is)
    (case K_NoWay => k_is)
    (case X_NoWay => k_exc)
    (case S_NoWay => k_is)
    (case T_NoWay => k_is)
    (case I_NoWay => k_is)
    (case e_NoRatio_BestError => k_is)
    (case yga_NoRatio => k_is)
    (case ygg_NoRatio => k_is)
    (case yhh_NoRatio => k_is)
    (case ycl_NoRatio => k_is)
    (case ymo_NoRatio => k_is)
    (case ysp_NoRatio => k_is)
    (case ytk_NoRatio => k_is)
    (case q_NoRatio_ValueError => k_is)
    (case v_NoRatio_NoNetwork => exact (by decide))
    (case q_NoRatio_NoNetwork => k_is)
    (case v_NoRatio_NoTable => exact (by decide))
    (case q_NoRatio_NoTable => k_is)
    (case v_NoRatio_NoWay => exact (by decide))
    (case q_NoRatio_NoWay => k_is)
    (case z_ValueError => k_is)
    (case z_abs => k_is)
    (case z_bool => k_is)
    (case z_int => k_is)
    (case z_isinstance => k_is)
    (case z_len => k_is)
    (case z_tuple => k_is)
#print axioms PySem.Challenge.cw_surebest_k01_ratios_holds
