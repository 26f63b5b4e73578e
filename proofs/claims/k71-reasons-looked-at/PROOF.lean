import PyProof.Rows.All
import Wide.All
import OpenK.AllK
import Wide.FinOn
import HandS.ForMost
import HandS.ForExc
import HandS.Wide
import HandS.IsInst
import HandS.ExcIs
import HandS.Style
import HandS.Flow
import HandS.Zip
import HandS.SortInts
import HandS.SortRule
import HandS.SetFor
import HandS.Strs
import HandS.More
import HandS.Dict
import HandS.Exc
import HandS.ExcValue
import HandS.Conv
import HandS.WordsDict
import PySem.Challenge.RW_surebest_k71_reasons_looked_at
set_option Elab.async false
set_option linter.all false
set_option maxRecDepth 100000
set_option maxHeartbeats 4000000
/-! plain words -/
namespace SB
/-- the item at a place -/
def nth {α : Type} [Inhabited α] (xs : List α) (i : Int) : α := xs.getD i.toNat default
theorem nth_eq {α : Type} [Inhabited α] {xs : List α} {i : Int} {x : α} (h : xs[i.toNat]? = some x) : nth xs i = x := by
  unfold nth
  rw [List.getD_eq_getElem?_getD, h]
  rfl
theorem nth_get {α : Type} [Inhabited α] {xs : List α} {i : Int} (h0 : 0 ≤ i) (h : i < xs.length) : xs[i.toNat]? = some (nth xs i) := by
  have hl : i.toNat < xs.length := by omega
  unfold nth
  rw [List.getD_eq_getElem?_getD, List.getElem?_eq_getElem hl]
  rfl
theorem nth_nat {α : Type} [Inhabited α] {xs : List α} {i : Nat} {x : α} (h : xs[i]? = some x) : nth xs (i : Int) = x := nth_eq (by simpa using h)
theorem nth_mem {α : Type} [Inhabited α] {xs : List α} {i : Int} (h0 : 0 ≤ i) (h : i < xs.length) : nth xs i ∈ xs := List.mem_of_getElem? (nth_get h0 h)
theorem drop_at {α : Type} {xs : List α} {i : Nat} {x : α} (h : xs[i]? = some x) : xs.drop i = x :: xs.drop (i + 1) := by
  obtain ⟨h1, h2⟩ := List.getElem?_eq_some_iff.mp h
  rw [List.drop_eq_getElem_cons h1, h2]
end SB
/-! The layer of these proofs: a stable heap S, owned objects O, data Dp over S; one step lemma a reading. -/
namespace SB
open PySem PySem.Spec PyProof.Rows L2

/-! ### the stable heap and the owned objects -/
structure Wd (K : PySem.W.Frag) (S H : Hp) (O : List (Addr × HO)) : Prop where
  sub : Same S H
  own : ∀ p ∈ O, H p.1 = some p.2 ∧ S p.1 = none
  nd : (O.map (·.1)).Nodup
section
variable {K : PySem.W.Frag} {S S' H : Hp} {O : List (Addr × HO)} {p q : Addr} {o u : HO} {n : Nat}
theorem Wd.all (H : Hp) : Wd K H H [] := ⟨Same.refl H, fun _ h => absurd h (by simp), List.nodup_nil⟩
theorem Wd.frS (W : Wd K S H O) (h : H q = none) : S q = none := W.sub.free h
theorem Wd.frO (W : Wd K S H O) (h : H q = none) : q ∉ O.map (·.1) := fun hm => by
  obtain ⟨r, hr, e⟩ := List.mem_map.mp hm
  have := (W.own r hr).1
  rw [e, h] at this
  cases this
theorem Wd.at (W : Wd K S H O) (n : Nat) (h : O[n]? = some (p, o)) : H p = some o := (W.own _ (List.mem_of_getElem? h)).1
theorem Wd.atS (W : Wd K S H O) (n : Nat) (h : O[n]? = some (p, o)) : S p = none := (W.own _ (List.mem_of_getElem? h)).2
theorem same_new (h : S q = none) : Same S (upd S q o) := fun b u e => by rw [upd_ne (ne_of_none e h)]; exact e
/-- a new object that is ours to change -/
theorem Wd.alloc (W : Wd K S H O) (h : H q = none) : Wd K S (upd H q o) ((q, o) :: O) := by
  refine ⟨fun b u e => ?_, fun r hr => ?_, ?_⟩
  · rw [upd_ne (ne_of_none (W.sub b u e) h)]
    exact W.sub b u e
  · rcases List.mem_cons.mp hr with rfl | hr
    · exact ⟨upd_same, W.frS h⟩
    · exact ⟨by rw [upd_ne (ne_of_none (W.own r hr).1 h)]; exact (W.own r hr).1, (W.own r hr).2⟩
  · rw [List.map_cons]
    exact List.nodup_cons.mpr ⟨W.frO h, W.nd⟩
/-- a new object that stays -/
theorem Wd.new (W : Wd K S H O) (h : H q = none) : Wd K (upd S q o) (upd H q o) O := by
  refine ⟨fun b u e => ?_, fun r hr => ?_, W.nd⟩
  · by_cases hb : b = q
    · subst hb; rw [upd_same] at e ⊢; exact e
    · rw [upd_ne hb] at e ⊢
      exact W.sub b u e
  · have hne : r.1 ≠ q := ne_of_none (W.own r hr).1 h
    exact ⟨by rw [upd_ne hne]; exact (W.own r hr).1, by rw [upd_ne hne]; exact (W.own r hr).2⟩
theorem nodup_at : ∀ {O : List (Addr × HO)} {n m : Nat} {a b : Addr × HO}, (O.map (·.1)).Nodup → O[n]? = some a → O[m]? = some b → a.1 = b.1 → n = m := fun {O n m a b} nd h1 h2 e => by
  have g1 : (O.map (·.1))[n]? = some a.1 := by rw [List.getElem?_map, h1]; rfl
  have g2 : (O.map (·.1))[m]? = some a.1 := by rw [List.getElem?_map, h2, e]; rfl
  exact nd_ix nd g1 g2
/-- one of ours is written -/
theorem Wd.put (W : Wd K S H O) (n : Nat) (h : O[n]? = some (p, o)) : Wd K S (upd H p u) (O.set n (p, u)) := by
  have hn : n < O.length := (List.getElem?_eq_some_iff.mp h).1
  have hS := W.atS n h
  refine ⟨fun b x e => ?_, fun r hr => ?_, ?_⟩
  · rw [upd_ne (ne_of_none e hS)]
    exact W.sub b x e
  · obtain ⟨m, hm⟩ := List.getElem?_of_mem hr
    by_cases hmn : m = n
    · subst hmn
      rw [List.getElem?_set_self hn] at hm
      cases hm
      exact ⟨upd_same, hS⟩
    · rw [List.getElem?_set_ne (Ne.symm hmn)] at hm
      have hne : r.1 ≠ p := fun e => hmn (nodup_at W.nd hm h e)
      have := W.own r (List.mem_of_getElem? hm)
      exact ⟨by rw [upd_ne hne]; exact this.1, this.2⟩
  · have e : (O.set n (p, u)).map (·.1) = O.map (·.1) := by
      have g : (O.map (·.1))[n]? = some p := by rw [List.getElem?_map, h]; rfl
      apply List.ext_getElem?
      intro i
      rw [List.getElem?_map, List.getElem?_map, List.getElem?_set]
      by_cases hi : n = i
      · subst hi
        rw [if_pos rfl, if_pos hn, h]
        rfl
      · rw [if_neg hi]
    rw [e]
    exact W.nd
/-- one of ours is ours no longer: it stays as it is -/
theorem Wd.give (W : Wd K S H O) (n : Nat) (h : O[n]? = some (p, o)) : Wd K (upd S p o) H (O.eraseIdx n) := by
  have hnd : ((O.eraseIdx n).map (·.1)).Nodup := W.nd.sublist ((List.eraseIdx_sublist O n).map _)
  refine ⟨fun b x e => ?_, fun r hr => ?_, hnd⟩
  · by_cases hb : b = p
    · subst hb; rw [upd_same] at e; cases e; exact W.at n h
    · rw [upd_ne hb] at e
      exact W.sub b x e
  · have hr' : r ∈ O := (List.eraseIdx_sublist O n).subset hr
    have hne : r.1 ≠ p := by
      intro e
      obtain ⟨i, hi⟩ := List.getElem?_of_mem hr
      rw [List.getElem?_eraseIdx] at hi
      split at hi
      · have := nodup_at W.nd hi h e
        omega
      · have := nodup_at W.nd hi h e
        omega
    exact ⟨by have := (W.own r hr').1; exact this, by rw [upd_ne hne]; exact (W.own r hr').2⟩
/-- a stable heap that grew -/
theorem Wd.lst (W : Wd K S H O) {xs : List V} (h : SqL K S p xs) : SqL K H p xs := W.sub.seq h
theorem same_rd {H H' : Hp} {a : Addr} {u : HO} (e : Same H H') (h : Rd H a u) : Rd H' a u := by
  rcases h with h | ⟨o, h⟩
  · exact .inl (e _ _ h)
  · exact .inr ⟨o, e _ _ h⟩
theorem same_t {K : PySem.W.Frag} {H H' : Hp} {a : Addr} {xs : List V} (e : Same H H') (h : SqT K H a xs) : SqT K H' a xs := by
  rcases h with h | h
  · exact .inl (same_rd e h)
  · exact .inr h
theorem Wd.tup (W : Wd K S H O) {xs : List V} (h : SqT K S p xs) : SqT K H p xs := same_t W.sub h
end

/-! ### data -/
section
variable {K : PySem.W.Frag} {S S' H : Hp} {O : List (Addr × HO)}
mutual
theorem dp_mono (hs : Same S S') : ∀ {v : V} {d : PyData}, Dp K S v d → Dp K S' v d
  | _, _, .non => .non
  | _, _, .bl b => .bl b
  | _, _, .int i => .int i
  | _, _, .str x => .str x
  | _, _, .lst h a => .lst (hs.seq h) (dpAll_mono hs a)
  | _, _, .tup h a => .tup (same_t hs h) (dpAll_mono hs a)
theorem dpAll_mono (hs : Same S S') : ∀ {vs : List V} {ds : List PyData}, DpAll K S vs ds → DpAll K S' vs ds
  | _, _, .nil => .nil
  | _, _, .cons h a => .cons (dp_mono hs h) (dpAll_mono hs a)
end
theorem dpAll_len : ∀ {vs : List V} {ds : List PyData}, DpAll K S vs ds → vs.length = ds.length
  | _, _, .nil => rfl
  | _, _, .cons _ a => by rw [List.length_cons, List.length_cons, dpAll_len a]
theorem dpAll_get : ∀ {vs : List V} {ds : List PyData} {i : Nat} {d : PyData}, DpAll K S vs ds → ds[i]? = some d → ∃ v, vs[i]? = some v ∧ Dp K S v d
  | _, _, _, _, .nil, h => by simp at h
  | _, _, 0, _, .cons h a, e => by
    rw [List.getElem?_cons_zero] at e
    cases e
    exact ⟨_, rfl, h⟩
  | _, _, i + 1, _, .cons h a, e => by
    rw [List.getElem?_cons_succ] at e
    obtain ⟨v, h1, h2⟩ := dpAll_get a e
    exact ⟨v, by rw [List.getElem?_cons_succ]; exact h1, h2⟩
theorem dpAll_get' : ∀ {vs : List V} {ds : List PyData} {i : Nat} {v : V}, DpAll K S vs ds → vs[i]? = some v → ∃ d, ds[i]? = some d ∧ Dp K S v d
  | _, _, _, _, .nil, h => by simp at h
  | _, _, 0, _, .cons h a, e => by
    rw [List.getElem?_cons_zero] at e
    cases e
    exact ⟨_, rfl, h⟩
  | _, _, i + 1, _, .cons h a, e => by
    rw [List.getElem?_cons_succ] at e
    obtain ⟨d, h1, h2⟩ := dpAll_get' a e
    exact ⟨d, by rw [List.getElem?_cons_succ]; exact h1, h2⟩
theorem dpAll_app : ∀ {vs : List V} {ds : List PyData} {v : V} {d : PyData}, DpAll K S vs ds → Dp K S v d → DpAll K S (vs ++ [v]) (ds ++ [d])
  | _, _, _, _, .nil, h => .cons h .nil
  | _, _, _, _, .cons h a, h' => .cons h (dpAll_app a h')
theorem dpAll_cat : ∀ {vs ws : List V} {ds es : List PyData}, DpAll K S vs ds → DpAll K S ws es → DpAll K S (vs ++ ws) (ds ++ es)
  | _, _, _, _, .nil, h => h
  | _, _, _, _, .cons h a, h' => .cons h (dpAll_cat a h')
theorem dpAll_set : ∀ {vs : List V} {ds : List PyData} {v : V} {d : PyData} (i : Nat), DpAll K S vs ds → Dp K S v d → DpAll K S (vs.set i v) (ds.set i d)
  | _, _, _, _, _, .nil, h => .nil
  | _, _, _, _, 0, .cons h a, h' => .cons h' a
  | _, _, _, _, i + 1, .cons h a, h' => .cons h (dpAll_set i a h')
theorem dpAll_take : ∀ {vs : List V} {ds : List PyData} (n : Nat), DpAll K S vs ds → DpAll K S (vs.take n) (ds.take n)
  | _, _, 0, _ => .nil
  | _, _, _ + 1, .nil => .nil
  | _, _, n + 1, .cons h a => .cons h (dpAll_take n a)
theorem dpAll_drop : ∀ {vs : List V} {ds : List PyData} (n : Nat), DpAll K S vs ds → DpAll K S (vs.drop n) (ds.drop n)
  | _, _, 0, h => h
  | _, _, _ + 1, .nil => .nil
  | _, _, n + 1, .cons h a => dpAll_drop n a
theorem dpAll_ints : ∀ ns : List Int, DpAll K S (ns.map V.int) (ns.map PyData.int)
  | [] => .nil
  | n :: ns => .cons (.int n) (dpAll_ints ns)
theorem dpAll_bools : ∀ bs : List Bool, DpAll K S (bs.map V.bl) (bs.map PyData.bool)
  | [] => .nil
  | n :: ns => .cons (.bl n) (dpAll_bools ns)
theorem ints_of : ∀ {vs : List V} {ns : List Int}, DpAll K S vs (ns.map PyData.int) → vs = ns.map V.int
  | _, [], .nil => rfl
  | _, n :: ns, .cons (.int _) a => by rw [ints_of a]; rfl
theorem bools_of : ∀ {vs : List V} {ns : List Bool}, DpAll K S vs (ns.map PyData.bool) → vs = ns.map V.bl
  | _, [], .nil => rfl
  | _, n :: ns, .cons (.bl _) a => by rw [bools_of a]; rfl
theorem dp_int_eq {v : V} {i : Int} : Dp K S v (.int i) → v = .int i
  | .int _ => rfl
theorem dp_bl_eq {v : V} {i : Bool} : Dp K S v (.bool i) → v = .bl i
  | .bl _ => rfl
theorem dp_non_eq {v : V} : Dp K S v .none → v = .non
  | .non => rfl
theorem dp_str_eq {v : V} {i : Str} : Dp K S v (.str i) → v = .str i
  | .str _ => rfl
theorem dp_lst_ex {v : V} {ds : List PyData} : Dp K S v (.list ds) → ∃ a vs, v = .ref a ∧ SqL K S a vs ∧ DpAll K S vs ds
  | .lst h a => ⟨_, _, rfl, h, a⟩
theorem dp_tup_ex {v : V} {ds : List PyData} : Dp K S v (.tuple ds) → ∃ a vs, v = .ref a ∧ SqT K S a vs ∧ DpAll K S vs ds
  | .tup h a => ⟨_, _, rfl, h, a⟩
/-- a list that is given away -/
theorem dp_give {p : Addr} {vs : List V} {ds : List PyData} (h : S p = none) (a : DpAll K S vs ds) : Dp K (upd S p (.lst vs)) (.ref p) (.list ds) :=
  .lst (.inl (.inl upd_same)) (dpAll_mono (same_new h) a)
/-- what comes, by its datum: a flat value is written out -/
def Kn (K : PySem.W.Frag) (S : Hp) (d : PyData) (P : V → Prop) : Prop :=
  match d with
  | .none => P .non
  | .bool b => P (.bl b)
  | .int i => P (.int i)
  | .str x => P (.str x)
  | d => ∀ u, Dp K S u d → P u
theorem Kn.of {d : PyData} {P : V → Prop} (h : Kn K S d P) : ∀ u, Dp K S u d → P u := fun u hu => by
  cases hu with
  | non => exact h
  | bl b => exact h
  | int i => exact h
  | str x => exact h
  | lst h1 h2 => exact h _ (.lst h1 h2)
  | tup h1 h2 => exact h _ (.tup h1 h2)
theorem kn_int {i : Int} {P : V → Prop} (h : P (.int i)) : Kn K S (.int i) P := h
theorem kn_bl {i : Bool} {P : V → Prop} (h : P (.bl i)) : Kn K S (.bool i) P := h
theorem kn_str {i : Str} {P : V → Prop} (h : P (.str i)) : Kn K S (.str i) P := h
theorem kn_non {P : V → Prop} (h : P .non) : Kn K S .none P := h
theorem kn_tup {ds : List PyData} {P : V → Prop} (h : ∀ u, Dp K S u (.tuple ds) → P u) : Kn K S (.tuple ds) P := h
theorem kn_lst {ds : List PyData} {P : V → Prop} (h : ∀ u, Dp K S u (.list ds) → P u) : Kn K S (.list ds) P := h
theorem kn_any {d : PyData} {P : V → Prop} (h : ∀ u, Dp K S u d → P u) : Kn K S d P := by
  cases d with
  | none => exact h _ .non
  | bool b => exact h _ (.bl b)
  | int i => exact h _ (.int i)
  | str x => exact h _ (.str x)
  | list ds => exact h
  | tuple ds => exact h
  | dict _ => exact h
end
end SB
/-! Step lemmas: a reading's head, what it asks. -/
namespace SB
open PySem PySem.Spec PyProof.Rows L2
/-! ### readings by names (a name keeps what follows in one piece) -/
def NewT (Q : VK) (xs : List V) (H : Hp) : Prop := xs.length ≤ sizeLine ∧ ∀ p, H p = none → Q (.ref p) (upd H p (.tup xs))
def NewL (Q : VK) (xs : List V) (H : Hp) : Prop := xs.length ≤ sizeLine ∧ ∀ p, H p = none → Q (.ref p) (upd H p (.lst xs))
def rLen (K : PySem.W.Frag) : List V → Hp → VK → Prop := fun xs H Q => ∃ p ys, xs = [.ref p] ∧ (SqL K H p ys ∨ SqT K H p ys) ∧ Q (.int (ys.length : Int)) H
def rAbs : List V → Hp → VK → Prop := fun xs H Q => ∃ i, xs = [.int i] ∧ Q (.int (if i < 0 then -i else i)) H
def rMx2 : List V → Hp → VK → Prop := fun xs H Q => ∃ i j, xs = [.int i, .int j] ∧ Q (.int (if j > i then j else i)) H
def rInt1 : List V → Hp → VK → Prop := fun xs H Q => (∃ i, xs = [.int i] ∧ Q (.int i) H) ∨ ∃ k, xs = [.bl k] ∧ Q (.int (if k then 1 else 0)) H
def rLst (K : PySem.W.Frag) : List V → Hp → VK → Prop := fun xs H Q => ∃ p ys, xs = [.ref p] ∧ (SqL K H p ys ∨ SqT K H p ys) ∧ ∀ l, H l = none → Q (.ref l) (upd H l (.lst ys))
def rNon : R2 := fun x y H Q => y = .non ∧ Q (.bl (decide (x = .non))) H
def rNotNon : R2 := fun x y H Q => y = .non ∧ Q (.bl (!decide (x = .non))) H
section
variable {X : Cx}
theorem cl_len : CallR X (.builtin "len") (rLen X.K) := call_len_seq
theorem cl_abs : CallR X (.builtin "abs") rAbs := call_abs
theorem cl_max2 (hc : X.calm = true) : CallR X (.builtin "max") rMx2 := call_max2 hc
theorem cl_int1 : CallR X (.type "int") rInt1 := call_int1
theorem cl_list : CallR X (.type "list") (rLst X.K) := call_list_of
theorem ol_isN : OpR X (compareOp .Is) rNon := op_isN
theorem ol_notN : OpR X (compareOp .IsNot) rNotNon := op_notN
end
/-- a list's method -/
def BmR (K : PySem.W.Frag) (T : String) (P : V → Hp → Prop) (x : V) (H : Hp) : Prop := tyV K T x H ∧ P x H
/-- truth -/
def TruQ (K : PySem.W.Frag) (Q : Bool → Hp → Prop) (x : V) (H : Hp) : Prop := ∃ k, TruV K x H k ∧ Q k H
def tTr (K : PySem.W.Frag) (ta : TE) : TT := fun σ H Q => ta σ H fun x H' => TruQ K Q x H'
theorem pl_truth {X : Cx} {a : Expr} {ta : TE} (ha : PE X a ta) (he : ∀ whole, isTrue a X.env whole = (do let v ← whole; standAt a.pos; holding [v] (truthy v))) : PT X a (tTr X.K ta) := pt_truth ha he
/-- a field read, stored; a method found -/
def FldR (K : PySem.W.Frag) (f : Str) (Q : VK) (x : V) (H : Hp) : Prop := ∃ a C dx fs v, x = .ref a ∧ H a = some (.ins C dx fs) ∧ Cls K C ∧ NoAttr K C f ∧ fs.lookup f = some v ∧ Q v H
def FldS (K : PySem.W.Frag) (f : Str) (y : V) (N : Hp → Prop) (x : V) (H : Hp) : Prop := ∃ a C dx fs, x = .ref a ∧ H a = some (.ins C dx fs) ∧ Cls K C ∧ NoAttr K C f ∧ fs.length < 1000 ∧ N (upd H a (.ins C dx (putF f y fs)))
def MthR (C : Addr) (m : Str) (P : V → Hp → Prop) (x : V) (H : Hp) : Prop := ∃ a dx fs, x = .ref a ∧ H a = some (.ins C dx fs) ∧ fs.lookup m = none ∧ P x H
section
variable {K : PySem.W.Frag} {S H : Hp} {O : List (Addr × HO)} {σ : L2.St} {Q : VK} {ta tb tc te : TE} {t u : TS} {x y v : V}
  {nx bk ct : L2.St → Hp → Prop} {rt : VK} {D : Ends} {i : Nat} {QA : List V → Hp → Prop} {QT : Bool → Hp → Prop} {a b : Int} {r r' : R2} {tt tu : TT}

/-! ### statements -/
theorem x_seq (h : t ⟨u ⟨nx, rt, bk, ct⟩, rt, bk, ct⟩ σ H) : tSeq t u ⟨nx, rt, bk, ct⟩ σ H := h
theorem x_next (h : nx σ H) : tNext ⟨nx, rt, bk, ct⟩ σ H := h
theorem x_brk (h : bk σ H) : tBreak ⟨nx, rt, bk, ct⟩ σ H := h
theorem x_asg {g : TG} (h : te σ H fun x H1 => g x σ H1 nx) : tAsg te g ⟨nx, rt, bk, ct⟩ σ H := h
theorem x_gname {Q : L2.St → Hp → Prop} (h : Q (σ.set i (some v)) H) : gName i v σ H Q := h
theorem x_gsub {to ti : TE} {t : TSet} {Q : L2.St → Hp → Prop} (h : to σ H fun o H1 => ti σ H1 fun i H2 => t o i v H2 fun H3 => Q σ H3) : gSub to ti t v σ H Q := h
theorem x_drop (h : te σ H fun _ H1 => nx σ H1) : tDrop te ⟨nx, rt, bk, ct⟩ σ H := h
theorem x_ret (h : te σ H rt) : tRet te ⟨nx, rt, bk, ct⟩ σ H := h
theorem x_retN (h : rt .non H) : tRetN ⟨nx, rt, bk, ct⟩ σ H := h
theorem x_if (h : tt σ H fun b H1 => if b = true then t D σ H1 else u D σ H1) : tIfS tt t u D σ H := h
theorem x_fld {f : Str} (h : te σ H fun y H1 => ta σ H1 fun x H2 => FldS K f y (nx σ) x H2) : sFld K ta te f ⟨nx, rt, bk, ct⟩ σ H := h
theorem x_fldr {f : Str} (h : ta σ H fun x H1 => FldR K f Q x H1) : tFld K ta f σ H Q := h
theorem x_gtup {n : Nat} {gs : TGs} {Q : L2.St → Hp → Prop} (h : ∃ a xs, v = .ref a ∧ SqT K H a xs ∧ xs.length = n ∧ gs xs σ H Q) : gTup K n gs v σ H Q := h
theorem x_gcons {g : TG} {gs : TGs} {vs : List V} {Q : L2.St → Hp → Prop} (h : g v σ H fun σ' H' => gs vs σ' H' Q) : gCons g gs (v :: vs) σ H Q := ⟨v, vs, rfl, h⟩
theorem x_gnil {Q : L2.St → Hp → Prop} (h : Q σ H) : gNil [] σ H Q := ⟨rfl, h⟩

/-! ### branches -/
theorem x_iteT {A B : Prop} (h : A) : if true = true then A else B := by rw [if_pos rfl]; exact h
theorem x_iteF {A B : Prop} (h : B) : if false = true then A else B := by rw [if_neg Bool.false_ne_true]; exact h
theorem x_ite {c : Bool} {A B : Prop} (h1 : c = true → A) (h2 : c = false → B) : if c = true then A else B := by
  cases c
  · rw [if_neg Bool.false_ne_true]; exact h2 rfl
  · rw [if_pos rfl]; exact h1 rfl
theorem x_iteD {p : Prop} [Decidable p] {A B : Prop} (h1 : p → A) (h2 : ¬ p → B) : if decide p = true then A else B :=
  x_ite (fun h => h1 (of_decide_eq_true h)) (fun h => h2 (of_decide_eq_false h))
theorem x_iteN {c : Bool} {A B : Prop} (h1 : c = false → A) (h2 : c = true → B) : if (!c) = true then A else B := by
  cases c
  · exact x_iteT (h1 rfl)
  · exact x_iteF (h2 rfl)
theorem x_iteND {p : Prop} [Decidable p] {A B : Prop} (h1 : ¬ p → A) (h2 : p → B) : if (!decide p) = true then A else B :=
  x_iteN (fun h => h1 (of_decide_eq_false h)) (fun h => h2 (of_decide_eq_true h))
theorem x_no {c : Bool} {A B : Prop} (e : c = false) (h : B) : if c = true then A else B := by rw [e]; exact x_iteF h
theorem x_sure {c : Bool} {A B : Prop} (e : c = true) (h : A) : if c = true then A else B := by rw [e]; exact x_iteT h
theorem x_nT {A B : Prop} (h : B) : if (!true) = true then A else B := x_no rfl h
theorem x_nF {A B : Prop} (h : A) : if (!false) = true then A else B := x_sure rfl h
theorem x_iteTo {c d : Bool} {A B : Prop} (e : c = d) (h : if d = true then A else B) : if c = true then A else B := e ▸ h

/-! ### values -/
theorem x_var (h : σ[i]? = some (some v)) (q : Q v H) : tVar i σ H Q := ⟨v, h, q⟩
theorem x_c (q : Q v H) : tC v σ H Q := q
theorem x_op (h : ta σ H fun x H1 => tb σ H1 fun y H2 => r x y H2 Q) : tOp r ta tb σ H Q := h
theorem x_un {r : V → Hp → VK → Prop} (h : ta σ H fun x H1 => r x H1 Q) : tUn r ta σ H Q := h
theorem x_I0 {g : Int → Int → V} (q : Q (g a b) H) : rI0 g (.int a) (.int b) H Q := ⟨a, b, rfl, rfl, q⟩
theorem x_I {C : Int → Int → Prop} {g : Int → Int → V} (hc : C a b) (q : Q (g a b) H) : rI C g (.int a) (.int b) H Q := ⟨a, b, rfl, rfl, hc, q⟩
theorem x_U {g : Int → V} (q : Q (g a) H) : rU g (.int a) H Q := ⟨a, rfl, q⟩
theorem x_test (h : te σ H fun x H' => ∃ k, x = .bl k ∧ QT k H') : tTest te σ H QT := h
theorem x_tB (h : te σ H fun x H' => ∃ k, x = .bl k ∧ QT k H') : tB te σ H QT := h
theorem x_k {c : Bool} (h : QT c H) : ∃ k, V.bl c = .bl k ∧ QT k H := ⟨c, rfl, h⟩
theorem x_kx {c : Bool} {P : Bool → Prop} (h : P c) : ∃ k, V.bl c = .bl k ∧ P k := ⟨c, rfl, h⟩
theorem x_chain (h : ta σ H fun x H1 => tb σ H1 fun y H2 => r x y H2 fun z H3 => ∃ k, z = .bl k ∧ (if k = true then tc σ H3 fun w' H4 => r' y w' H4 Q else Q (.bl false) H3)) : tChain r r' ta tb tc σ H Q := h
theorem x_and (h : tt σ H fun c H1 => if c = true then tu σ H1 QT else QT false H1) : tAnd tt tu σ H QT := h
theorem x_or (h : tt σ H fun c H1 => if c = true then QT true H1 else tu σ H1 QT) : tOr tt tu σ H QT := h
theorem x_not (h : tt σ H fun c H1 => QT (!c) H1) : tNot tt σ H QT := h
theorem x_andV (h : ta σ H fun x H1 => ∃ c, x = .bl c ∧ if c = true then tb σ H1 Q else Q (.bl false) H1) : tAndV ta tb σ H Q := h
theorem x_orV (h : ta σ H fun x H1 => ∃ c, x = .bl c ∧ if c = true then Q (.bl true) H1 else tb σ H1 Q) : tOrV ta tb σ H Q := h
theorem x_notV (h : ta σ H fun x H1 => ∃ c, x = .bl c ∧ Q (.bl (!c)) H1) : tNotV ta σ H Q := h
theorem x_ifE (h : tt σ H fun c H1 => if c = true then ta σ H1 Q else tb σ H1 Q) : tIf tt ta tb σ H Q := h
theorem x_isN (q : Q (.bl (decide (x = .non))) H) : rNon x .non H Q := ⟨rfl, q⟩
theorem x_notN (q : Q (.bl (!decide (x = .non))) H) : rNotNon x .non H Q := ⟨rfl, q⟩
theorem x_eqI (q : Q (.bl (decide (a = b))) H) : rEq (.int a) (.int b) H Q := ⟨rfl, by rw [dec_int, Bool.beq_eq_decide_eq]; exact q⟩
theorem x_neI (q : Q (.bl (!decide (a = b))) H) : rNe (.int a) (.int b) H Q := ⟨rfl, by rw [dec_int, Bool.beq_eq_decide_eq]; exact q⟩
theorem x_eqB {a b : Bool} (q : Q (.bl (decide (a = b))) H) : rEq (.bl a) (.bl b) H Q := ⟨rfl, by rw [dec_bl, Bool.beq_eq_decide_eq]; exact q⟩
theorem x_neB {a b : Bool} (q : Q (.bl (!decide (a = b))) H) : rNe (.bl a) (.bl b) H Q := ⟨rfl, by rw [dec_bl, Bool.beq_eq_decide_eq]; exact q⟩
theorem x_eqV {c : Bool} (h : scal x y = true) (e : decide (x = y) = c) (q : Q (.bl c) H) : rEq x y H Q := ⟨h, by rw [e]; exact q⟩
theorem x_neV {c : Bool} (h : scal x y = true) (e : decide (x = y) = c) (q : Q (.bl (!c)) H) : rNe x y H Q := ⟨h, by rw [e]; exact q⟩

/-! ### calls -/
theorem x_nil (q : QA [] H) : tNil σ H QA := q
theorem x_cons {tr : TA} (h : te σ H fun x H1 => tr σ H1 fun xs H2 => QA (x :: xs) H2) : tCons te tr σ H QA := h
theorem x_call {sp : Sp} {dvs : List V} {E : XK} {t : TA} (h : t σ H fun vs H1 => sp (vs ++ dvs) H1 Q E) : tCall sp dvs E t σ H Q := h
theorem x_call0 {sp : Sp} {E : XK} {t : TA} (h : t σ H fun vs H1 => sp vs H1 Q E) : tCall sp [] E t σ H Q := by
  have e : (fun (vs : List V) (H1 : Hp) => sp (vs ++ []) H1 Q E) = fun vs H1 => sp vs H1 Q E := by funext vs H1; rw [List.append_nil]
  show t σ H fun vs H1 => sp (vs ++ []) H1 Q E
  rw [e]
  exact h
theorem x_callS {sp : Sp} {E : L2.St → XK} {t : TA} (h : t σ H fun vs H1 => sp vs H1 Q (E σ)) : tCallS sp E t σ H Q := h
theorem x_cb {r : List V → Hp → VK → Prop} {t : TA} (h : t σ H fun vs H1 => r vs H1 Q) : tCB r t σ H Q := h
theorem x_ttup {t : TA} (h : t σ H fun xs H1 => NewT Q xs H1) : tTup t σ H Q := h
theorem x_tlst {t : TA} (h : t σ H fun xs H1 => NewL Q xs H1) : tLst t σ H Q := h
theorem x_meth {C : Addr} {m : Str} {sp : Sp} {E : XK} {t : TA} (h : ta σ H fun x H1 => MthR C m (fun x H2 => t σ H2 fun vs H3 => sp (x :: vs) H3 Q E) x H1) : tMeth C m sp [] E ta t σ H Q := by
  have e : (fun (x : V) (H1 : Hp) => MthR C m (fun x H2 => t σ H2 fun vs H3 => sp (x :: vs) H3 Q E) x H1) = fun x H1 => ∃ a dx fs, x = .ref a ∧ H1 a = some (.ins C dx fs) ∧ fs.lookup m = none ∧ t σ H1 fun vs H2 => sp (x :: (vs ++ [])) H2 Q E := by
    funext x H1
    unfold MthR
    simp only [List.append_nil]
  show ta σ H _
  rw [← e]
  exact h

/-! ### new tuples and lists -/
theorem sz {n : Nat} (h : n ≤ 1000000) : n ≤ sizeLine := Nat.le_trans h (by decide)
theorem szl {n : Nat} (h : n ≤ 1000000) : n < sizeLine := Nat.lt_of_le_of_lt h (by decide)
/-- a new tuple that stays -/
theorem x_tup {vs : List V} {ds : List PyData} (W : Wd K S H O) (hd : DpAll K S vs ds) (hl : vs.length ≤ 1000000) (k : ∀ S' H' v, Wd K S' H' O → Same S S' → Dp K S' v (.tuple ds) → Q v H') : NewT Q vs H :=
  ⟨sz hl, fun p hp => k _ _ _ (W.new hp) (same_new (W.frS hp)) (.tup (.inl (.inl upd_same)) (dpAll_mono (same_new (W.frS hp)) hd))⟩
theorem x_tup' {vs : List V} {ds : List PyData} (W : Wd K S H O) (hd : DpAll K S vs ds) (k : ∀ S' H' v, Wd K S' H' O → Same S S' → Dp K S' v (.tuple ds) → Q v H') :
    ∀ p, H p = none → Q (.ref p) (upd H p (.tup vs)) :=
  fun p hp => k _ _ _ (W.new hp) (same_new (W.frS hp)) (.tup (.inl (.inl upd_same)) (dpAll_mono (same_new (W.frS hp)) hd))
/-- a new list that stays -/
theorem x_lst {vs : List V} {ds : List PyData} (W : Wd K S H O) (hd : DpAll K S vs ds) (hl : vs.length ≤ 1000000) (k : ∀ S' H' v, Wd K S' H' O → Same S S' → Dp K S' v (.list ds) → Q v H') : NewL Q vs H :=
  ⟨sz hl, fun p hp => k _ _ _ (W.new hp) (same_new (W.frS hp)) (.lst (.inl (.inl upd_same)) (dpAll_mono (same_new (W.frS hp)) hd))⟩
theorem x_lst' {vs : List V} {ds : List PyData} (W : Wd K S H O) (hd : DpAll K S vs ds) (k : ∀ S' H' v, Wd K S' H' O → Same S S' → Dp K S' v (.list ds) → Q v H') :
    ∀ p, H p = none → Q (.ref p) (upd H p (.lst vs)) :=
  fun p hp => k _ _ _ (W.new hp) (same_new (W.frS hp)) (.lst (.inl (.inl upd_same)) (dpAll_mono (same_new (W.frS hp)) hd))
/-- a new list that is ours -/
theorem x_own {vs : List V} (W : Wd K S H O) (hl : vs.length ≤ 1000000) (k : ∀ p H', Wd K S H' ((p, .lst vs) :: O) → Q (.ref p) H') : NewL Q vs H := ⟨sz hl, fun p hp => k p _ (W.alloc hp)⟩
theorem x_own' {vs : List V} {o : HO} (W : Wd K S H O) (k : ∀ p H', Wd K S H' ((p, o) :: O) → Q (.ref p) H') :
    ∀ p, H p = none → Q (.ref p) (upd H p o) := fun p hp => k p _ (W.alloc hp)

/-! ### items -/
theorem atI_of {α : Type} {xs : List α} {i : Int} {x : α} (h0 : 0 ≤ i) (h : xs[i.toNat]? = some x) : atI xs i = some x := by
  have e : i = ((i.toNat : Nat) : Int) := by omega
  rw [e]
  exact atI_nat h
theorem atI_map {α β : Type} [Inhabited α] {xs : List α} {f : α → β} {i : Int} (h0 : 0 ≤ i) (h : i < xs.length) : atI (xs.map f) i = some (f (nth xs i)) := by
  refine atI_of h0 ?_
  rw [List.getElem?_map, nth_get h0 h]
  rfl
theorem atI_nth {α : Type} [Inhabited α] {xs : List α} {i : Int} (h0 : 0 ≤ i) (h : i < xs.length) : atI xs i = some (nth xs i) := atI_of h0 (nth_get h0 h)
theorem ixN_of {n : Nat} {i : Int} (h0 : 0 ≤ i) (h : i < n) : ixN n i = some i.toNat := by
  unfold ixN
  rw [if_pos h0, if_pos h]
theorem dp_at {vs : List V} {ds : List PyData} {i : Int} {d : PyData} (h : DpAll K S vs ds) (hi : atI ds i = some d) : ∃ u, atI vs i = some u ∧ Dp K S u d := by
  unfold atI at hi ⊢
  rw [dpAll_len h]
  cases e : ixN ds.length i with
  | none => rw [e] at hi; cases hi
  | some j =>
    rw [e] at hi
    exact dpAll_get h hi
theorem x_ixT {ds : List PyData} {i : Int} {d : PyData} (W : Wd K S H O) (h : Dp K S x (.tuple ds)) (hi : atI ds i = some d) (k : Kn K S d fun u => Q u H) : rIx K x (.int i) H Q := by
  obtain ⟨a, vs, rfl, hq, ha⟩ := dp_tup_ex h
  obtain ⟨u, hu, hd⟩ := dp_at ha hi
  exact .inr (.inl ⟨a, vs, i, u, rfl, rfl, W.tup hq, hu, k.of u hd⟩)
theorem x_ixL {ds : List PyData} {i : Int} {d : PyData} (W : Wd K S H O) (h : Dp K S x (.list ds)) (hi : atI ds i = some d) (k : Kn K S d fun u => Q u H) : rIx K x (.int i) H Q := by
  obtain ⟨a, vs, rfl, hq, ha⟩ := dp_lst_ex h
  obtain ⟨u, hu, hd⟩ := dp_at ha hi
  exact .inl ⟨a, vs, i, u, rfl, rfl, W.lst hq, hu, k.of u hd⟩
/-- of one of ours -/
theorem x_ixO {p : Addr} {vs : List V} {i : Int} {u : V} (n : Nat) (W : Wd K S H O) (h : O[n]? = some (p, .lst vs)) (hi : atI vs i = some u) (k : Q u H) : rIx K (.ref p) (.int i) H Q :=
  .inl ⟨p, vs, i, u, rfl, rfl, .of (W.at n h), hi, k⟩
theorem x_setO {p : Addr} {vs : List V} {i : Int} {j : Nat} {Q : Hp → Prop} (n : Nat) (W : Wd K S H O) (h : O[n]? = some (p, .lst vs)) (hi : ixN vs.length i = some j)
    (k : ∀ H', Wd K S H' (O.set n (p, .lst (vs.set j v))) → Q H') : rSetL (.ref p) (.int i) v H Q :=
  ⟨p, vs, i, j, rfl, rfl, W.at n h, hi, k _ (W.put n h)⟩
theorem tyV_own {p : Addr} {vs : List V} (n : Nat) (W : Wd K S H O) (h : O[n]? = some (p, .lst vs)) : tyV K "list" (.ref p) H := .inl ⟨rfl, vs, .of (W.at n h)⟩
theorem tyV_dp {ds : List PyData} (W : Wd K S H O) (h : Dp K S x (.list ds)) : tyV K "list" x H := by
  obtain ⟨a, vs, rfl, hq, ha⟩ := dp_lst_ex h
  exact .inl ⟨rfl, vs, W.lst hq⟩
theorem x_bm {T : String} {r : V → List V → Hp → VK → Prop} {t : TA} (h : ta σ H fun x H1 => BmR K T (fun x H1 => t σ H1 fun xs H2 => r x xs H2 Q) x H1) : tBM K T r ta t σ H Q := h
theorem x_bm0 {T : String} {r : V → List V → Hp → VK → Prop} (h : ta σ H fun x H1 => BmR K T (fun x H1 => r x [] H1 Q) x H1) : tBM0 K T r ta σ H Q := h
theorem x_bmo {P : V → Hp → Prop} {p : Addr} {vs : List V} (n : Nat) (W : Wd K S H O) (h : O[n]? = some (p, .lst vs)) (k : P (.ref p) H) : BmR K "list" P (.ref p) H := ⟨tyV_own n W h, k⟩
theorem x_bmd {P : V → Hp → Prop} {ds : List PyData} (W : Wd K S H O) (h : Dp K S x (.list ds)) (k : P x H) : BmR K "list" P x H := ⟨tyV_dp W h, k⟩
theorem x_app {p : Addr} {vs : List V} (n : Nat) (W : Wd K S H O) (h : O[n]? = some (p, .lst vs)) (hl : vs.length ≤ 1000000) (k : ∀ H', Wd K S H' (O.set n (p, .lst (vs ++ [v]))) → Q .non H') :
    rAppend (.ref p) [v] H Q := ⟨p, vs, v, rfl, rfl, W.at n h, szl hl, k _ (W.put n h)⟩
theorem x_pop {p : Addr} {vs : List V} (n : Nat) (W : Wd K S H O) (h : O[n]? = some (p, .lst vs)) (hu : vs[vs.length - 1]? = some v) (k : ∀ H', Wd K S H' (O.set n (p, .lst vs.dropLast)) → Q v H') :
    rPop (.ref p) [] H Q := ⟨p, vs, v, rfl, rfl, W.at n h, hu, k _ (W.put n h)⟩

/-! ### built-ins -/
theorem x_len {ds : List PyData} (W : Wd K S H O) (h : Dp K S x (.list ds)) (q : Q (.int ds.length) H) : rLen K [x] H Q := by
  obtain ⟨a, vs, rfl, hq, ha⟩ := dp_lst_ex h
  exact ⟨a, vs, rfl, .inl (W.lst hq), by rw [dpAll_len ha]; exact q⟩
theorem x_lenT {ds : List PyData} (W : Wd K S H O) (h : Dp K S x (.tuple ds)) (q : Q (.int ds.length) H) : rLen K [x] H Q := by
  obtain ⟨a, vs, rfl, hq, ha⟩ := dp_tup_ex h
  exact ⟨a, vs, rfl, .inr (W.tup hq), by rw [dpAll_len ha]; exact q⟩
theorem x_lenO {p : Addr} {vs : List V} (n : Nat) (W : Wd K S H O) (h : O[n]? = some (p, .lst vs)) (q : Q (.int vs.length) H) : rLen K [.ref p] H Q := ⟨p, vs, rfl, .inl (.of (W.at n h)), q⟩
theorem x_sum {ns : List Int} (W : Wd K S H O) (h : Dp K S x (.list (ns.map PyData.int))) (q : Q (.int ns.sum) H) : rSum K [x] H Q := by
  obtain ⟨a, vs, rfl, hq, ha⟩ := dp_lst_ex h
  rw [ints_of ha] at hq
  exact ⟨a, ns, rfl, W.lst hq, q⟩
theorem x_all {bs : List Bool} (W : Wd K S H O) (h : Dp K S x (.list (bs.map PyData.bool))) (q : Q (.bl (bs.all id)) H) : rAll K [x] H Q := by
  obtain ⟨a, vs, rfl, hq, ha⟩ := dp_lst_ex h
  rw [bools_of ha] at hq
  exact ⟨a, bs, rfl, W.lst hq, q⟩
theorem x_any {bs : List Bool} (W : Wd K S H O) (h : Dp K S x (.list (bs.map PyData.bool))) (q : Q (.bl (bs.any id)) H) : rAny K [x] H Q := by
  obtain ⟨a, vs, rfl, hq, ha⟩ := dp_lst_ex h
  rw [bools_of ha] at hq
  exact ⟨a, bs, rfl, W.lst hq, q⟩
theorem x_abs (q : Q (.int (if a < 0 then -a else a)) H) : rAbs [.int a] H Q := ⟨a, rfl, q⟩
theorem x_max2 (q : Q (.int (max a b)) H) : rMx2 [.int a, .int b] H Q := ⟨a, b, rfl, by
  have e : (if b > a then b else a) = max a b := by
    split <;> omega
  rw [e]
  exact q⟩
theorem x_intB {c : Bool} (q : Q (.int (if c then 1 else 0)) H) : rInt1 [.bl c] H Q := .inr ⟨c, rfl, q⟩
/-- list(x) of a list: a new one that stays, or that is ours -/
theorem x_listS {ds : List PyData} (W : Wd K S H O) (h : Dp K S x (.list ds)) (k : ∀ S' H' v, Wd K S' H' O → Same S S' → Dp K S' v (.list ds) → Q v H') : rLst K [x] H Q := by
  obtain ⟨a, vs, rfl, hq, ha⟩ := dp_lst_ex h
  exact ⟨a, vs, rfl, .inl (W.lst hq), x_lst' W ha k⟩
theorem x_listO {ds : List PyData} (W : Wd K S H O) (h : Dp K S x (.list ds)) (k : ∀ p vs H', DpAll K S vs ds → Wd K S H' ((p, .lst vs) :: O) → Q (.ref p) H') : rLst K [x] H Q := by
  obtain ⟨a, vs, rfl, hq, ha⟩ := dp_lst_ex h
  exact ⟨a, vs, rfl, .inl (W.lst hq), fun l hl => k l vs _ ha (W.alloc hl)⟩
theorem x_tr (h : ta σ H fun x H1 => TruQ K QT x H1) : tTr K ta σ H QT := h
theorem x_truB {c : Bool} (q : QT c H) : TruQ K QT (.bl c) H := ⟨_, rfl, q⟩
/-- truth of a list -/
theorem x_truL {ds : List PyData} (W : Wd K S H O) (h : Dp K S x (.list ds)) (q : QT (!ds.isEmpty) H) : TruQ K QT x H := by
  obtain ⟨a, vs, rfl, hq, ha⟩ := dp_lst_ex h
  refine ⟨_, .inl ⟨vs, W.lst hq, rfl⟩, ?_⟩
  have e : vs.isEmpty = ds.isEmpty := by
    have := dpAll_len ha
    cases vs <;> cases ds <;> simp_all
  rw [e]
  exact q
theorem x_truO {p : Addr} {vs : List V} (n : Nat) (W : Wd K S H O) (h : O[n]? = some (p, .lst vs)) (q : QT (!vs.isEmpty) H) : TruQ K QT (.ref p) H :=
  ⟨_, .inl ⟨vs, .of (W.at n h), rfl⟩, q⟩
/-! ### isinstance of data -/
theorem tyx_lst {ds : List PyData} (W : Wd K S H O) (h : Dp K S x (.list ds)) : TyX K H x (.type "list") := by
  obtain ⟨a, vs, rfl, hq, ha⟩ := dp_lst_ex h
  rcases W.lst hq with (e | ⟨o, e⟩) | ⟨o, its, n, e, c, _⟩
  · exact .base (.lst e)
  · exact .base (.frz e)
  · exact .kList e c
theorem tyx_tup {ds : List PyData} (W : Wd K S H O) (h : Dp K S x (.tuple ds)) : TyX K H x (.type "tuple") := by
  obtain ⟨a, vs, rfl, hq, ha⟩ := dp_tup_ex h
  rcases W.tup hq with (e | ⟨o, e⟩) | ⟨o, its, n, e, c, _⟩
  · exact .base (.tup e)
  · exact .fTuple e
  · exact .kTuple e c
theorem x_isi {t : Value} {n : String} {b : Bool} (h : TyX K H x t) (hk : PySem.W.kitOne K t (.type n) = some b) (q : Q (.bl b) H) : rIsi K [x, .ty n] H Q := ⟨x, .ty n, t, .type n, b, rfl, .ty n, h, hk, q⟩
theorem x_isiI {n : String} {b : Bool} (hk : kitB "int" n = some b) (q : Q (.bl b) H) : rIsi K [.int a, .ty n] H Q := x_isi (.base (.int a)) (kit_ty hk) q
theorem x_isiB {n : String} {b c : Bool} (hk : kitB "bool" n = some b) (q : Q (.bl b) H) : rIsi K [.bl c, .ty n] H Q := x_isi (.base (.bl c)) (kit_ty hk) q
theorem x_isiN {n : String} {b : Bool} (hk : kitB "NoneType" n = some b) (q : Q (.bl b) H) : rIsi K [.non, .ty n] H Q := x_isi (.base .non) (kit_ty hk) q
theorem x_isiS {n : String} {b : Bool} {z : Str} (hk : kitB "str" n = some b) (q : Q (.bl b) H) : rIsi K [.str z, .ty n] H Q := x_isi (.base (.str z)) (kit_ty hk) q
theorem x_isiL {n : String} {b : Bool} {ds : List PyData} (W : Wd K S H O) (h : Dp K S x (.list ds)) (hk : kitB "list" n = some b) (q : Q (.bl b) H) : rIsi K [x, .ty n] H Q := x_isi (tyx_lst W h) (kit_ty hk) q
theorem x_isiT {n : String} {b : Bool} {ds : List PyData} (W : Wd K S H O) (h : Dp K S x (.tuple ds)) (hk : kitB "tuple" n = some b) (q : Q (.bl b) H) : rIsi K [x, .ty n] H Q := x_isi (tyx_tup W h) (kit_ty hk) q
end
/-- isinstance of the exception that the suite holds, its class told by the reading -/
def rIsX (K : PySem.W.Frag) (cls : Value) (d : Option Addr) (a : Addr) : List V → Hp → VK → Prop := fun xs H Q => ∃ (D : Addr) (c : V) (cv : Value) (b : Bool),
  cls = .ref D ∧ d = none ∧ ExcC K D ∧ xs = [.ref a, c] ∧ (∀ u, RelV c u → u = cv) ∧ PySem.W.kitOne K (.ref D) cv = some b ∧ Q (.bl b) H
theorem call_isX {X : Cx} {a : Addr} {oe : Obj} {cls : Value} {d : Option Addr} {pn : List (Addr × Obj)} (hz : Zc cls d oe) (hf : ∃ vs, oe.data = .fields vs) : CallR (X.suite a ((a, oe) :: pn)) (.builtin "isinstance") (rIsX X.K cls d a) := by
  intro pins s σ H xs us Q I r h
  obtain ⟨D, c, cv, b, rfl, rfl, C, e1, e2, e3, q⟩ := h
  exact call_isE C hz hf pins s σ H xs us Q I r ⟨c, cv, b, e1, e2, e3, q⟩
end SB
/-! Loops and comprehensions. -/
namespace SB
open PySem PySem.Spec PyProof.Rows L2
section
variable {K : PySem.W.Frag} {S H : Hp} {O : List (Addr × HO)} {σ : L2.St} {Q : VK} {x y v : V} {D : Ends}
  {nx bk ct : L2.St → Hp → Prop} {rt : VK} {tt tc : TT} {tb : TS} {g : TG} {te tl : TE} {ta : TA} {vs : List Nat}

/-! ### while -/
/-- a turn of a while: n is its number -/
def Again (J : Nat → L2.St → Hp → Prop) (n : Nat) (tb : TS) (D : Ends) (σ : L2.St) (H : Hp) : Prop :=
  ∃ N : L2.St → Hp → Prop, (∀ σ' H', N σ' H' → ∃ m', m' < n ∧ J m' σ' H') ∧ tb ⟨N, D.rt, D.nx, N⟩ σ H
theorem x_again {J : Nat → L2.St → Hp → Prop} {n : Nat} (h : tb ⟨fun σ' H' => ∃ m', m' < n ∧ J m' σ' H', rt, nx, fun σ' H' => ∃ m', m' < n ∧ J m' σ' H'⟩ σ H) : Again J n tb ⟨nx, rt, bk, ct⟩ σ H := ⟨_, fun _ _ h => h, h⟩
theorem x_while (J : Nat → L2.St → Hp → Prop) (m : Nat) (h0 : J m σ H) (hs : ∀ n σ' H', J n σ' H' → tc σ' H' fun b H1 => if b = true then Again J n tb ⟨nx, rt, bk, ct⟩ σ' H1 else nx σ' H1) :
    tWhile tc tb ⟨nx, rt, bk, ct⟩ σ H := ⟨J, ⟨m, h0⟩, hs⟩

/-! ### for -/
/-- the loop when its iterable's value has come -/
def ForL (K : PySem.W.Frag) (g : TG) (tb : TS) (D : Ends) (x : V) (σ : L2.St) (H : Hp) : Prop := ∃ a, x = .ref a ∧ (∃ xs, SqL K H a xs) ∧ ∃ W : Nat → Nat → L2.St → Hp → Prop, (∃ m, W 0 m σ H) ∧ ∀ i m σ H, W i m σ H →
  ((Itl K a).stop i H ∧ D.nx σ H) ∨ ((Itl K a).go i H ∧ ∃ N : L2.St → Hp → Prop, (∀ σ' H', N σ' H' → ∃ m', m' < m ∧ W (i + 1) m' σ' H') ∧ ∀ x H', (Itl K a).yld i H x H' → g x σ H' fun σ2 H2 => tb { D with nx := N, ct := N, bk := D.nx } σ2 H2)
theorem x_for (h : tl σ H fun x H1 => ForL K g tb D x σ H1) : tFor (iList K tl) g tb D σ H := h
theorem x_forV {a : Addr} {ys : List V} (J : Nat → L2.St → Hp → Prop) (h0 : J 0 σ H) (hq : ∀ i σ' H', J i σ' H' → SqL K H' a ys)
    (hs : ∀ i y σ' H', ys[i]? = some y → J i σ' H' → g y σ' H' fun σ2 H2 => tb ⟨J (i + 1), rt, nx, J (i + 1)⟩ σ2 H2) (hd : ∀ σ' H', J ys.length σ' H' → nx σ' H') : ForL K g tb ⟨nx, rt, bk, ct⟩ (.ref a) σ H :=
  ⟨a, rfl, ⟨ys, hq 0 σ H h0⟩, for_list (K := K) (a := a) (xs := ys) (D := ⟨nx, rt, bk, ct⟩) J h0 (fun i σ' H' _ h => hq i σ' H' h) hs hd⟩
theorem x_forD {α : Type} {xs : List α} {f : α → PyData} (hv : Dp K S x (.list (xs.map f))) (J : Nat → L2.St → Hp → Prop) (h0 : J 0 σ H) (hq : ∀ i σ' H', J i σ' H' → Same S H')
    (hs : ∀ i z σ' H', xs[i]? = some z → J i σ' H' → Kn K S (f z) fun u => g u σ' H' fun σ2 H2 => tb ⟨J (i + 1), rt, nx, J (i + 1)⟩ σ2 H2) (hd : ∀ σ' H', J xs.length σ' H' → nx σ' H') : ForL K g tb ⟨nx, rt, bk, ct⟩ x σ H := by
  obtain ⟨a, us, rfl, hq', ha⟩ := dp_lst_ex hv
  have hl : us.length = xs.length := by rw [dpAll_len ha, List.length_map]
  refine x_forV (ys := us) J h0 (fun i σ' H' h => (hq i σ' H' h).seq hq') (fun i y σ' H' hy h => ?_) (fun σ' H' h => hd σ' H' (hl ▸ h))
  obtain ⟨dd, hd1, hd2⟩ := dpAll_get' ha hy
  rw [List.getElem?_map] at hd1
  cases e : xs[i]? with
  | none => rw [e] at hd1; cases hd1
  | some z =>
    rw [e] at hd1
    cases hd1
    exact (hs i z σ' H' e h).of y hd2
/-- over range(n) -/
def ForR (g : TG) (tb : TS) (D : Ends) (us : List V) (σ : L2.St) (H : Hp) : Prop := ∃ j : Int, us = [.int j] ∧ -(2 ^ 62) ≤ j ∧ j < 2 ^ 62 ∧ ∃ W : Nat → Nat → L2.St → Hp → Prop, (∃ m, W 0 m σ H) ∧ ∀ i m σ H, W i m σ H →
  ((Itr 0 j.toNat).stop i H ∧ D.nx σ H) ∨ ((Itr 0 j.toNat).go i H ∧ ∃ N : L2.St → Hp → Prop, (∀ σ' H', N σ' H' → ∃ m', m' < m ∧ W (i + 1) m' σ' H') ∧ ∀ x H', (Itr 0 j.toNat).yld i H x H' → g x σ H' fun σ2 H2 => tb { D with nx := N, ct := N, bk := D.nx } σ2 H2)
theorem x_forr (h : ta σ H fun us H1 => ForR g tb D us σ H1) : tFor (iRng1 ta) g tb D σ H := h
theorem x_forN {j : Int} (J : Nat → L2.St → Hp → Prop) (hj : j < 2 ^ 62 ∧ -(2 ^ 62) ≤ j) (h0 : J 0 σ H)
    (hs : ∀ (i : Nat) σ' H', i < j.toNat → J i σ' H' → g (.int (i : Int)) σ' H' fun σ2 H2 => tb ⟨J (i + 1), rt, nx, J (i + 1)⟩ σ2 H2) (hd : ∀ σ' H', J j.toNat σ' H' → nx σ' H') : ForR g tb ⟨nx, rt, bk, ct⟩ [.int j] σ H :=
  ⟨j, rfl, hj.2, hj.1, for_range (lo := 0) (n := j.toNat) (D := ⟨nx, rt, bk, ct⟩) J h0 (fun i σ' H' hi h => by rw [Int.zero_add]; exact hs i σ' H' hi h) hd⟩
/-- over zip(xs, ys) -/
def ForZ (K : PySem.W.Frag) (g : TG) (tb : TS) (D : Ends) (us : List V) (σ : L2.St) (H : Hp) : Prop := ∃ a b xs ys, us = [.ref a, .ref b] ∧ SqL K H a xs ∧ SqL K H b ys ∧ ∃ W : Nat → Nat → L2.St → Hp → Prop, (∃ m, W 0 m σ H) ∧ ∀ i m σ H, W i m σ H →
  ((Itz K a b).stop i H ∧ D.nx σ H) ∨ ((Itz K a b).go i H ∧ ∃ N : L2.St → Hp → Prop, (∀ σ' H', N σ' H' → ∃ m', m' < m ∧ W (i + 1) m' σ' H') ∧ ∀ x H', (Itz K a b).yld i H x H' → g x σ H' fun σ2 H2 => tb { D with nx := N, ct := N, bk := D.nx } σ2 H2)
theorem x_forz (h : ta σ H fun us H1 => ForZ K g tb D us σ H1) : tFor (iZip K ta) g tb D σ H := h
theorem x_forZ {α β : Type} {xs : List α} {ys : List β} {f : α → PyData} {h : β → PyData} {p q : Nat}
    (hx : Dp K S x (.list (xs.map f))) (hy : Dp K S y (.list (ys.map h))) (hl : xs.length = ys.length) (J : Nat → L2.St → Hp → Prop) (h0 : J 0 σ H) (hq : ∀ i σ' H', J i σ' H' → Same S H')
    (hs : ∀ i z w σ' H' T, xs[i]? = some z → ys[i]? = some w → J i σ' H' → H' T = none → Kn K S (f z) fun u => Kn K S (h w) fun v => tb ⟨J (i + 1), rt, nx, J (i + 1)⟩ ((σ'.set p (some u)).set q (some v)) (upd H' T (.tup [u, v])))
    (hd : ∀ σ' H', J xs.length σ' H' → nx σ' H') : ForZ K (gTup K 2 (gCons (gName p) (gCons (gName q) gNil))) tb ⟨nx, rt, bk, ct⟩ [x, y] σ H := by
  obtain ⟨a, us, rfl, hq1, ha⟩ := dp_lst_ex hx
  obtain ⟨b, ws, rfl, hq2, hb⟩ := dp_lst_ex hy
  have l1 : us.length = xs.length := by rw [dpAll_len ha, List.length_map]
  have l2 : ws.length = ys.length := by rw [dpAll_len hb, List.length_map]
  refine ⟨a, b, us, ws, rfl, (hq 0 σ H h0).seq hq1, (hq 0 σ H h0).seq hq2, RZ.for_zipL (K := K) (a := a) (b := b) (xs := us) (ys := ws) (D := ⟨nx, rt, bk, ct⟩) (by omega) J h0 (fun i σ' H' h => ⟨(hq i σ' H' h).seq hq1, (hq i σ' H' h).seq hq2⟩) (fun i u w T σ' H' e1 e2 hJ hT => ?_) (fun σ' H' h => hd σ' H' (l1 ▸ h))⟩
  obtain ⟨d1, g1, r1⟩ := dpAll_get' ha e1
  obtain ⟨d2, g2, r2⟩ := dpAll_get' hb e2
  rw [List.getElem?_map] at g1 g2
  cases c1 : xs[i]? with
  | none => rw [c1] at g1; cases g1
  | some z =>
    cases c2 : ys[i]? with
    | none => rw [c2] at g2; cases g2
    | some z2 =>
      rw [c1] at g1
      rw [c2] at g2
      cases g1
      cases g2
      refine ⟨T, [u, w], rfl, .inl (.inl upd_same), rfl, u, [w], rfl, w, [], rfl, rfl, ?_⟩
      exact ((hs i z z2 σ' H' T c1 c2 hJ hT).of u r1).of w r2
/-- over a tuple -/
def ForT (K : PySem.W.Frag) (g : TG) (tb : TS) (D : Ends) (x : V) (σ : L2.St) (H : Hp) : Prop := ∃ a, x = .ref a ∧ (∃ xs, SqT K H a xs) ∧ ∃ W : Nat → Nat → L2.St → Hp → Prop, (∃ m, W 0 m σ H) ∧ ∀ i m σ H, W i m σ H →
  ((Itt K a).stop i H ∧ D.nx σ H) ∨ ((Itt K a).go i H ∧ ∃ N : L2.St → Hp → Prop, (∀ σ' H', N σ' H' → ∃ m', m' < m ∧ W (i + 1) m' σ' H') ∧ ∀ x H', (Itt K a).yld i H x H' → g x σ H' fun σ2 H2 => tb { D with nx := N, ct := N, bk := D.nx } σ2 H2)
theorem x_fort (h : tl σ H fun x H1 => ForT K g tb D x σ H1) : tFor (iTup K tl) g tb D σ H := h
theorem x_forT {α : Type} {xs : List α} {f : α → PyData} (hv : Dp K S x (.tuple (xs.map f))) (J : Nat → L2.St → Hp → Prop) (h0 : J 0 σ H) (hq : ∀ i σ' H', J i σ' H' → Same S H')
    (hs : ∀ i z σ' H', xs[i]? = some z → J i σ' H' → Kn K S (f z) fun u => g u σ' H' fun σ2 H2 => tb ⟨J (i + 1), rt, nx, J (i + 1)⟩ σ2 H2) (hd : ∀ σ' H', J xs.length σ' H' → nx σ' H') : ForT K g tb ⟨nx, rt, bk, ct⟩ x σ H := by
  obtain ⟨a, us, rfl, hq', ha⟩ := dp_tup_ex hv
  have hl : us.length = xs.length := by rw [dpAll_len ha, List.length_map]
  refine ⟨a, rfl, ⟨us, same_t (hq 0 σ H h0) hq'⟩, for_tup (K := K) (a := a) (xs := us) (D := ⟨nx, rt, bk, ct⟩) J h0 (fun i σ' H' _ h => same_t (hq i σ' H' h) hq') (fun i y σ' H' hy h => ?_) (fun σ' H' h => hd σ' H' (hl ▸ h))⟩
  obtain ⟨dd, hd1, hd2⟩ := dpAll_get' ha hy
  rw [List.getElem?_map] at hd1
  cases e : xs[i]? with
  | none => rw [e] at hd1; cases hd1
  | some z =>
    rw [e] at hd1
    cases hd1
    exact (hs i z σ' H' e h).of y hd2

/-! ### comprehensions -/
/-- an element that is taken, one that is not -/
def LcY (K : PySem.W.Frag) (S : Hp) (O : List (Addr × HO)) (R : Addr) (acc : List V) (o : Option PyData) (y : V) (H : Hp) : Prop :=
  ∃ S' d, o = some d ∧ Wd K S' H ((R, .lst acc) :: O) ∧ Same S S' ∧ Dp K S' y d
def LcN (K : PySem.W.Frag) (S : Hp) (O : List (Addr × HO)) (R : Addr) (acc : List V) (o : Option PyData) (H : Hp) : Prop :=
  o = none ∧ ∃ S', Wd K S' H ((R, .lst acc) :: O) ∧ Same S S'
theorem lc_y {R : Addr} {acc : List V} {o : Option PyData} {S' : Hp} {d : PyData} (h : o = some d) (W : Wd K S' H ((R, .lst acc) :: O)) (hs : Same S S') (hd : Dp K S' y d) : LcY K S O R acc o y H := ⟨S', d, h, W, hs, hd⟩
theorem lc_n {R : Addr} {acc : List V} {o : Option PyData} {S' : Hp} (h : o = none) (W : Wd K S' H ((R, .lst acc) :: O)) (hs : Same S S') : LcN K S O R acc o H := ⟨h, S', W, hs⟩
/-- what the new list holds behind i elements -/
def LcP (K : PySem.W.Frag) {α : Type} (xs : List α) (fr : α → Option PyData) (S : Hp) (O : List (Addr × HO)) (R : Addr) : Nat → Hp → Prop := fun i H =>
  ∃ S' acc, Wd K S' H ((R, .lst acc) :: O) ∧ Same S S' ∧ DpAll K S' acc ((xs.take i).filterMap fr)
theorem lcP_turn {α : Type} {xs : List α} {fr : α → Option PyData} {R : Addr} {i : Nat} {z : α} (hlen : xs.length ≤ 1000000) (hz : xs[i]? = some z) {S' : Hp} {acc : List V} (hS : Same S S') (hA : DpAll K S' acc ((xs.take i).filterMap fr)) :
    (∀ y H4, LcY K S' O R acc (fr z) y H4 → ∃ acc', H4 R = some (.lst acc') ∧ acc'.length < sizeLine ∧ LcP K xs fr S O R (i + 1) (upd H4 R (.lst (acc' ++ [y])))) ∧
    (∀ H3, LcN K S' O R acc (fr z) H3 → LcP K xs fr S O R (i + 1) H3) := by
  have hi : i < xs.length := (List.getElem?_eq_some_iff.mp hz).1
  have ht : xs.take (i + 1) = xs.take i ++ [z] := by
    rw [List.take_add_one, hz]
    rfl
  constructor
  · rintro y H4 ⟨S4, dd, e, W4, hS4, hd⟩
    refine ⟨acc, W4.at 0 rfl, ?_, S4, acc ++ [y], W4.put 0 rfl, hS.trans hS4, ?_⟩
    · have := dpAll_len hA
      have l2 := List.length_filterMap_le fr (xs.take i)
      rw [List.length_take] at l2
      exact szl (by omega)
    · rw [ht, List.filterMap_append]
      have : List.filterMap fr [z] = [dd] := by simp [e]
      rw [this]
      exact dpAll_app (dpAll_mono hS4 hA) hd
  · rintro H3 ⟨e, S3, W3, hS3⟩
    refine ⟨S3, acc, W3, hS.trans hS3, ?_⟩
    rw [ht, List.filterMap_append]
    have : List.filterMap fr [z] = [] := by simp [e]
    rw [this, List.append_nil]
    exact dpAll_mono hS3 hA
/-- how a turn of a comprehension may end -/
def EndY (R : Addr) (N : Hp → Prop) (y : V) (H : Hp) : Prop := ∃ acc, H R = some (.lst acc) ∧ acc.length < sizeLine ∧ N (upd H R (.lst (acc ++ [y])))
structure LcE (K : PySem.W.Frag) (S : Hp) (O : List (Addr × HO)) (R : Addr) (acc : List V) (o : Option PyData) (N : Hp → Prop) : Prop where
  yes : ∀ y H, LcY K S O R acc o y H → EndY R N y H
  no : ∀ H, LcN K S O R acc o H → N H
theorem lce_y {R : Addr} {acc : List V} {o : Option PyData} {N : Hp → Prop} {S' : Hp} {d : PyData} (E : LcE K S O R acc o N) (W : Wd K S' H ((R, .lst acc) :: O)) (hs : Same S S') (hd : Dp K S' y d) (h : o = some d) : EndY R N y H := E.yes _ _ ⟨S', d, h, W, hs, hd⟩
theorem lce_n {R : Addr} {acc : List V} {o : Option PyData} {N : Hp → Prop} {S' : Hp} (E : LcE K S O R acc o N) (W : Wd K S' H ((R, .lst acc) :: O)) (hs : Same S S') (h : o = none) : N H := E.no _ ⟨h, S', W, hs⟩
theorem lcE_of {α : Type} {xs : List α} {fr : α → Option PyData} {R : Addr} {i : Nat} {z : α} (hlen : xs.length ≤ 1000000) (hz : xs[i]? = some z) {S' : Hp} {acc : List V} (hS : Same S S') (hA : DpAll K S' acc ((xs.take i).filterMap fr)) :
    LcE K S' O R acc (fr z) (LcP K xs fr S O R (i + 1)) := ⟨(lcP_turn hlen hz hS hA).1, (lcP_turn hlen hz hS hA).2⟩
/-- the body of a comprehension for an element's value u -/
def LcB (g : TG) (tt : TT) (te : TE) (vs : List Nat) (σ : L2.St) (R : Addr) (N : Hp → Prop) (u : V) (H : Hp) : Prop :=
  g u (wipe σ vs) H fun σ2 H2 => wipe σ2 vs = wipe σ vs ∧ tt σ2 H2 fun b H3 => if b = true then te σ2 H3 fun y H4 => EndY R N y H4 else N H3
theorem x_lcb {R : Addr} {N : Hp → Prop} {j : Nat} (h : tt ((wipe σ vs).set j (some x)) H fun b H3 => if b = true then te ((wipe σ vs).set j (some x)) H3 fun y H4 => EndY R N y H4 else N H3)
    (e : wipe ((wipe σ vs).set j (some x)) vs = wipe σ vs := by rfl) : LcB (gName j) tt te vs σ R N x H := ⟨e, h⟩
theorem x_yes {Q : Bool → Hp → Prop} (h : Q true H) : tYes σ H Q := h
/-- over a list -/
def LcL (K : PySem.W.Frag) (g : TG) (tt : TT) (te : TE) (vs : List Nat) (σ : L2.St) (Q : VK) (x : V) (H : Hp) : Prop := ∃ a, x = .ref a ∧ (∃ xs, SqL K H a xs) ∧ ∀ R, H R = none → ∃ W : Nat → Nat → Hp → Prop, (∃ m, W 0 m (upd H R (.lst []))) ∧ ∀ i m H, W i m H →
  ((Itl K a).stop i H ∧ Q (.ref R) H) ∨ ((Itl K a).go i H ∧ ∃ Nx : Hp → Prop, (∀ H', Nx H' → ∃ m', m' < m ∧ W (i + 1) m' H') ∧ ∀ x H', (Itl K a).yld i H x H' → g x (wipe σ vs) H' fun σ2 H2 => wipe σ2 vs = wipe σ vs ∧ tt σ2 H2 fun b H3 =>
    if b = true then te σ2 H3 fun y H4 => ∃ acc, H4 R = some (.lst acc) ∧ acc.length < sizeLine ∧ Nx (upd H4 R (.lst (acc ++ [y]))) else Nx H3)
theorem x_lcl (h : tl σ H fun x H1 => LcL K g tt te vs σ Q x H1) : tLc (iList K tl) g tt te vs σ H Q := h
/-- the new list is ours at the end -/
theorem lc_listO {α : Type} {xs : List α} {f : α → PyData} (fr : α → Option PyData) (W : Wd K S H O) (hv : Dp K S x (.list (xs.map f))) (hlen : xs.length ≤ 1000000)
    (hs : ∀ z S' H' R acc N, z ∈ xs → Wd K S' H' ((R, .lst acc) :: O) → Same S S' → LcE K S' O R acc (fr z) N → Kn K S' (f z) fun u => LcB g tt te vs σ R N u H')
    (k : ∀ S' H' R acc, Wd K S' H' ((R, .lst acc) :: O) → Same S S' → DpAll K S' acc (xs.filterMap fr) → Q (.ref R) H') : LcL K g tt te vs σ Q x H := by
  obtain ⟨a, us, rfl, hq', ha⟩ := dp_lst_ex hv
  have hl : us.length = xs.length := by rw [dpAll_len ha, List.length_map]
  refine ⟨a, rfl, ⟨us, W.lst hq'⟩, fun R hR => lc_list (K := K) (a := a) (xs := us) (Qd := fun H' => Q (.ref R) H') (LcP K xs fr S O R) ⟨S, [], W.alloc hR, Same.refl S, by simp; exact .nil⟩ (fun i H' _ ⟨S', acc, W', hS, hA⟩ => W'.lst (hS.seq hq')) (fun i y H' hy ⟨S', acc, W', hS, hA⟩ => ?_) (fun H' ⟨S', acc, W', hS, hA⟩ => ?_)⟩
  · obtain ⟨dd, hd1, hd2⟩ := dpAll_get' ha hy
    rw [List.getElem?_map] at hd1
    cases e : xs[i]? with
    | none => rw [e] at hd1; cases hd1
    | some z =>
      rw [e] at hd1
      cases hd1
      exact (hs z S' H' R acc (LcP K xs fr S O R (i + 1)) (List.mem_of_getElem? e) W' hS (lcE_of hlen e hS hA)).of y (dp_mono hS hd2)
  · rw [hl, List.take_length] at hA
    exact k S' H' R acc W' hS hA
/-- the new list stays -/
theorem lc_listS {α : Type} {xs : List α} {f : α → PyData} (fr : α → Option PyData) (W : Wd K S H O) (hv : Dp K S x (.list (xs.map f))) (hlen : xs.length ≤ 1000000)
    (hs : ∀ z S' H' R acc N, z ∈ xs → Wd K S' H' ((R, .lst acc) :: O) → Same S S' → LcE K S' O R acc (fr z) N → Kn K S' (f z) fun u => LcB g tt te vs σ R N u H')
    (k : ∀ S' H' v, Wd K S' H' O → Same S S' → Dp K S' v (.list (xs.filterMap fr)) → Q v H') : LcL K g tt te vs σ Q x H :=
  lc_listO fr W hv hlen hs fun S' H' R acc W' hS hA => k _ H' _ (W'.give 0 rfl) (hS.trans (same_new (W'.atS 0 rfl))) (dp_give (W'.atS 0 rfl) hA)
/-- over range(n) -/
def LcR (g : TG) (tt : TT) (te : TE) (vs : List Nat) (σ : L2.St) (Q : VK) (us : List V) (H : Hp) : Prop := ∃ j : Int, us = [.int j] ∧ -(2 ^ 62) ≤ j ∧ j < 2 ^ 62 ∧ ∀ R, H R = none → ∃ W : Nat → Nat → Hp → Prop, (∃ m, W 0 m (upd H R (.lst []))) ∧ ∀ i m H, W i m H →
  ((Itr 0 j.toNat).stop i H ∧ Q (.ref R) H) ∨ ((Itr 0 j.toNat).go i H ∧ ∃ Nx : Hp → Prop, (∀ H', Nx H' → ∃ m', m' < m ∧ W (i + 1) m' H') ∧ ∀ x H', (Itr 0 j.toNat).yld i H x H' → g x (wipe σ vs) H' fun σ2 H2 => wipe σ2 vs = wipe σ vs ∧ tt σ2 H2 fun b H3 =>
    if b = true then te σ2 H3 fun y H4 => ∃ acc, H4 R = some (.lst acc) ∧ acc.length < sizeLine ∧ Nx (upd H4 R (.lst (acc ++ [y]))) else Nx H3)
theorem x_lcr (h : ta σ H fun us H1 => LcR g tt te vs σ Q us H1) : tLc (iRng1 ta) g tt te vs σ H Q := h
theorem lc_rangeO {j : Int} (fr : Nat → Option PyData) (W : Wd K S H O) (hj : -(2 ^ 62) ≤ j ∧ j ≤ 1000000)
    (hs : ∀ (z : Nat) S' H' R acc N, z < j.toNat → Wd K S' H' ((R, .lst acc) :: O) → Same S S' → LcE K S' O R acc (fr z) N → LcB g tt te vs σ R N (.int (z : Int)) H')
    (k : ∀ S' H' R acc, Wd K S' H' ((R, .lst acc) :: O) → Same S S' → DpAll K S' acc ((List.range j.toNat).filterMap fr) → Q (.ref R) H') : LcR g tt te vs σ Q [.int j] H := by
  have hn : (List.range j.toNat).length ≤ 1000000 := by rw [List.length_range]; omega
  refine ⟨j, rfl, hj.1, by omega, fun R hR => lc_range (lo := 0) (n := j.toNat) (Qd := fun H' => Q (.ref R) H') (LcP K (List.range j.toNat) fr S O R) ⟨S, [], W.alloc hR, Same.refl S, by simp; exact .nil⟩ (fun i H' hi ⟨S', acc, W', hS, hA⟩ => ?_) (fun H' ⟨S', acc, W', hS, hA⟩ => ?_)⟩
  · have e : (List.range j.toNat)[i]? = some i := List.getElem?_range hi
    rw [Int.zero_add]
    exact hs i S' H' R acc (LcP K (List.range j.toNat) fr S O R (i + 1)) hi W' hS (lcE_of hn e hS hA)
  · rw [List.take_of_length_le (by rw [List.length_range]; exact Nat.le_refl _)] at hA
    exact k S' H' R acc W' hS hA
theorem lc_rangeS {j : Int} (fr : Nat → Option PyData) (W : Wd K S H O) (hj : -(2 ^ 62) ≤ j ∧ j ≤ 1000000)
    (hs : ∀ (z : Nat) S' H' R acc N, z < j.toNat → Wd K S' H' ((R, .lst acc) :: O) → Same S S' → LcE K S' O R acc (fr z) N → LcB g tt te vs σ R N (.int (z : Int)) H')
    (k : ∀ S' H' v, Wd K S' H' O → Same S S' → Dp K S' v (.list ((List.range j.toNat).filterMap fr)) → Q v H') : LcR g tt te vs σ Q [.int j] H :=
  lc_rangeO fr W hj hs fun S' H' R acc W' hS hA => k _ H' _ (W'.give 0 rfl) (hS.trans (same_new (W'.atS 0 rfl))) (dp_give (W'.atS 0 rfl) hA)
/-- over zip(xs, ys), the target two names -/
def LcZ (K : PySem.W.Frag) (g : TG) (tt : TT) (te : TE) (vs : List Nat) (σ : L2.St) (Q : VK) (us : List V) (H : Hp) : Prop := ∃ a b xs ys, us = [.ref a, .ref b] ∧ SqL K H a xs ∧ SqL K H b ys ∧ ∀ R, H R = none → ∃ W : Nat → Nat → Hp → Prop, (∃ m, W 0 m (upd H R (.lst []))) ∧ ∀ i m H, W i m H →
  ((Itz K a b).stop i H ∧ Q (.ref R) H) ∨ ((Itz K a b).go i H ∧ ∃ Nx : Hp → Prop, (∀ H', Nx H' → ∃ m', m' < m ∧ W (i + 1) m' H') ∧ ∀ x H', (Itz K a b).yld i H x H' → g x (wipe σ vs) H' fun σ2 H2 => wipe σ2 vs = wipe σ vs ∧ tt σ2 H2 fun b H3 =>
    if b = true then te σ2 H3 fun y H4 => ∃ acc, H4 R = some (.lst acc) ∧ acc.length < sizeLine ∧ Nx (upd H4 R (.lst (acc ++ [y]))) else Nx H3)
theorem x_lcz (h : ta σ H fun us H1 => LcZ K g tt te vs σ Q us H1) : tLc (iZip K ta) g tt te vs σ H Q := h
theorem lc_zipO {α β : Type} {xs : List α} {ys : List β} {f : α → PyData} {h : β → PyData} {p q : Nat} (fr : α × β → Option PyData) (W : Wd K S H O) (hx : Dp K S x (.list (xs.map f))) (hy : Dp K S y (.list (ys.map h))) (hl : xs.length = ys.length) (hlen : xs.length ≤ 1000000)
    (hs : ∀ z w S' H' R acc N, (z, w) ∈ xs.zip ys → Wd K S' H' ((R, .lst acc) :: O) → Same S S' → LcE K S' O R acc (fr (z, w)) N → Kn K S' (f z) fun u => Kn K S' (h w) fun v =>
      tt (((wipe σ vs).set p (some u)).set q (some v)) H' fun b H3 => if b = true then te (((wipe σ vs).set p (some u)).set q (some v)) H3 fun y H4 => EndY R N y H4 else N H3)
    (k : ∀ S' H' R acc, Wd K S' H' ((R, .lst acc) :: O) → Same S S' → DpAll K S' acc ((xs.zip ys).filterMap fr) → Q (.ref R) H')
    (e : ∀ u v, wipe (((wipe σ vs).set p (some u)).set q (some v)) vs = wipe σ vs := by intros; rfl) : LcZ K (gTup K 2 (gCons (gName p) (gCons (gName q) gNil))) tt te vs σ Q [x, y] H := by
  obtain ⟨a, us, rfl, hq1, ha⟩ := dp_lst_ex hx
  obtain ⟨b, ws, rfl, hq2, hb⟩ := dp_lst_ex hy
  have l1 : us.length = xs.length := by rw [dpAll_len ha, List.length_map]
  have l2 : ws.length = ys.length := by rw [dpAll_len hb, List.length_map]
  have lz : (xs.zip ys).length = xs.length := by rw [List.length_zip]; omega
  refine ⟨a, b, us, ws, rfl, W.lst hq1, W.lst hq2, fun R hR => ⟨fun i m H' => m = xs.length - i ∧ i ≤ xs.length ∧ LcP K (xs.zip ys) fr S O R i H', ⟨xs.length, rfl, Nat.zero_le _, S, [], W.alloc hR, Same.refl S, by simp; exact .nil⟩, ?_⟩⟩
  rintro i m H' ⟨rfl, hi, S', acc, W', hS, hA⟩
  have g1 : SqL K H' a us := W'.lst (hS.seq hq1)
  have g2 : SqL K H' b ws := W'.lst (hS.seq hq2)
  by_cases hlt : i < xs.length
  · have e1 : us[i]? = some us[i] := List.getElem?_eq_getElem (by omega)
    have e2 : ws[i]? = some ws[i] := List.getElem?_eq_getElem (by omega)
    refine .inr ⟨⟨us, ws, _, _, g1, g2, e1, e2⟩, LcP K (xs.zip ys) fr S O R (i + 1), fun H'' p' => ⟨xs.length - (i + 1), by omega, rfl, hlt, p'⟩, fun v H'' yy => ?_⟩
    obtain ⟨T, u, w, rfl, hT, rfl, f1, f2⟩ := yy
    have e1 := f1 us g1
    have e2 := f2 ws g2
    obtain ⟨d1, h1, r1⟩ := dpAll_get' ha e1
    obtain ⟨d2, h2, r2⟩ := dpAll_get' hb e2
    rw [List.getElem?_map] at h1 h2
    have c1 : xs[i]? = some xs[i] := List.getElem?_eq_getElem hlt
    have c2 : ys[i]? = some (ys[i]'(by omega)) := List.getElem?_eq_getElem (by omega)
    rw [c1] at h1
    rw [c2] at h2
    cases h1
    cases h2
    have cz : (xs.zip ys)[i]? = some (xs[i], ys[i]'(by omega)) := by rw [List.getElem?_zip_eq_some]; exact ⟨c1, c2⟩
    refine ⟨T, [u, w], rfl, .inl (.inl upd_same), rfl, u, [w], rfl, w, [], rfl, rfl, e u w, ?_⟩
    have W2 := W'.new (o := .tup [u, w]) hT
    have hT' := W'.frS hT
    have E2 := lcE_of (S := S) (K := K) (O := O) (R := R) (fr := fr) (by rw [lz]; exact hlen) cz (hS.trans (same_new (o := .tup [u, w]) hT')) (dpAll_mono (same_new hT') hA)
    exact ((hs _ _ _ _ R acc _ (List.mem_of_getElem? cz) W2 (hS.trans (same_new hT')) E2).of u (dp_mono (hS.trans (same_new hT')) r1)).of w (dp_mono (hS.trans (same_new hT')) r2)
  · have e3 : i = xs.length := by omega
    subst e3
    refine .inl ⟨⟨us, ws, g1, g2, Or.inl (by omega)⟩, ?_⟩
    rw [← lz, List.take_length] at hA
    exact k S' H' R acc W' hS hA
theorem lc_zipS {α β : Type} {xs : List α} {ys : List β} {f : α → PyData} {h : β → PyData} {p q : Nat} (fr : α × β → Option PyData) (W : Wd K S H O) (hx : Dp K S x (.list (xs.map f))) (hy : Dp K S y (.list (ys.map h))) (hl : xs.length = ys.length) (hlen : xs.length ≤ 1000000)
    (hs : ∀ z w S' H' R acc N, (z, w) ∈ xs.zip ys → Wd K S' H' ((R, .lst acc) :: O) → Same S S' → LcE K S' O R acc (fr (z, w)) N → Kn K S' (f z) fun u => Kn K S' (h w) fun v =>
      tt (((wipe σ vs).set p (some u)).set q (some v)) H' fun b H3 => if b = true then te (((wipe σ vs).set p (some u)).set q (some v)) H3 fun y H4 => EndY R N y H4 else N H3)
    (k : ∀ S' H' v, Wd K S' H' O → Same S S' → Dp K S' v (.list ((xs.zip ys).filterMap fr)) → Q v H')
    (e : ∀ u v, wipe (((wipe σ vs).set p (some u)).set q (some v)) vs = wipe σ vs := by intros; rfl) : LcZ K (gTup K 2 (gCons (gName p) (gCons (gName q) gNil))) tt te vs σ Q [x, y] H :=
  lc_zipO fr W hx hy hl hlen hs (fun S' H' R acc W' hS hA => k _ H' _ (W'.give 0 rfl) (hS.trans (same_new (W'.atS 0 rfl))) (dp_give (W'.atS 0 rfl) hA)) e
end
end SB
namespace SB
open L2
theorem cdivw_any {i i' j : Int} (h : CDivW i j) : CDivW i' j := h
theorem cdivw_of {i j : Int} {b : Nat} (h : 0 < j) (hb : j.natAbs < 2 ^ b) (h0 : 0 < b := by decide) (h9 : b ≤ 9000 := by decide) : CDivW i j := wide_div h hb h0 h9
theorem cmulw_of {i j : Int} {a b : Nat} (ha : i.natAbs < 2 ^ a) (hb : j.natAbs < 2 ^ b) (h0 : 0 < a := by decide) (h1 : 0 < b := by decide) (h : a + b ≤ 1000000 := by decide) : CMulW i j := wide_mul ha hb h0 h1 h
end SB
namespace SB
open PySem PySem.Spec PyProof.Rows L2
section
variable {CX : CXT} {P : Program} {w : World} {K : PySem.W.Frag} {mg : Str → Option Value} {base : Heap} {N : List Str} {qual : Str} {scope : Scope} {f : Addr} {cd : Value} {A : Around} {outer : List Env} {s : Shared} {H : Hp} {E : XK}
theorem cxK : (cxOf CX P w K mg base N qual scope f cd A outer s H E).K = K := rfl
theorem cxw : (cxOf CX P w K mg base N qual scope f cd A outer s H E).w = w := rfl
theorem cxprog : (cxOf CX P w K mg base N qual scope f cd A outer s H E).prog = P := rfl
end
end SB
namespace SB
open PySem PySem.Spec PyProof.Rows L2
theorem exm_own {K : PySem.W.Frag} {C D : Addr} {b : Bool} (hs : PySem.W.subIn K (.ref D) (.type "BaseException") = some true) (hi : PySem.W.isClsIn K D = true) (ht : PySem.W.typeIn K (.ref D) = some (.type "type"))
    (h : PySem.W.subIn K (.ref C) (.ref D) = some b) : PySem.W.exmOne K (.ref C) (.ref D) = some b := by
  have e1 : (PySem.W.subIn K (.ref D) (.type "BaseException") == some true) = true := by rw [hs]; rfl
  have hi' : (PySem.W.clsIn K D).isSome = true := hi
  have e2 : ((PySem.W.clsIn K D).isSome && PySem.W.typeIn K (.ref D) == some (.type "type")) = true := by rw [hi', ht]; rfl
  show (if (PySem.W.subIn K (.ref D) (.type "BaseException") == some true) = true then (if ((PySem.W.clsIn K D).isSome && PySem.W.typeIn K (.ref D) == some (.type "type")) = true then PySem.W.subIn K (.ref C) (.ref D) else none) else none) = some b
  rw [if_pos e1, if_pos e2]
  exact h
theorem kit_self {K : PySem.W.Frag} {C : Addr} : PySem.W.kitOne K (.ref C) (.ref C) = some true := by
  show (if ((Value.ref C : Value) == .ref C) = true then some true else _) = some true
  rw [if_pos (by simp)]
theorem kit_own {K : PySem.W.Frag} {C D : Addr} {b : Bool} (hne : C ≠ D) (hi : PySem.W.isClsIn K D = true) (ht : PySem.W.typeIn K (.ref D) = some (.type "type"))
    (h : PySem.W.subIn K (.ref C) (.ref D) = some b) : PySem.W.kitOne K (.ref C) (.ref D) = some b := by
  have hi' : (PySem.W.clsIn K D).isSome = true := hi
  have e2 : ((PySem.W.clsIn K D).isSome && PySem.W.typeIn K (.ref D) == some (.type "type")) = true := by rw [hi', ht]; rfl
  show (if ((Value.ref C : Value) == .ref D) = true then some true else (if ((PySem.W.clsIn K D).isSome && PySem.W.typeIn K (.ref D) == some (.type "type")) = true then PySem.W.subIn K (.ref C) (.ref D) else none)) = some b
  rw [if_neg (by simpa using hne), if_pos e2]
  exact h
theorem kit_bty {K : PySem.W.Frag} {C : Addr} {n : String} {b : Bool} (hm : PySem.W.kitMeta n = true) (h : PySem.W.subIn K (.ref C) (.type n) = some b) : PySem.W.kitOne K (.ref C) (.type n) = some b := by
  show (if ((Value.ref C : Value) == .type n) = true then some true else (if PySem.W.kitMeta n = true then PySem.W.subIn K (.ref C) (.type n) else none)) = some b
  rw [if_neg (by simp), if_pos hm]
  exact h
theorem x_isX {K : PySem.W.Frag} {C c a : Addr} {b : Bool} {Q : VK} {H : Hp} (hC : ExcC K C) (hk : PySem.W.kitOne K (.ref C) (.ref c) = some b) (q : Q (.bl b) H) : rIsX K (.ref C) none a [.ref a, .ref c] H Q :=
  ⟨C, .ref c, .ref c, b, rfl, rfl, hC, rfl, fun u h => h, hk, q⟩
theorem x_isXT {K : PySem.W.Frag} {C a : Addr} {n : String} {b : Bool} {Q : VK} {H : Hp} (hC : ExcC K C) (hk : PySem.W.kitOne K (.ref C) (.type n) = some b) (q : Q (.bl b) H) : rIsX K (.ref C) none a [.ref a, .ty n] H Q :=
  ⟨C, .ty n, .type n, b, rfl, rfl, hC, rfl, fun u h => h, hk, q⟩
end SB
namespace SB
open L2
theorem kb_int_int : kitB "int" "int" = some true := by decide +kernel
theorem kb_int_bool : kitB "int" "bool" = some false := by decide +kernel
theorem kb_bool_bool : kitB "bool" "bool" = some true := by decide +kernel
theorem kb_bool_int : kitB "bool" "int" = some true := by decide +kernel
theorem kb_list_list : kitB "list" "list" = some true := by decide +kernel
theorem kb_tuple_tuple : kitB "tuple" "tuple" = some true := by decide +kernel
theorem kb_dict_dict : kitB "dict" "dict" = some true := by decide +kernel
theorem kb_NoneType_int : kitB "NoneType" "int" = some false := by decide +kernel
theorem kb_tuple_list : kitB "tuple" "list" = some false := by decide +kernel
theorem kb_list_tuple : kitB "list" "tuple" = some false := by decide +kernel
theorem kb_str_int : kitB "str" "int" = some false := by decide +kernel
theorem kb_tuple_int : kitB "tuple" "int" = some false := by decide +kernel
theorem kb_list_int : kitB "list" "int" = some false := by decide +kernel
end SB
namespace SB
open PySem PySem.Spec PyProof.Rows L2
/-! ### == of data -/
def Shp (n : Nat) (d : PyData) : Prop := d.canLay0 = true ∧ d.depth ≤ n
theorem shp_shaped {n : Nat} {d : PyData} (h : Shp n d) (hn : n ≤ 64 := by decide) : SeqAt.shaped d = true := by
  unfold SeqAt.shaped
  rw [h.1, Bool.true_and]
  exact decide_eq_true (Nat.le_trans h.2 hn)
theorem shp_int {n : Nat} (i : Int) : Shp n (.int i) := ⟨rfl, Nat.zero_le _⟩
theorem shp_bl {n : Nat} (i : Bool) : Shp n (.bool i) := ⟨rfl, Nat.zero_le _⟩
theorem shp_non {n : Nat} : Shp n .none := ⟨rfl, Nat.zero_le _⟩
theorem shp_all {n : Nat} : ∀ {ds : List PyData}, (∀ d ∈ ds, Shp n d) → PyData.canLayAll0 ds = true ∧ PyData.depthAll ds ≤ n
  | [], _ => ⟨rfl, Nat.zero_le _⟩
  | d :: ds, h => by
    have h1 := h d List.mem_cons_self
    have h2 := shp_all (ds := ds) fun e he => h e (List.mem_cons_of_mem _ he)
    refine ⟨?_, ?_⟩
    · show (PyData.canLay0 d && PyData.canLayAll0 ds) = true
      rw [h1.1, h2.1]
      rfl
    · show max (PyData.depth d) (PyData.depthAll ds) ≤ n
      exact Nat.max_le.mpr ⟨h1.2, h2.2⟩
theorem shp_list {n : Nat} {ds : List PyData} (h : ∀ d ∈ ds, Shp n d) : Shp (n + 1) (.list ds) := by
  have := shp_all h
  exact ⟨this.1, Nat.succ_le_succ this.2⟩
theorem shp_tup {n : Nat} {ds : List PyData} (h : ∀ d ∈ ds, Shp n d) : Shp (n + 1) (.tuple ds) := by
  have := shp_all h
  exact ⟨this.1, Nat.succ_le_succ this.2⟩
theorem shp_map {α : Type} {n : Nat} {xs : List α} {f : α → PyData} (h : ∀ x, Shp n (f x)) : Shp (n + 1) (.list (xs.map f)) := shp_list fun d hd => by
  obtain ⟨x, _, rfl⟩ := List.mem_map.mp hd
  exact h x
theorem eqvAll_map {α : Type} [DecidableEq α] {f : α → PyData} (h : ∀ x y, PyData.eqv (f x) (f y) = decide (x = y)) : ∀ xs ys : List α, PyData.eqvAll (xs.map f) (ys.map f) = decide (xs = ys)
  | [], [] => rfl
  | [], _ :: _ => rfl
  | _ :: _, [] => rfl
  | x :: xs, y :: ys => by
    show (PyData.eqv (f x) (f y) && PyData.eqvAll (xs.map f) (ys.map f)) = _
    rw [h, eqvAll_map h xs ys]
    by_cases e : x = y
    · subst e
      by_cases e2 : xs = ys
      · subst e2; simp
      · simp [e2]
    · simp [e]
theorem eqv_map {α : Type} [DecidableEq α] {f : α → PyData} (h : ∀ x y, PyData.eqv (f x) (f y) = decide (x = y)) (xs ys : List α) : PyData.eqv (.list (xs.map f)) (.list (ys.map f)) = decide (xs = ys) := eqvAll_map h xs ys
theorem eqv_int (x y : Int) : PyData.eqv (.int x) (.int y) = decide (x = y) := Bool.beq_eq_decide_eq x y
theorem eqv_self {d : PyData} {n : Nat} (h : Shp n d) : PyData.eqv d d = true := SeqAt.eqv_refl d h.1
section
variable {K : PySem.W.Frag} {S H : Hp} {O : List (Addr × HO)} {Q : VK} {x y : V}
theorem x_eqD {d e : PyData} (W : Wd K S H O) (h1 : Dp K S x d) (h2 : Dp K S y e) (s1 : Shp 64 d) (s2 : Shp 64 e) (q : Q (.bl (PyData.eqv d e)) H) : rEqD K x y H Q :=
  ⟨d, e, dp_mono W.sub h1, dp_mono W.sub h2, shp_shaped s1, shp_shaped s2, q⟩
theorem x_neD {d e : PyData} (W : Wd K S H O) (h1 : Dp K S x d) (h2 : Dp K S y e) (s1 : Shp 64 d) (s2 : Shp 64 e) (q : Q (.bl (!PyData.eqv d e)) H) : rNeD K x y H Q :=
  ⟨d, e, dp_mono W.sub h1, dp_mono W.sub h2, shp_shaped s1, shp_shaped s2, q⟩
end
theorem Shp.mono {m n : Nat} {d : PyData} (h : Shp m d) (hn : m ≤ n) : Shp n d := ⟨h.1, Nat.le_trans h.2 hn⟩
end SB
namespace SB
open PySem PySem.Spec PyProof.Rows L2
/-! ### list + list, list * int -/
def rCatS (K : PySem.W.Frag) : R2 := fun x y H Q => ∃ l b xs zs, x = .ref l ∧ y = .ref b ∧ SqL K H l xs ∧ SqL K H b zs ∧ xs.length + zs.length ≤ sizeLine ∧ ∀ p, H p = none → Q (.ref p) (upd H p (.lst (xs ++ zs)))
theorem op_catS {X : Cx} : OpR X (binaryOp .Add) (rCatS X.K) := by
  intro pins s σ H x y v u Q I rx ry h
  obtain ⟨l, b, xs, zs, rfl, rfl, hH, hB, hz, q⟩ := h
  cases rx
  cases ry
  obtain ⟨its, r, p1, z1⟩ := I.list hH
  obtain ⟨its2, r2, p2, z2⟩ := I.list hB
  have hl := r.length
  have hl2 := r2.length
  obtain ⟨⟨cls, dd, data, sl⟩, n, ho, hc, hdn, hd⟩ := p1
  obtain ⟨⟨cls2, dd2, data2, sl2⟩, n2, ho2, hc2, hdn2, hd2⟩ := p2
  simp only at hc hd hc2 hd2
  subst hc hd hc2 hd2
  have e : its.toArray ++ its2.toArray = (its ++ its2).toArray := by simp
  refine concat_meets ⟨_, ho, rfl⟩ ⟨_, ho2, rfl⟩ noFill_list_add seq_list_add PySem.F.slot_list_add PySem.F.entry_list_add (PySem.F.args_list_add_2 _ _) (list_addW l b its.toArray its2.toArray n n2 dd dd2 sl sl2 (by rw [List.size_toArray, List.size_toArray]; omega)) ⟨ho, ho2, ?_⟩
  rw [e]
  exact ⟨.ref _, _, I.lnew (t' := s.toks) (r.append r2) (by rw [List.length_append]; omega), rfl, q _ I.fresh⟩
section
variable {K : PySem.W.Frag} {S H : Hp} {O : List (Addr × HO)} {Q : VK} {x y : V}
theorem x_catS {ds es : List PyData} (W : Wd K S H O) (h1 : Dp K S x (.list ds)) (h2 : Dp K S y (.list es)) (hl : ds.length + es.length ≤ 1000000) (k : ∀ S' H' v, Wd K S' H' O → Same S S' → Dp K S' v (.list (ds ++ es)) → Q v H') : rCatS K x y H Q := by
  obtain ⟨a, us, rfl, hq1, ha⟩ := dp_lst_ex h1
  obtain ⟨b, ws, rfl, hq2, hb⟩ := dp_lst_ex h2
  exact ⟨a, b, us, ws, rfl, rfl, W.lst hq1, W.lst hq2, sz (by rw [dpAll_len ha, dpAll_len hb]; exact hl), x_lst' W (dpAll_cat ha hb) k⟩
theorem flatten_rep {n : Nat} {v : V} : (List.replicate n [v]).flatten = List.replicate n v := by
  induction n with
  | zero => rfl
  | succ n ih => rw [List.replicate_succ, List.flatten_cons, ih]; rfl
/-- [v] * n: a new list that is ours; the first one is let go -/
theorem x_rep {p : Addr} {v : V} {n : Int} (W : Wd K S H ((p, .lst [v]) :: O)) (h0 : -1000000 ≤ n) (h1 : n ≤ 1000000) (k : ∀ S' H' q, Wd K S' H' ((q, .lst (List.replicate n.toNat v)) :: O) → Same S S' → Q (.ref q) H') : rRep (.ref p) (.int n) H Q := by
  refine ⟨p, n, [v], rfl, rfl, W.at 0 rfl, by omega, by omega, ?_, fun q hq => ?_⟩
  · show 1 * n.toNat ≤ sizeLine
    exact sz (by omega)
  · rw [flatten_rep]
    exact k _ _ q ((W.give 0 rfl).alloc hq) (same_new (W.atS 0 rfl))
end
end SB
/-! Comprehensions by what they give. -/
namespace SB
open PySem PySem.Spec PyProof.Rows L2
theorem fm_map {α β : Type} {xs : List α} {f : α → β} : xs.filterMap (fun z => some (f z)) = xs.map f := by
  induction xs with
  | nil => rfl
  | cons x r ih => simp only [List.filterMap_cons, List.map_cons, ih]
theorem fm_filt {α β : Type} {xs : List α} {p : α → Bool} {f : α → β} : xs.filterMap (fun z => if p z = true then some (f z) else none) = (xs.filter p).map f := by
  induction xs with
  | nil => rfl
  | cons x r ih =>
    cases h : p x
    · rw [List.filter_cons_of_neg (by rw [h]; exact Bool.false_ne_true), ← ih, List.filterMap_cons]
      simp only [h, Bool.false_eq_true, if_false]
    · rw [List.filter_cons_of_pos h, List.map_cons, ← ih, List.filterMap_cons]
      simp only [h, if_true]
section
variable {K : PySem.W.Frag} {S H : Hp} {O : List (Addr × HO)} {σ : L2.St} {Q : VK} {x y v : V} {tt : TT} {g : TG} {te : TE} {vs : List Nat}
theorem lc_map {α β : Type} {xs : List α} {f : α → PyData} (e : β → PyData) (G : α → β) (W : Wd K S H O) (hv : Dp K S x (.list (xs.map f))) (hlen : xs.length ≤ 1000000)
    (hs : ∀ z S' H' R acc N, z ∈ xs → Wd K S' H' ((R, .lst acc) :: O) → Same S S' → LcE K S' O R acc (some (e (G z))) N → Kn K S' (f z) fun u => LcB g tt te vs σ R N u H')
    (k : ∀ S' H' v, Wd K S' H' O → Same S S' → Dp K S' v (.list ((xs.map G).map e)) → Q v H') : LcL K g tt te vs σ Q x H :=
  lc_listS (fun z => some (e (G z))) W hv hlen hs fun S' H' v W' hS hv' => k S' H' v W' hS (by rw [fm_map] at hv'; rw [List.map_map]; exact hv')
theorem lc_filt {α β : Type} {xs : List α} {f : α → PyData} (e : β → PyData) (p : α → Bool) (G : α → β) (W : Wd K S H O) (hv : Dp K S x (.list (xs.map f))) (hlen : xs.length ≤ 1000000)
    (hs : ∀ z S' H' R acc N, z ∈ xs → Wd K S' H' ((R, .lst acc) :: O) → Same S S' → LcE K S' O R acc (if p z = true then some (e (G z)) else none) N → Kn K S' (f z) fun u => LcB g tt te vs σ R N u H')
    (k : ∀ S' H' v, Wd K S' H' O → Same S S' → Dp K S' v (.list (((xs.filter p).map G).map e)) → Q v H') : LcL K g tt te vs σ Q x H :=
  lc_listS (fun z => if p z = true then some (e (G z)) else none) W hv hlen hs fun S' H' v W' hS hv' => k S' H' v W' hS (by rw [fm_filt] at hv'; rw [List.map_map]; exact hv')
theorem lcr_map {β : Type} {j : Int} (e : β → PyData) (G : Nat → β) (W : Wd K S H O) (hj : -(2 ^ 62) ≤ j ∧ j ≤ 1000000)
    (hs : ∀ (z : Nat) S' H' R acc N, z < j.toNat → Wd K S' H' ((R, .lst acc) :: O) → Same S S' → LcE K S' O R acc (some (e (G z))) N → LcB g tt te vs σ R N (.int (z : Int)) H')
    (k : ∀ S' H' v, Wd K S' H' O → Same S S' → Dp K S' v (.list (((List.range j.toNat).map G).map e)) → Q v H') : LcR g tt te vs σ Q [.int j] H :=
  lc_rangeS (fun z => some (e (G z))) W hj hs fun S' H' v W' hS hv' => k S' H' v W' hS (by rw [fm_map] at hv'; rw [List.map_map]; exact hv')
theorem lcr_filt {β : Type} {j : Int} (e : β → PyData) (p : Nat → Bool) (G : Nat → β) (W : Wd K S H O) (hj : -(2 ^ 62) ≤ j ∧ j ≤ 1000000)
    (hs : ∀ (z : Nat) S' H' R acc N, z < j.toNat → Wd K S' H' ((R, .lst acc) :: O) → Same S S' → LcE K S' O R acc (if p z = true then some (e (G z)) else none) N → LcB g tt te vs σ R N (.int (z : Int)) H')
    (k : ∀ S' H' v, Wd K S' H' O → Same S S' → Dp K S' v (.list ((((List.range j.toNat).filter p).map G).map e)) → Q v H') : LcR g tt te vs σ Q [.int j] H :=
  lc_rangeS (fun z => if p z = true then some (e (G z)) else none) W hj hs fun S' H' v W' hS hv' => k S' H' v W' hS (by rw [fm_filt] at hv'; rw [List.map_map]; exact hv')
theorem lcz_map {α β γ : Type} {xs : List α} {ys : List β} {f : α → PyData} {h : β → PyData} {p q : Nat} (e : γ → PyData) (G : α × β → γ) (W : Wd K S H O) (hx : Dp K S x (.list (xs.map f))) (hy : Dp K S y (.list (ys.map h))) (hl : xs.length = ys.length) (hlen : xs.length ≤ 1000000)
    (hs : ∀ z w S' H' R acc N, (z, w) ∈ xs.zip ys → Wd K S' H' ((R, .lst acc) :: O) → Same S S' → LcE K S' O R acc (some (e (G (z, w)))) N → Kn K S' (f z) fun u => Kn K S' (h w) fun v =>
      tt (((wipe σ vs).set p (some u)).set q (some v)) H' fun b H3 => if b = true then te (((wipe σ vs).set p (some u)).set q (some v)) H3 fun y H4 => EndY R N y H4 else N H3)
    (k : ∀ S' H' v, Wd K S' H' O → Same S S' → Dp K S' v (.list (((xs.zip ys).map G).map e)) → Q v H')
    (ew : ∀ u v, wipe (((wipe σ vs).set p (some u)).set q (some v)) vs = wipe σ vs := by intros; rfl) : LcZ K (gTup K 2 (gCons (gName p) (gCons (gName q) gNil))) tt te vs σ Q [x, y] H :=
  lc_zipS (fun z => some (e (G z))) W hx hy hl hlen hs (fun S' H' v W' hS hv' => k S' H' v W' hS (by rw [fm_map] at hv'; rw [List.map_map]; exact hv')) ew
/-- in, not in: ints -/
theorem flat_ints (ns : List Int) : (ns.map V.int).all flatV = true := by
  rw [List.all_eq_true]
  intro z hz
  obtain ⟨i, _, rfl⟩ := List.mem_map.mp hz
  rfl
theorem inV_ints (i : Int) (ns : List Int) : inV (.int i) (ns.map V.int) = decide (i ∈ ns) := by
  unfold inV
  rw [Bool.eq_iff_iff, List.any_eq_true, decide_eq_true_iff]
  constructor
  · rintro ⟨z, hz, e⟩
    obtain ⟨j, hj, rfl⟩ := List.mem_map.mp hz
    have : j = i := by simpa [eqV] using e
    subst this
    exact hj
  · intro h
    exact ⟨.int i, List.mem_map_of_mem h, by simp [eqV]⟩
theorem x_inT {i : Int} {ns : List Int} {neg : Bool} (W : Wd K S H O) (h : Dp K S x (.tuple (ns.map PyData.int))) (q : Q (.bl (if neg then !decide (i ∈ ns) else decide (i ∈ ns))) H) : rIn K neg (.int i) x H Q := by
  obtain ⟨a, us, rfl, hq, ha⟩ := dp_tup_ex h
  rw [ints_of ha] at hq
  exact ⟨a, _, rfl, .inr (W.tup hq), rfl, flat_ints ns, by rw [inV_ints]; exact q⟩
theorem x_inL {i : Int} {ns : List Int} {neg : Bool} (W : Wd K S H O) (h : Dp K S x (.list (ns.map PyData.int))) (q : Q (.bl (if neg then !decide (i ∈ ns) else decide (i ∈ ns))) H) : rIn K neg (.int i) x H Q := by
  obtain ⟨a, us, rfl, hq, ha⟩ := dp_lst_ex h
  rw [ints_of ha] at hq
  exact ⟨a, _, rfl, .inl (W.lst hq), rfl, flat_ints ns, by rw [inV_ints]; exact q⟩
theorem x_inO {i : Int} {ns : List Int} {neg : Bool} {p : Addr} (n : Nat) (W : Wd K S H O) (h : O[n]? = some (p, .lst (ns.map V.int))) (q : Q (.bl (if neg then !decide (i ∈ ns) else decide (i ∈ ns))) H) : rIn K neg (.int i) (.ref p) H Q :=
  ⟨p, _, rfl, .inl (.of (W.at n h)), rfl, flat_ints ns, by rw [inV_ints]; exact q⟩
end
end SB
/-! Lists of ints that are ours. -/
namespace SB
open PySem PySem.Spec PyProof.Rows L2
section
variable {K : PySem.W.Frag} {S H : Hp} {O : List (Addr × HO)} {σ : L2.St} {Q : VK} {x y v : V}
theorem x_ixM {p : Addr} {xs : List Int} {i : Int} (n : Nat) (W : Wd K S H O) (h : O[n]? = some (p, .lst (xs.map V.int))) (h0 : 0 ≤ i) (h1 : i < xs.length) (k : Q (.int (nth xs i)) H) : rIx K (.ref p) (.int i) H Q :=
  x_ixO n W h (atI_map h0 h1) k
theorem x_setM {p : Addr} {xs : List Int} {i b : Int} {Q : Hp → Prop} (n : Nat) (W : Wd K S H O) (h : O[n]? = some (p, .lst (xs.map V.int))) (h0 : 0 ≤ i) (h1 : i < xs.length)
    (k : ∀ H', Wd K S H' (O.set n (p, .lst ((xs.set i.toNat b).map V.int))) → Q H') : rSetL (.ref p) (.int i) (.int b) H Q :=
  x_setO n W h (ixN_of h0 (by rw [List.length_map]; exact h1)) fun H' W' => k H' (by rw [List.map_set]; exact W')
theorem dpAll_intsV (ns : List Int) : DpAll K S (ns.map V.int) (ns.map PyData.int) := dpAll_ints ns
theorem flatten_repI {n : Nat} {i : Int} : List.replicate n (V.int i) = (List.replicate n i).map V.int := by
  rw [List.map_replicate]
theorem x_repI {p : Addr} {i n : Int} (W : Wd K S H ((p, .lst [.int i]) :: O)) (h0 : -1000000 ≤ n) (h1 : n ≤ 1000000) (k : ∀ S' H' q, Wd K S' H' ((q, .lst ((List.replicate n.toNat i).map V.int)) :: O) → Same S S' → Q (.ref q) H') : rRep (.ref p) (.int n) H Q :=
  x_rep W h0 h1 fun S' H' q W' hS => k S' H' q (by rw [← flatten_repI]; exact W') hS
end
end SB
namespace SB
open PySem PySem.Spec PyProof.Rows L2
theorem ne_true {c : Bool} (h : c = false) : ¬ c = true := by rw [h]; exact Bool.false_ne_true
section
variable {K : PySem.W.Frag} {S H : Hp} {O : List (Addr × HO)} {σ : L2.St} {Q : VK} {x y v : V} {g : TG} {tb : TS} {nx bk ct : L2.St → Hp → Prop} {rt : VK}
/-- one of ours, the first, stays from now on -/
theorem x_give {G : Prop} {p : Addr} {vs : List V} {ds : List PyData} (W : Wd K S H ((p, .lst vs) :: O)) (h : DpAll K S vs ds) (k : ∀ S', Wd K S' H O → Same S S' → Dp K S' (.ref p) (.list ds) → G) : G :=
  k _ (W.give 0 rfl) (same_new (W.atS 0 rfl)) (dp_give (W.atS 0 rfl) h)
theorem x_giveI {G : Prop} {p : Addr} {ns : List Int} (W : Wd K S H ((p, .lst (ns.map V.int)) :: O)) (k : ∀ S', Wd K S' H O → Same S S' → Dp K S' (.ref p) (.list (ns.map PyData.int)) → G) : G :=
  x_give W (dpAll_ints ns) k
/-- over range(len(xs)) -/
theorem x_forNL {α β : Type} {xs : List α} {f : α → β} (J : Nat → L2.St → Hp → Prop) (hl : xs.length ≤ 1000000) (h0 : J 0 σ H)
    (hs : ∀ (i : Nat) σ' H', i < xs.length → J i σ' H' → g (.int (i : Int)) σ' H' fun σ2 H2 => tb ⟨J (i + 1), rt, nx, J (i + 1)⟩ σ2 H2) (hd : ∀ σ' H', J xs.length σ' H' → nx σ' H') : ForR g tb ⟨nx, rt, bk, ct⟩ [.int (((xs.map f).length : Nat) : Int)] σ H := by
  have e : (((xs.map f).length : Nat) : Int).toNat = xs.length := by rw [List.length_map]; exact Int.toNat_natCast _
  refine x_forN J (by rw [List.length_map]; omega) h0 (fun i σ' H' hi h => hs i σ' H' (by rw [e] at hi; exact hi) h) (fun σ' H' h => hd σ' H' (by rw [e] at h; exact h))
end
end SB
/-! ### rules with the fragment named, for what stands in a comprehension -/
namespace SB
open PySem PySem.Spec PyProof.Rows L2
section
variable {X : Cx} {K : PySem.W.Frag}
theorem ixa (e : X.K = K) : IxR X (rIx K) := e ▸ ix_seq
theorem lena (e : X.K = K) : CallR X (.builtin "len") (rLen K) := e ▸ cl_len
theorem lista (e : X.K = K) : CallR X (.type "list") (rLst K) := e ▸ cl_list
theorem suma (e : X.K = K) (hc : X.calm = true) : CallR X (.builtin "sum") (rSum K) := e ▸ cr_sum hc
theorem alla (e : X.K = K) (hc : X.calm = true) : CallR X (.builtin "all") (rAll K) := e ▸ cr_all hc
theorem anya (e : X.K = K) (hc : X.calm = true) : CallR X (.builtin "any") (rAny K) := e ▸ cr_any hc
theorem maxa (e : X.K = K) (hc : X.calm = true) : CallR X (.builtin "max") (rMax K) := e ▸ cr_max hc
theorem mina (e : X.K = K) (hc : X.calm = true) : CallR X (.builtin "min") (rMin K) := e ▸ cr_min hc
theorem isia (e : X.K = K) : CallR X (.builtin "isinstance") (rIsi K) := e ▸ call_isi
theorem ina (e : X.K = K) : OpR X (compareOp .In) (rIn K false) := e ▸ op_in_seq
theorem notIna (e : X.K = K) : OpR X (compareOp .NotIn) (rIn K true) := e ▸ op_notIn_seq
theorem catSa (e : X.K = K) : OpR X (binaryOp .Add) (rCatS K) := e ▸ op_catS
theorem slLa (e : X.K = K) : SlR X (rSlL K) := e ▸ sl_list
theorem slTa (e : X.K = K) : SlR X (rSlT K) := e ▸ sl_tup
theorem eqDa (e : X.K = K) (hu : X.A.units + 64 < cLine) : OpR X (compareOp .Eq) (rEqD K) := e ▸ op_eqD hu
theorem neDa (e : X.K = K) (hu : X.A.units + 64 < cLine) : OpR X (compareOp .NotEq) (rNeD K) := e ▸ op_neD hu
theorem trutha (e : X.K = K) {a : Expr} {ta : TE} (ha : PE X a ta) (he : ∀ whole, isTrue a X.env whole = (do let v ← whole; standAt a.pos; holding [v] (truthy v))) : PT X a (tTr K ta) := e ▸ pl_truth ha he
theorem tupa (e : X.K = K) {pos : Pos} {es : List Expr} {k : Nat} {t : TGs} {n : Nat} (hc : X.calm = true) (h : PGs X es t)
    (hn : (assignEach es X.env).length = n := by rfl) (hst : (assignEach es X.env).findIdx? (·.1) = none := by rfl) : PG X (.Tuple es k pos) (gTup K n t) := e ▸ pg_tup hc h hn hst
end
end SB
/-! ### where ways meet -/
namespace SB
open PySem PySem.Spec PyProof.Rows L2
section
variable {K : PySem.W.Frag} {S H : Hp} {O : List (Addr × HO)} {σ : L2.St} {Q : VK} {x y v : V} {tt : TT} {t u : TS} {nx bk ct : L2.St → Hp → Prop} {rt : VK}
theorem x_ifJ (J : L2.St → Hp → Prop) (h : ∀ nx' : L2.St → Hp → Prop, (∀ σ' H', J σ' H' → nx' σ' H') → tt σ H fun b H1 => if b = true then t ⟨nx', rt, bk, ct⟩ σ H1 else u ⟨nx', rt, bk, ct⟩ σ H1)
    (hd : ∀ σ' H', J σ' H' → nx σ' H') : tIfS tt t u ⟨nx, rt, bk, ct⟩ σ H := h nx hd
theorem x_cutV {t : TE} (J : V → Hp → Prop) (h : ∀ Q' : VK, (∀ v H', J v H' → Q' v H') → t σ H Q') (hd : ∀ v H', J v H' → Q v H') : t σ H Q := h Q hd
theorem x_isB {a b : Bool} (q : Q (.bl (decide (a = b))) H) : rIsB (.bl a) (.bl b) H Q := ⟨a, b, rfl, rfl, q⟩
theorem x_notB {a b : Bool} (q : Q (.bl (!decide (a = b))) H) : rNotB (.bl a) (.bl b) H Q := ⟨a, b, rfl, rfl, q⟩
end
end SB
/-! set(xs) of a list of ints; sorted and len of it. -/
namespace SB
open PySem PySem.Spec PyProof.Rows L2
section
variable {P : Program} {w : World} {A : Around} {E : Value → Shared → Prop} {s : Shared}
/-- a set that was made just now -/
abbrev setZ (w : World) : Obj := { cls := .type "set", dict := none, data := .set #[] 0 (.fresh 0 0 (!w.params.followText "set-order")) }
set_option maxHeartbeats 3200000 in
theorem set_of_list {l : Addr} {items : Array Value} (ns : List Int) {Q : Value → Shared → Prop} (hh : A.handled = none) (hl : s.heap.IsList l items) (hit : IntsAre items.toList ns) (hb : ns.length + 1 < scanBound)
    (h : ∀ (h' : Heap) (tk c : Nat), SetR w h' s.heap.objs.size (fun j => decide (j ∈ ns)) c → c ≤ ns.length → (∀ b o, s.heap.get? b = some o → h'.get? b = some o) → Q (.ref s.heap.objs.size) { s with heap := h', toks := tk }) :
    wpAny (model P w) A (call (.type "set") [.ref l]) Q E s := by
  have hsz : items.size = ns.length := by
    have q := IntsAre.length hit
    rw [Array.length_toList] at q
    exact q
  obtain ⟨c, tl, hmro⟩ := F.called_set.mro
  have hmade := F.called_set.made
  have hsub := F.called_set.sub
  refine wpAny_call (codeAny_of_tree ?_)
  show wpAny _ _ (callAny (.type "set") _) _ _ _
  refine wpAny_pure ⟨Code.quiet_builtin _ (by decide +kernel), codeAny_builtin F.entry_type_call ?_⟩
  rw [Around.under_plain (weight_type_call_type "set" [.ref l] []) rfl]
  have h1 := F.called_set.notType
  have h2 := F.called_set.canCreate
  have hct := F.typeCall_set_1 (.ref l)
  repeat (any_goals (first | assumption | wp_step))
  refine codeAny_mono (code_set_led1 (.ref l) (E := E) (Q₁ := fun obj s₁ => obj = .ref s.heap.objs.size ∧ s₁ = { s with heap := s.heap.push (setZ w) }) ⟨rfl, rfl⟩) fun r s₁ hr => ?_
  match r, hr with
  | .error e, hr => exact hr
  | .ok (.ret obj), hr =>
    obtain ⟨rfl, rfl⟩ := hr
    have hS : (s.heap.push (setZ w)).get? s.heap.objs.size = some (setZ w) := Heap.get?_push_size _ rfl
    have hT : Shared.TypeIs { s with heap := s.heap.push (setZ w) } (.ref s.heap.objs.size) "set" := ⟨_, hS, rfl⟩
    have hli := F.called_set.init.lookup
    have hbi := F.called_set.init.bind (.ref s.heap.objs.size)
    repeat (any_goals (first | assumption | wp_step))
    refine codeAny_mono (codeAny_call_builtin (R := wants (fun r s₂ => r = .none ∧ ∃ h' tk c, s₂ = { s with heap := h', toks := tk } ∧ SetR w h' s.heap.objs.size (fun j => decide (j ∈ ns)) c ∧ c ≤ ns.length ∧
        (∀ b o, s.heap.get? b = some o → h'.get? b = some o)) E) F.called_set.init.plain F.entry_set_init (check_set_init_1 hT ?_)) fun r₂ s₂ hr₂ => ?_
    · obtain ⟨⟨ocls, odict, odata, oslots⟩, hol, hcl, nl, hdl⟩ := hl
      simp only at hcl hdl
      subst hcl
      subst hdl
      have hol' : (s.heap.push (setZ w)).get? l = some { cls := .type "list", dict := odict, data := .seq items nl, slots := oslots } := Heap.get?_push_of_some _ hol
      have g1 := F.sub_list_set
      have g2 := F.sub_list_frozenset
      have hne : (Value.type "list" == Value.type "dict") = false := by decide
      have hl1 : (s.heap.push (setZ w)).IsList l items := ⟨_, hol', rfl, nl, rfl⟩
      unfold Builtin.«set.__init__» noKeywords Builtin.Frozenset.updateFrom
      generalize hPI : pyIter = PI
      wp_walk
      subst hPI
      refine wpAny_pyIter_list hl1 ?_
      refine wpAny_bind (wpAny_runValue ?_)
      have hlS : l < s.heap.objs.size := Heap.lt_size hol
      have hh3 : A.in1.in1.in1.handled = none := by simp [hh]
      have hz : (s.heap.push (setZ w)).objs.size = s.heap.objs.size + 1 := Heap.size_push ..
      have hSf : s.heap.objs.size ∉ [(s.heap.push (setZ w)).objs.size, l] := by
        rw [hz]
        simp only [List.mem_cons, List.not_mem_nil, or_false, not_or]
        exact ⟨Nat.ne_of_lt (Nat.lt_succ_self _), Nat.ne_of_gt hlS⟩
      have hval : ∀ (i : Nat) (v : Value), items[i]? = some v → ∃ k t, ns[i]? = some k ∧ v = .int k t := fun i v hv => by
        have hi : i < ns.length := by rw [← hsz]; exact (Array.getElem?_eq_some_iff.mp hv).1
        obtain ⟨t, e⟩ := PyProof.Rows.IntsAre.int_at hit i v (by rw [Array.getElem?_toList]; exact hv)
        refine ⟨ns[i], t, List.getElem?_eq_getElem hi, ?_⟩
        rw [e, List.getD_eq_getElem?_getD, List.getElem?_eq_getElem hi]
        rfl
      refine set_update_ints ((Walks.list hh3 _ l (by rw [hz]; exact Nat.ne_of_lt (Nat.lt_succ_of_lt hlS)) items).toS) s.heap.objs.size hSf ns hsz hb hval (items.size - 0) 0 _ (by omega) (Nat.zero_le _)
        ⟨⟨_, Heap.get?_push_size _ rfl, rfl, rfl⟩, (hl1.push _)⟩ ⟨0, Nat.le_refl 0, setR_new_at (Heap.get?_push_of_some _ hS)⟩ (fun s' c' hm hc' hS' => ?_)
      obtain ⟨h', gs, dr, tk', os'⟩ := s'
      have eg : gs = s.gens := hm.gens
      have ed : dr = s.drawn := hm.drawn
      have eo : os' = s.os := hm.os
      subst eg ed eo
      show wpAny _ _ _ _ _ _
      refine wpAny_pure ?_
      show wpAny _ _ (ret Value.none) _ _ _
      rw [hsz] at hc'
      refine wpAny_pure ⟨rfl, h', tk', c', rfl, hS', hc', fun b o e => ?_⟩
      have hb0 : b < s.heap.objs.size := Heap.lt_size e
      refine hm.heap b o ?_ (Heap.get?_push_of_some _ (Heap.get?_push_of_some _ e))
      rw [hz]
      simp only [List.mem_cons, List.not_mem_nil, or_false, not_or]
      exact ⟨Nat.ne_of_lt hb0, Nat.ne_of_lt (Nat.lt_succ_of_lt hb0)⟩
    · match r₂, hr₂ with
      | .error e, hr₂ => exact hr₂
      | .ok (.ret r), hr₂ =>
        obtain ⟨rfl, h', tk, c', rfl, hS', hc', hk⟩ := hr₂
        repeat (any_goals (first | assumption | wp_step))
        exact h _ _ _ hS' hc' hk
end
/-! ### the rules -/
section
variable {X : Cx} {K : PySem.W.Frag} {w : World}
def rSetL (K : PySem.W.Frag) (w : World) : List V → Hp → VK → Prop := fun xs H Q => ∃ (p : Addr) (ns : List Int), xs = [.ref p] ∧ SqL K H p (ns.map V.int) ∧ ns.length ≤ 1000 ∧ ∀ q c, H q = none → c ≤ ns.length → Q (.ref q) (upd H q (SetO w q (fun j => decide (j ∈ ns)) c))
theorem cl_setL (e : X.K = K) (ew : X.w = w) (hc : X.calm = true) : CallR X (.type "set") (rSetL K w) := by
  subst e
  subst ew
  intro pins s σ H xs us Q I r h
  obtain ⟨l, ns, rfl, hl, hn, q⟩ := h
  rw [Vals.ref1 r]
  obtain ⟨its, rv, pl, hz⟩ := I.list hl
  have hf : H s.heap.objs.size = none := I.hok.fresh (Nat.le_refl _)
  refine set_of_list (P := X.prog) (w := X.w) ns (I.ok.hd hc) pl.isList (by simpa using rv.ints) (by unfold scanBound; omega) fun h' tk c R hcn k => ?_
  exact ⟨.ref s.heap.objs.size, upd H s.heap.objs.size (SetO X.w s.heap.objs.size _ c), I.laid (t' := tk) k (Nat.le_refl _) (setO_new R), rfl, q _ c hf hcn⟩
theorem cl_sortedSet (ew : X.w = w) (hc : X.calm = true) : CallR X (.builtin "sorted") (rSortedSet w) := by
  subst ew
  exact cr_sortedSet hc
end
def rLenSet (w : World) : List V → Hp → VK → Prop := fun xs H Q => ∃ (a : Addr) (S : Int → Bool) (n : Nat), xs = [.ref a] ∧ H a = some (SetO w a S n) ∧ n ≤ 1000 ∧ ∀ ks : List Int, ks.Nodup → (∀ k, k ∈ ks ↔ S k = true) → ks.length = n → Q (.int (n : Nat)) H
theorem cl_lenSet {X : Cx} {w : World} (ew : X.w = w) : CallR X (.builtin "len") (rLenSet w) := by
  subst ew
  intro pins s σ H xs us Q I r h
  obtain ⟨a, S, n, rfl, hH, hn, q⟩ := h
  obtain ⟨u, rfl, rx⟩ := vals1 r
  cases rx
  obtain ⟨o, es, ep, t, ho, hex, hd, g, nd, hm, hb, hf, hsz, hr, hl⟩ := setO_get I hH
  exact call_len_set ho hex hd hf (by omega) ⟨.int n, H, I.tok _, ⟨_, by rw [hsz]⟩, q _ nd (fun k => (hm k).symm) (by rw [List.length_map, Array.length_toList]; exact hsz)⟩
section
variable {K : PySem.W.Frag} {w : World} {S H : Hp} {O : List (Addr × HO)} {Q : VK} {x y v : V}
/-- set(xs): a set of the members, ours -/
theorem x_setL {ns : List Int} (W : Wd K S H O) (h : Dp K S x (.list (ns.map PyData.int))) (hl : ns.length ≤ 1000) (k : ∀ p H' c, c ≤ ns.length → Wd K S H' ((p, SetO w p (fun j => decide (j ∈ ns)) c) :: O) → Q (.ref p) H') : rSetL K w [x] H Q := by
  obtain ⟨a, us, rfl, hq, ha⟩ := dp_lst_ex h
  rw [ints_of ha] at hq
  exact ⟨a, ns, rfl, W.lst hq, hl, fun q c hq hc => k q _ c hc (W.alloc hq)⟩
/-- len(s) -/
theorem x_lenSet {ns : List Int} {p : Addr} {c : Nat} (W : Wd K S H ((p, SetO w p (fun j => decide (j ∈ ns)) c) :: O)) (hc : c ≤ 1000) (k : ∀ ks : List Int, ks.Nodup → (∀ j, j ∈ ks ↔ j ∈ ns) → ks.length = c → Q (.int (c : Nat)) H) : rLenSet w [.ref p] H Q :=
  ⟨p, _, c, rfl, W.at 0 rfl, hc, fun ks h1 h2 h3 => k ks h1 (fun j => (h2 j).trans decide_eq_true_iff) h3⟩
/-- sorted(s): what was sought, rising; the set is let go -/
theorem x_sortedSet {ns : List Int} {p : Addr} {c : Nat} (W : Wd K S H ((p, SetO w p (fun j => decide (j ∈ ns)) c) :: O)) (hc : c < 64)
    (k : ∀ S' H' v (zs : List Int), Wd K S' H' O → Same S S' → Dp K S' v (.list (zs.map PyData.int)) → zs.Pairwise (· < ·) → (∀ j, j ∈ zs ↔ j ∈ ns) → Q v H') : rSortedSet w [.ref p] H Q := by
  refine ⟨p, _, c, rfl, W.at 0 rfl, hc, fun zs q h1 h2 h3 hq => ?_⟩
  have W1 := W.give 0 rfl
  exact k _ _ _ zs (W1.new hq (o := .lst (zs.map V.int))) ((same_new (W.atS 0 rfl)).trans (same_new (W1.frS hq))) (.lst (.of upd_same) (dpAll_ints zs)) h1 fun j => (h2 j).trans decide_eq_true_iff
end
end SB
/-! dicts with int keys; pop(0), min, sorted of a dict. -/
namespace SB
open PySem PySem.Spec PyProof.Rows L2
/-! ### look, plain -/
def look {β : Type} (kvs : List (Int × β)) (k : Int) : Option β := (kvs.find? fun p => decide (p.1 = k)).map (·.2)
section
variable {β : Type}
theorem look_cons {p : Int × β} {r : List (Int × β)} {k : Int} : look (p :: r) k = if p.1 = k then some p.2 else look r k := by
  unfold look
  rw [List.find?_cons]
  by_cases h : p.1 = k
  · rw [if_pos h, decide_eq_true h]
    rfl
  · rw [if_neg h, decide_eq_false h]
theorem look_app {kvs : List (Int × β)} {c k : Int} {b : β} : look (kvs ++ [(c, b)]) k = match look kvs k with | some x => some x | none => if c = k then some b else none := by
  induction kvs with
  | nil => rw [List.nil_append, look_cons]; rfl
  | cons p r ih =>
    rw [List.cons_append, look_cons, look_cons]
    by_cases h : p.1 = k
    · rw [if_pos h, if_pos h]
    · rw [if_neg h, if_neg h, ih]
theorem look_app_old {kvs : List (Int × β)} {c k : Int} {b x : β} (h : look kvs k = some x) : look (kvs ++ [(c, b)]) k = some x := by rw [look_app, h]
theorem look_app_new {kvs : List (Int × β)} {c : Int} {b : β} (h : look kvs c = none) : look (kvs ++ [(c, b)]) c = some b := by rw [look_app, h]; exact if_pos rfl
theorem look_app_ne {kvs : List (Int × β)} {c k : Int} {b : β} (h : c ≠ k) : look (kvs ++ [(c, b)]) k = look kvs k := by
  rw [look_app, if_neg h]
  cases look kvs k <;> rfl
theorem look_none {kvs : List (Int × β)} {k : Int} : look kvs k = none ↔ k ∉ kvs.map (·.1) := by
  induction kvs with
  | nil => simp [look]
  | cons p r ih =>
    rw [look_cons, List.map_cons, List.mem_cons, not_or]
    by_cases h : p.1 = k
    · rw [if_pos h]
      simp [h.symm]
    · rw [if_neg h, ih]
      simp [Ne.symm h]
theorem look_isSome {kvs : List (Int × β)} {k : Int} : (look kvs k).isSome = true ↔ k ∈ kvs.map (·.1) := by
  have := look_none (kvs := kvs) (k := k)
  cases e : look kvs k with
  | none => rw [e] at this; simp at this ⊢; exact this
  | some x => rw [e] at this; simp at this ⊢; exact this
end
/-! ### a dict of data -/
def mkD (kvs : List (Int × V)) : HO := .dK (kvs.map fun p => (Sum.inl p.1, p.2))
def DKV (K : PySem.W.Frag) (S : Hp) {β : Type} (e : β → PyData) : List (Int × V) → List (Int × β) → Prop
  | [], [] => True
  | p :: r, q :: r' => p.1 = q.1 ∧ Dp K S p.2 (e q.2) ∧ DKV K S e r r'
  | _, _ => False
section
variable {K : PySem.W.Frag} {S S' H : Hp} {O : List (Addr × HO)} {Q : VK} {x y v : V} {β : Type} {e : β → PyData}
theorem dkv_mono (hs : Same S S') : ∀ {kvs : List (Int × V)} {xs : List (Int × β)}, DKV K S e kvs xs → DKV K S' e kvs xs
  | [], [], _ => trivial
  | _ :: _, _ :: _, h => ⟨h.1, dp_mono hs h.2.1, dkv_mono hs h.2.2⟩
  | [], _ :: _, h => h.elim
  | _ :: _, [], h => h.elim
theorem dkv_app {c : Int} {b : β} (hd : Dp K S v (e b)) : ∀ {kvs : List (Int × V)} {xs : List (Int × β)}, DKV K S e kvs xs → DKV K S e (kvs ++ [(c, v)]) (xs ++ [(c, b)])
  | [], [], _ => ⟨rfl, hd, trivial⟩
  | _ :: _, _ :: _, h => ⟨h.1, h.2.1, dkv_app hd h.2.2⟩
  | [], _ :: _, h => h.elim
  | _ :: _, [], h => h.elim
theorem dkv_len : ∀ {kvs : List (Int × V)} {xs : List (Int × β)}, DKV K S e kvs xs → kvs.length = xs.length
  | [], [], _ => rfl
  | _ :: _, _ :: _, h => by rw [List.length_cons, List.length_cons, dkv_len h.2.2]
  | [], _ :: _, h => h.elim
  | _ :: _, [], h => h.elim
theorem dkv_keys : ∀ {kvs : List (Int × V)} {xs : List (Int × β)}, DKV K S e kvs xs → kvs.map (·.1) = xs.map (·.1)
  | [], [], _ => rfl
  | _ :: _, _ :: _, h => by rw [List.map_cons, List.map_cons, dkv_keys h.2.2, h.1]
  | [], _ :: _, h => h.elim
  | _ :: _, [], h => h.elim
theorem dkv_look {k : Int} : ∀ {kvs : List (Int × V)} {xs : List (Int × β)}, DKV K S e kvs xs → (look xs k = none ∧ look kvs k = none) ∨ ∃ b v, look xs k = some b ∧ look kvs k = some v ∧ Dp K S v (e b)
  | [], [], _ => .inl ⟨rfl, rfl⟩
  | p :: r, q :: r', h => by
    rw [look_cons, look_cons, ← h.1]
    by_cases hk : p.1 = k
    · rw [if_pos hk, if_pos hk]
      exact .inr ⟨_, _, rfl, rfl, h.2.1⟩
    · rw [if_neg hk, if_neg hk]
      exact dkv_look h.2.2
  | [], _ :: _, h => h.elim
  | _ :: _, [], h => h.elim
theorem valV_mkD {k : Int} : ∀ {kvs : List (Int × V)}, valV (kvs.map fun p => ((Sum.inl p.1 : Key), p.2)) (.inl k) = look kvs k
  | [] => rfl
  | p :: r => by
    rw [List.map_cons, look_cons]
    by_cases hk : p.1 = k
    · rw [if_pos hk, valV_pos (by rw [hk])]
    · rw [if_neg hk, valV_neg (by simpa using hk), valV_mkD]
theorem putK_mkD {k : Int} {kvs : List (Int × V)} (h : look kvs k = none) : putK (kvs.map fun p => ((Sum.inl p.1 : Key), p.2)) (.inl k) v = (kvs ++ [(k, v)]).map fun p => ((Sum.inl p.1 : Key), p.2) := by
  unfold putK
  rw [valV_any, valV_mkD, h]
  simp
/-! ### readings with names -/
def DinR (Q : VK) (y x : V) (H : Hp) : Prop := ∃ a o, x = .ref a ∧ DGet H a y o ∧ Q (.bl o.isSome) H
def DninR (Q : VK) (y x : V) (H : Hp) : Prop := ∃ a o, x = .ref a ∧ DGet H a y o ∧ Q (.bl (!o.isSome)) H
def DgetR (Q : VK) (y x : V) (H : Hp) : Prop := ∃ a v, x = .ref a ∧ DGet H a y (some v) ∧ Q v H
def DputR (N : Hp → Prop) (v y x : V) (H : Hp) : Prop := ∃ a H4, x = .ref a ∧ DPut H a y v H4 ∧ N H4
def DispR (Q : VK) (p : Addr) (x y : V) (H2 : Hp) : Prop := H2 p = some (.dK []) ∧ ∃ kvs : List (Key × V), [(x, y)] = kvs.map (fun kv => (kV kv.1, kv.2)) ∧ kvs.length ≤ 15 ∧ Q (.ref p) (upd H2 p (.dK (mergeK [] kvs)))
variable {td ty tv tk : TE} {σ : L2.St} {nx bk ct : L2.St → Hp → Prop} {rt : VK}
theorem x_din (h : ty σ H fun y H1 => td σ H1 fun x H2 => DinR Q y x H2) : tDIn ty td σ H Q := h
theorem x_dnin (h : ty σ H fun y H1 => td σ H1 fun x H2 => DninR Q y x H2) : tDNotIn ty td σ H Q := h
theorem x_dget (h : td σ H fun x H1 => ty σ H1 fun y H2 => DgetR Q y x H2) : tDGet td ty σ H Q := h
theorem x_dput (h : tv σ H fun v H1 => td σ H1 fun x H2 => ty σ H2 fun y H3 => DputR (fun H4 => nx σ H4) v y x H3) : sDPut td ty tv ⟨nx, rt, bk, ct⟩ σ H := h
theorem x_disp (W : Wd K S H O) (h : ∀ p H', Wd K S H' ((p, .dK []) :: O) → tk σ H' fun x H1 => tv σ H1 fun y H2 => DispR Q p x y H2) : tDisp [(tk, tv)] σ H Q := fun p hp => h p _ (W.alloc hp)
theorem x_disp1 {p : Addr} {i : Int} (W : Wd K S H ((p, .dK []) :: O)) (k : ∀ H', Wd K S H' ((p, mkD [(i, v)]) :: O) → Q (.ref p) H') : DispR Q p (.int i) v H :=
  ⟨W.at 0 rfl, [(.inl i, v)], rfl, by simp, k _ (W.put 0 rfl)⟩
theorem dget_rd {p : Addr} {kvs : List (Int × V)} {i : Int} (h : H p = some (mkD kvs)) : DGet H p (.int i) (look kvs i) := .inl ⟨_, .inl i, .inl h, rfl, valV_mkD.symm⟩
/-- of one of ours, or of one that stays -/
theorem x_dinH {p : Addr} {kvs : List (Int × V)} {xs : List (Int × β)} {i : Int} (h : H p = some (mkD kvs)) (r : DKV K S e kvs xs) (q : Q (.bl (look xs i).isSome) H) : DinR Q (.int i) (.ref p) H := by
  refine ⟨p, _, rfl, dget_rd h, ?_⟩
  rcases dkv_look (k := i) r with ⟨e1, e2⟩ | ⟨b, v, e1, e2, _⟩ <;> rw [e2] <;> rw [e1] at q <;> exact q
theorem x_dninH {p : Addr} {kvs : List (Int × V)} {xs : List (Int × β)} {i : Int} (h : H p = some (mkD kvs)) (r : DKV K S e kvs xs) (q : Q (.bl (!(look xs i).isSome)) H) : DninR Q (.int i) (.ref p) H := by
  refine ⟨p, _, rfl, dget_rd h, ?_⟩
  rcases dkv_look (k := i) r with ⟨e1, e2⟩ | ⟨b, v, e1, e2, _⟩ <;> rw [e2] <;> rw [e1] at q <;> exact q
theorem x_dgetH {p : Addr} {kvs : List (Int × V)} {xs : List (Int × β)} {i : Int} {b : β} (h : H p = some (mkD kvs)) (r : DKV K S e kvs xs) (hb : look xs i = some b) (q : Kn K S (e b) fun u => Q u H) : DgetR Q (.int i) (.ref p) H := by
  rcases dkv_look (k := i) r with ⟨e1, e2⟩ | ⟨b', v, e1, e2, hd⟩
  · rw [e1] at hb; cases hb
  · rw [e1] at hb
    cases hb
    exact ⟨p, v, rfl, by rw [← e2]; exact dget_rd h, q.of v hd⟩
theorem x_dputO {p : Addr} {kvs : List (Int × V)} {i : Int} {N : Hp → Prop} (n : Nat) (W : Wd K S H O) (h : O[n]? = some (p, mkD kvs)) (hn : look kvs i = none) (hl : kvs.length ≤ 1000000) (k : ∀ H', Wd K S H' (O.set n (p, mkD (kvs ++ [(i, v)]))) → N H') : DputR N v (.int i) (.ref p) H := by
  refine ⟨p, _, rfl, .inl ⟨_, .inl i, W.at n h, rfl, szl (by rw [List.length_map]; exact hl), rfl⟩, ?_⟩
  rw [putK_mkD hn]
  exact k _ (W.put n h)
theorem dkv_none {k : Int} {kvs : List (Int × V)} {xs : List (Int × β)} (r : DKV K S e kvs xs) (h : look xs k = none) : look kvs k = none := by
  rcases dkv_look (k := k) r with ⟨_, e2⟩ | ⟨b, v, e1, _⟩
  · exact e2
  · rw [e1] at h; cases h
/-- a dict of ours stays from now on -/
theorem x_giveD {G : Prop} {p : Addr} {o : HO} (W : Wd K S H ((p, o) :: O)) (k : ∀ S', Wd K S' H O → Same S S' → S' p = some o → G) : G :=
  k _ (W.give 0 rfl) (same_new (W.atS 0 rfl)) upd_same
/-! ### sorted(d), pop(0), min -/
def rSortD : List V → Hp → VK → Prop := fun xs H Q => ∃ (a : Addr) (kvs : List (Key × V)) (ks : List Int), xs = [.ref a] ∧ Rd H a (.dK kvs) ∧ kvs.map (·.1) = ks.map Sum.inl ∧ ks.length < 64 ∧
    ∀ (ys : List Int) (p : Addr), ys.Perm ks → ys.Pairwise (· ≤ ·) → H p = none → Q (.ref p) (upd H p (.lst (ys.map V.int)))
theorem cl_sortedD {X : Cx} (hc : X.calm = true) : CallR X (.builtin "sorted") rSortD := call_sortedDI hc
theorem x_sortedD {p : Addr} {kvs : List (Int × V)} {xs : List (Int × β)} (W : Wd K S H O) (h : H p = some (mkD kvs)) (r : DKV K S e kvs xs) (hl : xs.length < 64)
    (k : ∀ S' H' v (ys : List Int), Wd K S' H' O → Same S S' → Dp K S' v (.list (ys.map PyData.int)) → ys.Perm (xs.map (·.1)) → ys.Pairwise (· ≤ ·) → Q v H') : rSortD [.ref p] H Q := by
  refine ⟨p, _, xs.map (·.1), rfl, .inl h, ?_, by rw [List.length_map]; exact hl, fun ys q h1 h2 hq => ?_⟩
  · rw [← dkv_keys r, List.map_map, List.map_map]
    rfl
  · exact k _ _ _ ys (W.new hq (o := .lst (ys.map V.int))) (same_new (W.frS hq)) (.lst (.of upd_same) (dpAll_ints ys)) h1 h2
theorem x_pop0 {p : Addr} {u : V} {vs : List V} (n : Nat) (W : Wd K S H O) (h : O[n]? = some (p, .lst (u :: vs))) (k : ∀ H', Wd K S H' (O.set n (p, .lst vs)) → Q u H') : rPopAt (.ref p) [.int 0] H Q :=
  ⟨p, u :: vs, 0, 0, u, rfl, rfl, W.at n h, by decide, by decide, by
    unfold seqIndex?
    simp, rfl, k _ (W.put n h)⟩
theorem x_min {ns : List Int} (W : Wd K S H O) (h : Dp K S x (.list (ns.map PyData.int))) (hl : 0 < ns.length) (q : ∀ m, m ∈ ns → (∀ y ∈ ns, m ≤ y) → Q (.int m) H) : rMin K [x] H Q := by
  obtain ⟨a, us, rfl, hq, ha⟩ := dp_lst_ex h
  rw [ints_of ha] at hq
  exact ⟨a, ns, rfl, W.lst hq, hl, q⟩
end
end SB
namespace SB
open PySem PySem.Spec PyProof.Rows L2
theorem pe_globI {X : Cx} {x : Str} {n : Int} {t : Tok} {pos : Pos} (hg : Gl X x) (hm : X.mg x = some (.int n t)) (hd : (x == ("__debug__" : Str)) = false := by decide) : PE X (.Name x pos) (tC (.int n)) := pe_glob (v := .int n) hg hm ⟨t, rfl⟩ hd
end SB
namespace SB
open PySem PySem.Spec PyProof.Rows L2
section
variable {K : PySem.W.Frag} {S H : Hp} {O : List (Addr × HO)} {Q : VK} {a b c : Addr × HO}
theorem x_ixM0 {p : Addr} {xs : List Int} {i : Int} {n : Nat} (W : Wd K S H O) (h : O[n]? = some (p, .lst (xs.map V.int))) (h0 : 0 ≤ i) (h1 : i < xs.length) (k : Q (.int (nth xs i)) H) : rIx K (.ref p) (.int i) H Q := x_ixM n W h h0 h1 k
theorem x_ixM1 {p : Addr} {xs : List Int} {i : Int} {n : Nat} (W : Wd K S H (a :: O)) (h : O[n]? = some (p, .lst (xs.map V.int))) (h0 : 0 ≤ i) (h1 : i < xs.length) (k : Q (.int (nth xs i)) H) : rIx K (.ref p) (.int i) H Q := x_ixM (n + 1) W h h0 h1 k
theorem x_ixM2 {p : Addr} {xs : List Int} {i : Int} {n : Nat} (W : Wd K S H (a :: b :: O)) (h : O[n]? = some (p, .lst (xs.map V.int))) (h0 : 0 ≤ i) (h1 : i < xs.length) (k : Q (.int (nth xs i)) H) : rIx K (.ref p) (.int i) H Q := x_ixM (n + 2) W h h0 h1 k
end
end SB
/-! instances that are ours; insert. -/
namespace SB
open PySem PySem.Spec PyProof.Rows L2
section
variable {K : PySem.W.Frag} {S H : Hp} {O : List (Addr × HO)} {σ : L2.St} {Q : VK} {E : XK} {x y v : V} {C a dx : Addr} {sp : Sp} {vs : List V} {fs : List (Str × V)} {t : TA}
def MakR (C : Addr) (sp : Sp) (Q : VK) (E : XK) (vs : List V) (H1 : Hp) : Prop := ∀ x dx, H1 x = none → H1 dx = none → dx ≠ x →
  sp (.ref x :: vs) (upd (upd H1 dx (.own x)) x (.ins C dx [])) (fun v H2 => v = .non ∧ Q (.ref x) H2) E
theorem x_make (h : t σ H fun vs H1 => MakR C sp Q E vs H1) : tMake C sp [] E t σ H Q := by
  unfold tMake
  simp only [List.append_nil]
  exact h
theorem x_mak (W : Wd K S H O) (k : ∀ p dx H', Wd K S H' ((p, .ins C dx []) :: (dx, .own p) :: O) → sp (.ref p :: vs) H' (fun v H2 => v = .non ∧ Q (.ref p) H2) E) : MakR C sp Q E vs H := fun p dx h1 h2 hne => by
  refine k p dx _ ((W.alloc h2 (o := .own p)).alloc ?_)
  rw [upd_ne (Ne.symm hne)]
  exact h1
theorem x_fldO {f : Str} {N : Hp → Prop} (n : Nat) (W : Wd K S H O) (h : O[n]? = some (a, .ins C dx fs)) (c : Cls K C) (na : NoAttr K C f) (hl : fs.length < 1000) (k : ∀ H', Wd K S H' (O.set n (a, .ins C dx (putF f y fs))) → N H') : FldS K f y N (.ref a) H :=
  ⟨a, C, dx, fs, rfl, W.at n h, c, na, hl, k _ (W.put n h)⟩
theorem x_fldrO {f : Str} (n : Nat) (W : Wd K S H O) (h : O[n]? = some (a, .ins C dx fs)) (c : Cls K C) (na : NoAttr K C f) (hv : fs.lookup f = some v) (q : Q v H) : FldR K f Q (.ref a) H :=
  ⟨a, C, dx, fs, v, rfl, W.at n h, c, na, hv, q⟩
theorem x_mthO {m : Str} {P : V → Hp → Prop} (n : Nat) (W : Wd K S H O) (h : O[n]? = some (a, .ins C dx fs)) (hm : fs.lookup m = none) (q : P (.ref a) H) : MthR C m P (.ref a) H :=
  ⟨a, dx, fs, rfl, W.at n h, hm, q⟩
end
theorem putF_len (f : Str) (v : V) : ∀ fs : List (Str × V), (putF f v fs).length ≤ fs.length + 1
  | [] => Nat.le_refl _
  | (g, x) :: r => by
    unfold putF
    split
    · rw [List.length_cons, List.length_cons]; omega
    · have := putF_len f v r
      rw [List.length_cons, List.length_cons]; omega
theorem putF_at {f g : Str} {v x : V} {r : List (Str × V)} (h : g ≠ f) : putF f v ((g, x) :: r) = (g, x) :: putF f v r := by
  show (if g = f then (g, v) :: r else (g, x) :: putF f v r) = _
  rw [if_neg h]
def rInsert : V → List V → Hp → VK → Prop := fun x vs H Q => ∃ (l : Addr) (xs : List V) (i : Int) (y : V), x = .ref l ∧ vs = [.int i, y] ∧ H l = some (.lst xs) ∧ xs.length < sizeLine ∧ 0 ≤ i ∧ i < 2 ^ 63 ∧
    Q .non (upd H l (.lst (xs.take i.toNat ++ [y] ++ xs.drop i.toNat)))
theorem mt_ins {X : Cx} : MtR X "list.insert" rInsert := mt_insert
theorem x_ins0 {K : PySem.W.Frag} {S H : Hp} {O : List (Addr × HO)} {Q : VK} {p : Addr} {vs : List V} {y : V} (n : Nat) (W : Wd K S H O) (h : O[n]? = some (p, .lst vs)) (hl : vs.length ≤ 1000000) (k : ∀ H', Wd K S H' (O.set n (p, .lst (y :: vs))) → Q .non H') : rInsert (.ref p) [.int 0, y] H Q :=
  ⟨p, vs, 0, y, rfl, rfl, W.at n h, szl hl, by decide, by decide, k _ (W.put n h)⟩
end SB
namespace SB
open PySem PySem.Spec PyProof.Rows L2
/-! ### None or an int -/
abbrev oV : Option Int → V
  | none => .non
  | some i => .int i
abbrev oD : Option Int → PyData
  | none => .none
  | some i => .int i
theorem oV_some {i : Int} : oV (some i) = .int i := rfl
theorem oV_none : oV none = .non := rfl
theorem oD_some {i : Int} : oD (some i) = .int i := rfl
theorem oD_none : oD none = .none := rfl
section
variable {K : PySem.W.Frag} {S H : Hp} {O : List (Addr × HO)} {Q : VK} {x y v : V} {A B : Prop}
theorem dp_o (o : Option Int) : Dp K S (oV o) (oD o) := by
  cases o
  · exact .non
  · exact .int _
theorem dpAll_o : ∀ os : List (Option Int), DpAll K S (os.map oV) (os.map oD)
  | [] => .nil
  | o :: os => .cons (dp_o o) (dpAll_o os)
theorem dp_o_eq {o : Option Int} (h : Dp K S v (oD o)) : v = oV o := by
  cases o
  · exact dp_non_eq h
  · exact dp_int_eq h
theorem kn_o {o : Option Int} {P : V → Prop} (h : P (oV o)) : Kn K S (oD o) P := by
  cases o
  · exact h
  · exact h
theorem x_iteNN {o : Option Int} (h1 : ∀ y, o = some y → A) (h2 : o = none → B) : if (!decide (oV o = V.non)) = true then A else B := by
  cases o with
  | none => exact x_no (by simp) (h2 rfl)
  | some y => exact x_sure (by simp) (h1 y rfl)
theorem x_iteIN {o : Option Int} (h1 : o = none → A) (h2 : ∀ y, o = some y → B) : if decide (oV o = V.non) = true then A else B := by
  cases o with
  | none => exact x_sure (by simp) (h1 rfl)
  | some y => exact x_no (by simp) (h2 y rfl)
theorem dec_isN {o : Option Int} : decide (oV o = V.non) = decide (o = none) := by cases o <;> simp
/-- one of ours -/
theorem x_ixOO {p : Addr} {xs : List (Option Int)} {i : Int} (n : Nat) (W : Wd K S H O) (h : O[n]? = some (p, .lst (xs.map oV))) (h0 : 0 ≤ i) (h1 : i < xs.length) (k : Q (oV (nth xs i)) H) : rIx K (.ref p) (.int i) H Q :=
  x_ixO n W h (atI_map h0 h1) k
theorem x_ixOS {p : Addr} {xs : List (Option Int)} {i y : Int} (n : Nat) (W : Wd K S H O) (h : O[n]? = some (p, .lst (xs.map oV))) (h0 : 0 ≤ i) (h1 : i < xs.length) (e : nth xs i = some y) (k : Q (.int y) H) : rIx K (.ref p) (.int i) H Q :=
  x_ixOO n W h h0 h1 (by rw [e]; exact k)
theorem x_setOO {p : Addr} {xs : List (Option Int)} {i b : Int} {Q : Hp → Prop} (n : Nat) (W : Wd K S H O) (h : O[n]? = some (p, .lst (xs.map oV))) (h0 : 0 ≤ i) (h1 : i < xs.length)
    (k : ∀ H', Wd K S H' (O.set n (p, .lst ((xs.set i.toNat (some b)).map oV))) → Q H') : L2.rSetL (.ref p) (.int i) (.int b) H Q :=
  x_setO n W h (ixN_of h0 (by rw [List.length_map]; exact h1)) fun H' W' => k H' (by rw [List.map_set]; exact W')
/-- one that stays -/
theorem x_ixOD {xs : List (Option Int)} {i : Int} (W : Wd K S H O) (h : Dp K S x (.list (xs.map oD))) (h0 : 0 ≤ i) (h1 : i < xs.length) (k : Q (oV (nth xs i)) H) : rIx K x (.int i) H Q :=
  x_ixL W h (atI_map (f := oD) h0 h1) (kn_o k)
theorem x_ixDS {xs : List (Option Int)} {i y : Int} (W : Wd K S H O) (h : Dp K S x (.list (xs.map oD))) (h0 : 0 ≤ i) (h1 : i < xs.length) (e : nth xs i = some y) (k : Q (.int y) H) : rIx K x (.int i) H Q :=
  x_ixOD W h h0 h1 (by rw [e]; exact k)
theorem x_giveO {G : Prop} {p : Addr} {os : List (Option Int)} (W : Wd K S H ((p, .lst (os.map oV)) :: O)) (k : ∀ S', Wd K S' H O → Same S S' → Dp K S' (.ref p) (.list (os.map oD)) → G) : G :=
  x_give W (dpAll_o os) k
/-- one of ours, wherever it stands, stays from now on -/
theorem x_giveN {G : Prop} {p : Addr} {vs : List V} {ds : List PyData} (n : Nat) (W : Wd K S H O) (h : O[n]? = some (p, .lst vs)) (hd : DpAll K S vs ds) (k : ∀ S', Wd K S' H (O.eraseIdx n) → Same S S' → Dp K S' (.ref p) (.list ds) → G) : G :=
  k _ (W.give n h) (same_new (W.atS n h)) (dp_give (W.atS n h) hd)
end
end SB
namespace SB
open PySem PySem.Spec PyProof.Rows L2
theorem x_cutT {tt : TT} {σ : L2.St} {H : Hp} {QT : Bool → Hp → Prop} (c : Bool) (h : ∀ Q' : Bool → Hp → Prop, Q' c H → tt σ H Q') (k : QT c H) : tt σ H QT := h QT k
end SB
namespace SB
open PySem PySem.Spec PyProof.Rows L2
theorem x_eqS {a b : Str} {Q : VK} {H : Hp} (q : Q (.bl (decide (a = b))) H) : rEq (.str a) (.str b) H Q := x_eqV rfl (by simp) q
theorem x_neS {a b : Str} {Q : VK} {H : Hp} (q : Q (.bl (!decide (a = b))) H) : rNe (.str a) (.str b) H Q := x_neV rfl (by simp) q
theorem shp_o {n : Nat} (o : Option Int) : Shp n (oD o) := by
  cases o
  · exact shp_non
  · exact shp_int _
/-- the item before the one at k, the last one before the first -/
theorem atI_bef {α β : Type} [Inhabited α] {xs : List α} {f : α → β} {k : Nat} (h : k < xs.length) : atI (xs.map f) ((k : Int) - 1) = some (f (nth xs (((if k = 0 then xs.length - 1 else k - 1 : Nat)) : Int))) := by
  by_cases e : k = 0
  · subst e
    rw [if_pos rfl]
    have e2 : atI (xs.map f) (((0 : Nat) : Int) - 1) = (xs.map f)[xs.length - 1]? := by
      unfold atI
      have : ixN (xs.map f).length (((0 : Nat) : Int) - 1) = some (xs.length - 1) := by
        rw [List.length_map]
        unfold ixN
        rw [if_neg (by omega), if_pos (by omega)]
        congr 1
        omega
      rw [this]
      rfl
    rw [e2, List.getElem?_map, List.getElem?_eq_getElem (by omega), Option.map_some]
    rw [nth_nat (List.getElem?_eq_getElem (show xs.length - 1 < xs.length by omega))]
  · rw [if_neg e, show ((k : Int) - 1) = ((k - 1 : Nat) : Int) by omega]
    exact atI_map (by omega) (by omega)
end SB
namespace SB
open PySem PySem.Spec PyProof.Rows L2
section
variable {A B : Prop} {i : Int} {a : Addr} {b : Bool} {z : Str}
theorem x_dNN (h : A) : if decide (V.non = V.non) = true then A else B := x_sure (by simp) h
theorem x_dNI (h : B) : if decide (V.int i = V.non) = true then A else B := x_no (by simp) h
theorem x_dNR (h : B) : if decide (V.ref a = V.non) = true then A else B := x_no (by simp) h
theorem x_nNN (h : B) : if (!decide (V.non = V.non)) = true then A else B := x_no (by simp) h
theorem x_nNI (h : A) : if (!decide (V.int i = V.non)) = true then A else B := x_sure (by simp) h
theorem x_nNR (h : A) : if (!decide (V.ref a = V.non)) = true then A else B := x_sure (by simp) h
end
end SB
namespace SB
open PySem PySem.Spec PyProof.Rows L2
/-! ### slices -/
section
variable {K : PySem.W.Frag} {S H : Hp} {O : List (Addr × HO)} {σ : L2.St} {Q : VK} {x y v : V} {te : TE} {tl th : TO}
theorem x_sl {r : V → Option Int → Option Int → Hp → VK → Prop} (h : te σ H fun x H1 => tl σ H1 fun l H2 => th σ H2 fun u H3 => r x l u H3 Q) : tSl r te tl th σ H Q := h
theorem x_poN {R : Option Int → Hp → Prop} (h : R none H) : tNoPart σ H R := h
theorem x_poS {R : Option Int → Hp → Prop} (h : te σ H fun x H1 => ∃ i, x = .int i ∧ R (some i) H1) : tPart te σ H R := h
theorem x_poI {R : Int → Prop} {i : Int} (h : R i) : ∃ j, V.int i = .int j ∧ R j := ⟨i, rfl, h⟩
def cutD {α : Type} (xs : List α) (lo hi : Option Int) : List α := (xs.drop (HT.sIx xs.length 0 lo)).take (HT.sIx xs.length xs.length hi - HT.sIx xs.length 0 lo)
theorem dpAll_cut {vs : List V} {ds : List PyData} (lo hi : Option Int) (h : DpAll K S vs ds) : DpAll K S (cutV vs lo hi) (cutD ds lo hi) := by
  unfold cutV cutD
  rw [dpAll_len h]
  exact dpAll_take _ (dpAll_drop _ h)
theorem x_slL {ds : List PyData} {lo hi : Option Int} (W : Wd K S H O) (h : Dp K S x (.list ds)) (k : ∀ S' H' v, Wd K S' H' O → Same S S' → Dp K S' v (.list (cutD ds lo hi)) → Q v H') : rSlL K x lo hi H Q := by
  obtain ⟨a, us, rfl, hq, ha⟩ := dp_lst_ex h
  exact ⟨a, us, rfl, W.lst hq, x_lst' W (dpAll_cut lo hi ha) k⟩
theorem x_slT {ds : List PyData} {lo hi : Option Int} (W : Wd K S H O) (h : Dp K S x (.tuple ds)) (hn : ¬ (HT.sIx ds.length 0 lo = 0 ∧ HT.sIx ds.length ds.length hi = ds.length)) (k : ∀ S' H' v, Wd K S' H' O → Same S S' → Dp K S' v (.tuple (cutD ds lo hi)) → Q v H') : rSlT K x lo hi H Q := by
  obtain ⟨a, us, rfl, hq, ha⟩ := dp_tup_ex h
  refine ⟨a, us, rfl, W.tup hq, by rw [dpAll_len ha]; exact hn, x_tup' W (dpAll_cut lo hi ha) k⟩
theorem cutD_to {α : Type} {xs : List α} {n : Int} (h : 0 ≤ n) : cutD xs none (some n) = xs.take n.toNat := by
  obtain ⟨m, rfl⟩ : ∃ m : Nat, n = m := ⟨n.toNat, by omega⟩
  unfold cutD
  rw [HT.sIx_none, HT.sIx_nat, List.drop_zero, Nat.sub_zero, Int.toNat_natCast]
  rw [List.take_eq_take_iff]
  omega
theorem cutD_from {α : Type} {xs : List α} {n : Int} (h : 0 ≤ n) : cutD xs (some n) none = xs.drop n.toNat := by
  obtain ⟨m, rfl⟩ : ∃ m : Nat, n = m := ⟨n.toNat, by omega⟩
  unfold cutD
  rw [HT.sIx_none, HT.sIx_nat, Int.toNat_natCast, List.take_of_length_le (by rw [List.length_drop]; omega)]
  by_cases e : m ≤ xs.length
  · rw [Nat.min_eq_left e]
  · rw [Nat.min_eq_right (by omega), List.drop_of_length_le (Nat.le_refl _), List.drop_of_length_le (by omega)]
end
end SB
namespace SB
open PySem PySem.Spec PyProof.Rows L2
/-! ### over enumerate(xs), the target two names -/
section
variable {K : PySem.W.Frag} {S H : Hp} {O : List (Addr × HO)} {σ : L2.St} {Q : VK} {x y v : V} {tt : TT} {g : TG} {te : TE} {ta : TA} {vs : List Nat}
def LcEn (K : PySem.W.Frag) (g : TG) (tt : TT) (te : TE) (vs : List Nat) (σ : L2.St) (Q : VK) (us : List V) (H : Hp) : Prop := ∃ a xs, us = [.ref a] ∧ SqL K H a xs ∧ ∀ R, H R = none → ∃ W : Nat → Nat → Hp → Prop, (∃ m, W 0 m (upd H R (.lst []))) ∧ ∀ i m H, W i m H →
  ((Ite K a).stop i H ∧ Q (.ref R) H) ∨ ((Ite K a).go i H ∧ ∃ Nx : Hp → Prop, (∀ H', Nx H' → ∃ m', m' < m ∧ W (i + 1) m' H') ∧ ∀ x H', (Ite K a).yld i H x H' → g x (wipe σ vs) H' fun σ2 H2 => wipe σ2 vs = wipe σ vs ∧ tt σ2 H2 fun b H3 =>
    if b = true then te σ2 H3 fun y H4 => ∃ acc, H4 R = some (.lst acc) ∧ acc.length < sizeLine ∧ Nx (upd H4 R (.lst (acc ++ [y]))) else Nx H3)
theorem x_lcen (h : ta σ H fun us H1 => LcEn K g tt te vs σ Q us H1) : tLc (iEnum K ta) g tt te vs σ H Q := h
theorem lc_enum {α β : Type} {xs : List α} {f : α → PyData} {p q : Nat} [Inhabited α] (e : β → PyData) (G : Nat → β) (W : Wd K S H O) (hx : Dp K S x (.list (xs.map f))) (hlen : xs.length ≤ 1000000)
    (hs : ∀ (z : Nat) S' H' R acc N, z < xs.length → Wd K S' H' ((R, .lst acc) :: O) → Same S S' → LcE K S' O R acc (some (e (G z))) N → Kn K S' (f (nth xs (z : Int))) fun u =>
      tt (((wipe σ vs).set p (some (.int (z : Int)))).set q (some u)) H' fun b H3 => if b = true then te (((wipe σ vs).set p (some (.int (z : Int)))).set q (some u)) H3 fun y H4 => EndY R N y H4 else N H3)
    (k : ∀ S' H' v, Wd K S' H' O → Same S S' → Dp K S' v (.list (((List.range xs.length).map G).map e)) → Q v H')
    (ew : ∀ u v, wipe (((wipe σ vs).set p (some u)).set q (some v)) vs = wipe σ vs := by intros; rfl) : LcEn K (gTup K 2 (gCons (gName p) (gCons (gName q) gNil))) tt te vs σ Q [x] H := by
  obtain ⟨a, us, rfl, hq1, ha⟩ := dp_lst_ex hx
  have l1 : us.length = xs.length := by rw [dpAll_len ha, List.length_map]
  have hn : (List.range xs.length).length ≤ 1000000 := by rw [List.length_range]; exact hlen
  refine ⟨a, us, rfl, W.lst hq1, fun R hR => ⟨fun i m H' => m = xs.length - i ∧ i ≤ xs.length ∧ LcP K (List.range xs.length) (fun z => some (e (G z))) S O R i H', ⟨xs.length, rfl, Nat.zero_le _, S, [], W.alloc hR, Same.refl S, by simp; exact .nil⟩, ?_⟩⟩
  rintro i m H' ⟨rfl, hi, S', acc, W', hS, hA⟩
  have g1 : SqL K H' a us := W'.lst (hS.seq hq1)
  by_cases hlt : i < xs.length
  · have e1 : us[i]? = some us[i] := List.getElem?_eq_getElem (by omega)
    refine .inr ⟨⟨us, _, g1, e1⟩, LcP K (List.range xs.length) (fun z => some (e (G z))) S O R (i + 1), fun H'' p' => ⟨xs.length - (i + 1), by omega, rfl, hlt, p'⟩, fun v H'' yy => ?_⟩
    obtain ⟨T, u, rfl, hT, rfl, f1⟩ := yy
    have e1 := f1 us g1
    obtain ⟨d1, h1, r1⟩ := dpAll_get' ha e1
    rw [List.getElem?_map, List.getElem?_eq_getElem hlt] at h1
    cases h1
    have cz : (List.range xs.length)[i]? = some i := List.getElem?_range hlt
    refine ⟨T, [.int (i : Int), u], rfl, .inl (.inl upd_same), rfl, .int (i : Int), [u], rfl, u, [], rfl, rfl, ew (.int (i : Int)) u, ?_⟩
    have W2 := W'.new (o := .tup [.int (i : Int), u]) hT
    have hT' := W'.frS hT
    have E2 := lcE_of (S := S) (K := K) (O := O) (R := R) (fr := fun z => some (e (G z))) hn cz (hS.trans (same_new (o := .tup [.int (i : Int), u]) hT')) (dpAll_mono (same_new hT') hA)
    have r2 : Dp K S u (f (nth xs (i : Int))) := by rw [nth_nat (List.getElem?_eq_getElem hlt)]; exact r1
    exact (hs i _ _ R acc _ hlt W2 (hS.trans (same_new hT')) E2).of u (dp_mono (hS.trans (same_new hT')) r2)
  · have e3 : i = xs.length := by omega
    subst e3
    refine .inl ⟨⟨us, g1, by omega⟩, ?_⟩
    rw [List.take_of_length_le (by rw [List.length_range]; exact Nat.le_refl _), fm_map] at hA
    exact k _ H' _ (W'.give 0 rfl) (hS.trans (same_new (W'.atS 0 rfl))) (dp_give (W'.atS 0 rfl) (by rw [List.map_map]; exact hA))
end
end SB
namespace SB
open PySem PySem.Spec PyProof.Rows L2
/-! ### a target of two names -/
section
variable {K : PySem.W.Frag} {S H : Hp} {O : List (Addr × HO)} {σ : L2.St} {u : V} {tt : TT} {te : TE} {vs : List Nat}
theorem x_gtup2 {p q : Nat} {d1 d2 : PyData} {Q : L2.St → Hp → Prop} (W : Wd K S H O) (h : Dp K S u (.tuple [d1, d2])) (k : Kn K S d1 fun a => Kn K S d2 fun b => Q ((σ.set p (some a)).set q (some b)) H) :
    gTup K 2 (gCons (gName p) (gCons (gName q) gNil)) u σ H Q := by
  obtain ⟨a, us, rfl, hq, ha⟩ := dp_tup_ex h
  cases ha with
  | cons h1 h2 =>
    cases h2 with
    | cons h2 h3 =>
      cases h3
      exact ⟨a, _, rfl, W.tup hq, rfl, _, _, rfl, _, _, rfl, rfl, (k.of _ h1).of _ h2⟩
theorem x_lcb2 {p q : Nat} {d1 d2 : PyData} {R : Addr} {N : Hp → Prop} (W : Wd K S H O) (h : Dp K S u (.tuple [d1, d2]))
    (k : Kn K S d1 fun a => Kn K S d2 fun b => tt (((wipe σ vs).set p (some a)).set q (some b)) H fun c H3 => if c = true then te (((wipe σ vs).set p (some a)).set q (some b)) H3 fun y H4 => EndY R N y H4 else N H3)
    (ew : ∀ u v, wipe (((wipe σ vs).set p (some u)).set q (some v)) vs = wipe σ vs := by intros; rfl) : LcB (gTup K 2 (gCons (gName p) (gCons (gName q) gNil))) tt te vs σ R N u H := by
  refine x_gtup2 W h ?_
  refine kn_any fun a ha => kn_any fun b hb => ?_
  exact ⟨ew a b, (k.of a ha).of b hb⟩
end
end SB
/-! an exception that is caught and kept beyond its suite: its class is known where it lies. -/
namespace SB
open PySem PySem.Spec PyProof.Rows L2
/-- what is kept of it -/
def ExK (cls : Value) (dd : Option Addr) (a : Addr) : HO := .ext fun h => ∃ (oe : Obj) (vs : Array Value), h.get? a = some oe ∧ Zc cls dd oe ∧ oe.data = .fields vs
section
variable {X : Cx} {pins : List (Addr × Obj)} {σ : L2.St} {H : Hp} {s : Shared} {a : Addr} {oe : Obj} {vs : Array Value} {cls : Value} {dd : Option Addr}
/-- what was looked after aside is now known -/
theorem adopt (I : Inv X ((a, oe) :: pins) σ H s) (hz : Zc cls dd oe) (hd : oe.data = .fields vs) (h0 : ∀ o, X.s_0.heap.get? a ≠ some o) (hp : ∀ p ∈ X.pn ++ pins, p.1 ≠ a) : Inv X pins σ (upd H a (ExK cls dd a)) s := by
  have mine := I.pin (a, oe) (List.mem_append.mpr (.inr List.mem_cons_self))
  obtain ⟨m1, m2, m3, m4, m5⟩ := mine
  have other : ∀ {b : Addr} {o : HO}, H b = some o → b ≠ a := fun e z => by
    rw [z, m2] at e
    cases e
  have un := I.base
  constructor
  case ok => exact I.ok
  case os => exact I.os
  case bare => exact I.bare
  case loc => exact I.loc
  case cell => exact I.cell
  case len => exact I.len
  case base =>
    constructor
    case keep => exact un.keep
    case slot => exact un.slot
    case there => exact un.there
    case free =>
      intro b o e1 e2 e3
      rw [upd_ne (show b ≠ a from fun z => by subst z; exact h0 o e1)]
      exact un.free b o e1 e2 e3
    case tups =>
      intro b xs e1
      have e2 := un.tups b xs e1
      rw [upd_ne (other e2)]
      exact e2
    case frzs =>
      intro b o u e1
      have e2 := un.frzs b o u e1
      rw [upd_ne (other e2)]
      exact e2
    case tbls =>
      intro b ps e1
      obtain ⟨more, e2⟩ := un.tbls b ps e1
      exact ⟨more, (upd_ne (other e2)).trans e2⟩
  case free =>
    rw [upd_ne (Ne.symm m3)]
    exact I.free
  case freeC =>
    intro x c e1
    obtain ⟨v, oc, g1, g2⟩ := I.cell x c e1
    have hne : c ≠ a := fun z => by
      rw [z] at g1
      rw [m1] at g1
      cases g1
      exact m5 v g2
    rw [upd_ne hne]
    exact I.freeC x c e1
  case pin =>
    intro p hm
    obtain ⟨q1, q2, q3, q4, q5⟩ := I.pin p (by
      rcases List.mem_append.mp hm with h | h
      · exact List.mem_append.mpr (.inl h)
      · exact List.mem_append.mpr (.inr (List.mem_cons_of_mem _ h)))
    exact ⟨q1, by rw [upd_ne (hp p hm)]; exact q2, q3, q4, q5⟩
  case hok =>
    exact HOk.laidN I.hok (fun _ _ e => e) m2 ⟨⟨oe, vs, m1, hz, hd⟩, ⟨oe, m1⟩, fun h1 h2 ⟨o, v, q, r⟩ k => ⟨o, v, k o q, r⟩⟩
end
/-- the clause's wish: the class fits, and behind the suite the exception is known -/
def wK (K : PySem.W.Frag) (c : Value) (i : Nat) (ts : Addr → Value → Option Addr → TS) (D : Ends) : WX := fun cls dd σ H =>
  PySem.W.exmOne K cls c = some true ∧ ∀ a, H a = none → ts a cls dd ⟨fun σ' H' => D.nx (σ'.set i none) (upd H' a (ExK cls dd a)), fun _ _ => False, fun _ _ => False, fun _ _ => False⟩ (σ.set i (some (.ref a))) H
section
variable {X : Cx} {x n : Str} {c : Value} {i : Nat} {body suite : List Stmt} {b₀ : Stmt} {np pos pos' : Pos} {tb : WX → TS} {ts : Addr → Value → Option Addr → TS}
theorem ps_tryK (hstk : X.stack = X.env :: X.outer) (hfrm : X.env.frame = some X.env.locals) (hex : X.ex = []) (nd : X.N.Nodup) (hn : X.N[i]? = some n) (hloc : X.env.kindOf n = some .local) (hc : Names X x c)
    (hb : ∀ (W : WX) (pn : List (Addr × Obj)) (xe : Value → Shared → Prop), Takes (X.tr pn xe) W → PassesOwn (model X.prog X.w) X.A X.env xe → PSs (X.tr pn xe) body (tb W))
    (hsu : ∀ (a : Addr) (oe : Obj) (cls : Value) (d : Option Addr) (pn : List (Addr × Obj)), Zc cls d oe → (∃ vs, oe.data = .fields vs) → PSs (X.suite a ((a, oe) :: pn)) (b₀ :: suite) (ts a cls d)) :
    PS X (.Try body [.ExceptHandler (some (.Name x np)) (some n) (b₀ :: suite) pos'] [] [] pos) (fun D σ H => tb (wK X.K c i ts D) D σ H) := by
  constructor
  intro pins s σ H D I h
  have ok := I.ok
  have frames : X.A.frames = some (X.env :: X.outer) := by rw [ok.frames, hstk]
  let air : Value → Shared → Prop := fun e s₁ => wpAny (model X.prog X.w) X.A (noteFrame e X.env) (fun _ s₂ => wpAny (model X.prog X.w) X.A (setFlight e none)
    (fun _ s₃ => wpAny (model X.prog X.w) X.A (handleBy e X.env [.ExceptHandler (some (.Name x np)) (some n) (b₀ :: suite) pos']) (SP X pins D) X.xe s₃) X.xe s₂) X.xe s₁
  have caught : Takes (X.tr (X.pn ++ pins) air) (wK X.K c i ts D) := by
    rintro u s' ⟨a, B, sI, pins', σ', H', cls, dd, rfl, J0, nb, up, sky, na, os, ag, hyes, hgo⟩
    have J : Inv X pins σ' H' sI := J0.ofTry ok
    rw [show (X.tr (X.pn ++ pins) air).stack = X.env :: X.outer from hstk] at sky nb
    refine Sky.land Zc.steady frames hfrm sky fun h3 fl3 up3 => ?_
    have at3 := fl3.there
    obtain ⟨o3, v3, e3, z3, d3⟩ := at3
    have far : a ∉ frs (X.env :: X.outer) := fun hm => by
      obtain ⟨_, o', q1, q2⟩ := Heap.FunFrames.mem fl3.2.2.1 hm
      rw [e3] at q1
      cases q1
      exact q2 _ d3
    have notL : a ≠ X.env.locals := fun z => far (List.mem_filterMap.mpr ⟨X.env, List.mem_cons_self, by rw [hfrm, z]⟩)
    have notF : a ∉ X.fs := fun hm => by
      obtain ⟨e, q1, q2⟩ := List.mem_filterMap.mp hm
      exact far (List.mem_filterMap.mpr ⟨e, List.mem_cons_of_mem _ q1, q2⟩)
    -- it is newer than all that stood
    have newer : ∀ o, sI.heap.get? a ≠ some o := fun o e => by
      have q := nb a o e far
      rw [fl3.2.1] at q
      cases q
    have new0 : ∀ o, X.s_0.heap.get? a ≠ some o := fun o e => by
      obtain ⟨o', e'⟩ := J.base.there a o e (by rw [hex]; simp)
      exact newer o' e'
    have newP : ∀ p ∈ X.pn ++ pins, p.1 ≠ a := fun p hm z => newer p.2 (z ▸ (J.pin p hm).1)
    have J3 : Inv X pins σ' H' { s' with heap := h3 } := J.landed (by rw [hstk]; exact nb) fl3.1 (up.trans up3) os ag
    have S3 := J3.suite e3 d3 na notL notF
    refine wpAny_handleBy_cons (codeAny_handlers_test ?_) fun q => by cases q
    have look : PySem.W.Looks (model X.prog X.w) h3 (typeOf (.ref a)) cls := fun A Q E s k q => wpAny_typeOf_ref (k _ _ e3) (by rw [z3.1]; exact q)
    have fits := PySem.W.exm_one (M := model X.prog X.w) J3.kIn look hyes
    have named : ∀ {Q : Value → Shared → Prop} {E : Value → Shared → Prop}, Q c { s' with heap := h3 } → wpAny (model X.prog X.w) (X.A.mark (some (.ref a))) (eval (.Name x np) X.env) Q E { s' with heap := h3 } := fun q => by
      rcases hc with ⟨g1, g2, g3 | ⟨g3, g4, g5⟩⟩
      · exact ld_glob (X := X.suite a ((a, o3) :: (X.pn ++ pins))) S3 g1 g3 q g2
      · exact ld_blt (X := X.suite a ((a, o3) :: (X.pn ++ pins))) S3 g1 g3 g4 q g5 g2
    refine named (fits.here (codeAny_handlers_suite_as (HandSPX.lands_againZ fl3 fun h4 fl4 up4 => ?_)))
    have J4 : Inv X pins σ' H' { s' with heap := h4 } := J.landed (by rw [hstk]; exact nb) fl4.1 ((up.trans up3).trans up4) os ag
    obtain ⟨o4, v4, e4, z4, d4⟩ := fl4.there
    have S4 := J4.suite e4 d4 na notL notF
    refine store_ok (X := X.suite a ((a, o4) :: (X.pn ++ pins))) (v := .ref a) S4 nd hn (.inl hloc) rfl (fun s5 S5 => ?_) (.inr hloc)
    refine wpAny_mono ((hsu a o4 cls dd (X.pn ++ pins) z4 ⟨_, d4⟩).run [] s5 _ H' _ S5 (hgo a na)) (fun f s6 hsp => ?_) fun _ _ z => z.elim
    cases f with
    | next =>
      obtain ⟨σ6, H6, S6, q6⟩ := hsp
      have J6 : Inv X ((a, o4) :: pins) σ6 H6 s6 :=
        ⟨ok, S6.os, S6.bare, S6.base, S6.loc, S6.cell, S6.free, S6.freeC, fun p hm => S6.pin p (List.mem_append.mpr (.inl (by
          rcases List.mem_append.mp hm with h | h
          · exact List.mem_cons_of_mem _ (List.mem_append.mpr (.inl h))
          · rcases List.mem_cons.mp h with h | h
            · rw [h]; exact List.mem_cons_self
            · exact List.mem_cons_of_mem _ (List.mem_append.mpr (.inr h))))), S6.hok, S6.len⟩
      exact gone_ok J6 nd hn hloc fun s7 J7 => ⟨_, _, adopt J7 z4 d4 new0 newP, q6⟩
    | brk =>
      obtain ⟨_, _, _, q6⟩ := hsp
      exact q6.elim
    | cont =>
      obtain ⟨_, _, _, q6⟩ := hsp
      exact q6.elim
    | ret u =>
      obtain ⟨_, _, _, _, _, q6⟩ := hsp
      exact q6.elim
  refine wpAny_Try_except (wpAny_mono ((hb (wK X.K c i ts D) (X.pn ++ pins) air caught PassesOwn.looking).run [] s σ H D (I.toTry _) h) (fun f s1 hsp => ?_) fun e s1 he => he)
  cases f with
  | next =>
    obtain ⟨σ', H', J', q⟩ := hsp
    exact wpAny_execs_nil ⟨σ', H', J'.ofTry ok, q⟩
  | ret u =>
    obtain ⟨v, σ', H', J', r, q⟩ := hsp
    exact ⟨v, σ', H', J'.ofTry ok, r, q⟩
  | brk =>
    obtain ⟨σ', H', J', q⟩ := hsp
    exact ⟨σ', H', J'.ofTry ok, q⟩
  | cont =>
    obtain ⟨σ', H', J', q⟩ := hsp
    exact ⟨σ', H', J'.ofTry ok, q⟩
end
/-! ### isinstance of it -/
def rIsK (K : PySem.W.Frag) : List V → Hp → VK → Prop := fun xs H Q => ∃ (a D : Addr) (c : V) (cv : Value) (b : Bool), xs = [.ref a, c] ∧ H a = some (ExK (.ref D) none a) ∧ ExcC K D ∧ (∀ u, RelV c u → u = cv) ∧ PySem.W.kitOne K (.ref D) cv = some b ∧ Q (.bl b) H
/-- of a new tuple of classes -/
def rIsKT (K : PySem.W.Frag) : List V → Hp → VK → Prop := fun xs H Q => ∃ (a D tp : Addr) (cs : List V) (us : List Value) (b : Bool), xs = [.ref a, .ref tp] ∧ H a = some (ExK (.ref D) none a) ∧ ExcC K D ∧ H tp = some (.tup cs) ∧ Paired ClsV cs us ∧ PySem.W.kitAny K (.ref D) us = some b ∧ Q (.bl b) H
section
variable {X : Cx} {K : PySem.W.Frag}
theorem exk_inst {pins : List (Addr × Obj)} {σ : L2.St} {H : Hp} {s : Shared} {a D : Addr} (I : Inv X pins σ H s) (h : H a = some (ExK (.ref D) none a)) : ∃ oe, PySem.W.InstAt s.heap a oe D none := by
  obtain ⟨⟨oe, vs, g1, ⟨g2, g3⟩, g4⟩, _⟩ := (show ObjOk X.prog X.w H s.heap a (ExK (.ref D) none a) from I.hok a _ h)
  refine ⟨oe, ?_⟩
  obtain ⟨oc, od, oda, osl⟩ := oe
  dsimp only at g2 g3 g4
  subst g2 g3 g4
  exact ⟨g1, rfl, rfl, trivial⟩
theorem call_isK (e : X.K = K) : CallR X (.builtin "isinstance") (rIsK K) := by
  subst e
  intro pins s σ H xs us Q I r h
  obtain ⟨a, D, c, cv, b, rfl, ha, C, hcv, hk, q⟩ := h
  obtain ⟨u1, u2, rfl, r1, r2⟩ := vals2 r
  cases (show u1 = Value.ref a from r1)
  have e2 := hcv _ r2
  subst e2
  obtain ⟨oe, J⟩ := exk_inst I ha
  exact PySem.W.kia_one (PySem.W.handS_kitx_exc C.hg C.hk C.hs C.hd C.ha C.hn C.ht C.hm) I.kIn J hk (fun z => nomatch z) fun tk => ⟨.bl b, H, I.tok tk, rfl, q⟩
theorem call_isKT (e : X.K = K) : CallR X (.builtin "isinstance") (rIsKT K) := by
  subst e
  intro pins s σ H xs us Q I r h
  obtain ⟨a, D, tp, cs, ws, b, rfl, ha, C, hT, hp, hk, q⟩ := h
  obtain ⟨u1, u2, rfl, r1, r2⟩ := vals2 r
  cases (show u1 = Value.ref a from r1)
  cases (show u2 = Value.ref tp from r2)
  obtain ⟨oe, J⟩ := exk_inst I ha
  obtain ⟨_, its, rv, o, h1, h2, n, h3⟩ := (show ObjOk X.prog X.w H s.heap tp (.tup cs) from I.hok tp _ hT)
  have e3 := ClsV.all hp rv
  subst e3
  obtain ⟨oc, od, dt, sl⟩ := o
  simp only at h2 h3
  subst h2 h3
  exact PySem.W.kia_tup (PySem.W.handS_kitx_exc C.hg C.hk C.hs C.hd C.ha C.hn C.ht C.hm) I.kIn J h1 hk (fun z => nomatch z) fun tk => ⟨.bl b, H, I.tok tk, rfl, q⟩
end
section
variable {K : PySem.W.Frag} {S H : Hp} {O : List (Addr × HO)} {Q : VK} {C c a : Addr} {b : Bool}
theorem x_isK (h : H a = some (ExK (.ref C) none a)) (hC : ExcC K C) (hk : PySem.W.kitOne K (.ref C) (.ref c) = some b) (q : Q (.bl b) H) : rIsK K [.ref a, .ref c] H Q :=
  ⟨a, C, .ref c, .ref c, b, rfl, h, hC, fun u h => h, hk, q⟩
theorem x_isKT {n : String} (h : H a = some (ExK (.ref C) none a)) (hC : ExcC K C) (hk : PySem.W.kitOne K (.ref C) (.type n) = some b) (q : Q (.bl b) H) : rIsK K [.ref a, .ty n] H Q :=
  ⟨a, C, .ty n, .type n, b, rfl, h, hC, fun u h => h, hk, q⟩
end
end SB
/-! sorted of pairs of ints; list(range(n)). -/
namespace SB
open PySem PySem.Spec PyProof.Rows L2
abbrev prD (p : Int × Int) : PyData := .tuple [.int p.1, .int p.2]
/-- the pair that a tuple holds -/
def prOf (h : Heap) (v : Value) : Int × Int := match v with
  | .ref a => match h.get? a with
    | some o => match o.data with
      | .seq its _ => match its.toList with
        | [.int x _, .int y _] => (x, y)
        | _ => (0, 0)
      | _ => (0, 0)
    | none => (0, 0)
  | _ => (0, 0)
theorem prOf_is {h : Heap} {v : Value} {x y : Int} (p : Srt.IsPair h v x y) : prOf h v = (x, y) := by
  obtain ⟨a, o, t, u, n, rfl, h1, _, h2⟩ := p
  unfold prOf
  dsimp only
  rw [h1]
  dsimp only
  rw [h2]
def rSortPS (K : PySem.W.Frag) : List V → Hp → VK → Prop := fun vs H Q => ∃ (a : Addr) (xs : List V) (ps : List (Int × Int)), vs = [.ref a] ∧ SqL K H a xs ∧ xs.length = ps.length ∧ (∀ z ∈ xs.zip ps, ∃ t, z.1 = V.ref t ∧ SqT K H t [.int z.2.1, .int z.2.2]) ∧
  ∀ (zs : List (V × (Int × Int))) (p : Addr), zs.Perm (xs.zip ps) → (zs.map (·.2)).Pairwise (fun p q => p.1 < q.1 ∨ (p.1 = q.1 ∧ p.2 ≤ q.2)) → H p = none → Q (.ref p) (upd H p (.lst (zs.map (·.1))))
section
variable {X : Cx} {K : PySem.W.Frag}
theorem cl_sortPS (e : X.K = K) : CallR X (.builtin "sorted") (rSortPS K) := by
  subst e
  intro pins s σ H vs us Q I r h
  obtain ⟨a, xs, ps, rfl, hs, hlen, hx, q⟩ := h
  obtain ⟨its, rv, hl, hz⟩ := I.list hs
  obtain ⟨u, rfl, ru⟩ := vals1 r
  cases (show u = Value.ref a from ru)
  have all : ∀ (i : Nat) (x : V), xs[i]? = some x → ∃ p, ps[i]? = some p ∧ ∃ t, x = V.ref t ∧ SqT X.K H t [.int p.1, .int p.2] := fun i x hi => by
    have hl := (List.getElem?_eq_some_iff.mp hi).1
    have hp : ps[i]? = some (ps[i]'(by omega)) := List.getElem?_eq_getElem (by omega)
    refine ⟨_, hp, ?_⟩
    exact hx (x, ps[i]'(by omega)) (List.mem_of_getElem? (by rw [List.getElem?_zip_eq_some]; exact ⟨hi, hp⟩))
  obtain ⟨e1, e2⟩ := refs_back rv fun x m => by
    obtain ⟨i, hi⟩ := List.getElem?_of_mem m
    obtain ⟨_, _, t, e, _⟩ := all i x hi
    exact ⟨t, e⟩
  have pr : ∀ (i : Nat) (v : Value), its[i]? = some v → ∃ p, ps[i]? = some p ∧ Srt.IsPair s.heap v p.1 p.2 := fun i v hv => by
    have hxv : xs[i]? = some (backV v) := by rw [e1, List.getElem?_map, hv]; rfl
    obtain ⟨p, hp, t, et, ht⟩ := all i _ hxv
    obtain ⟨t', rfl⟩ := e2 v (List.mem_of_getElem? hv)
    cases et
    obtain ⟨its2, r2, o2, _⟩ := I.tuple ht
    obtain ⟨o, ho, hc, n, hd⟩ := o2
    obtain ⟨u1, u2, rfl, ri, rj⟩ := vals2 r2
    obtain ⟨t1, rfl⟩ := ri
    obtain ⟨t2, rfl⟩ := rj
    exact ⟨p, hp, t, o, t1, t2, n, rfl, ho, hc, hd⟩
  have ezip : its.map (fun u => (backV u, prOf s.heap u)) = xs.zip ps := by
    apply List.ext_getElem?
    intro i
    rw [List.getElem?_map]
    cases hi : its[i]? with
    | none =>
      have hn : its.length ≤ i := by
        rcases Nat.lt_or_ge i its.length with h | h
        · rw [List.getElem?_eq_getElem h] at hi; cases hi
        · exact h
      have hxl : xs.length = its.length := by rw [e1, List.length_map]
      rw [List.getElem?_eq_none (by rw [List.length_zip]; omega)]
      rfl
    | some v =>
      obtain ⟨p, hp, hpr⟩ := pr i v hi
      have hxv : xs[i]? = some (backV v) := by rw [e1, List.getElem?_map, hi]; rfl
      rw [(List.getElem?_zip_eq_some.mpr ⟨hxv, hp⟩ : (xs.zip ps)[i]? = some (backV v, p)), Option.map_some, prOf_is hpr]
  refine SrtO.sorted_pairsO (k := prOf s.heap) hl.isList (by rw [← rv.length]; exact hz) (fun v hv => ?_) fun h' d out h1 h2 kp hd hn => ?_
  · obtain ⟨i, hi⟩ := List.getElem?_of_mem hv
    obtain ⟨p, _, hpr⟩ := pr i v hi
    rw [prOf_is hpr]
    exact hpr
  · have h3 : ∀ u ∈ out, ∃ a, u = Value.ref a := fun u hu => e2 u (h2.perm.mem_iff.mp hu)
    obtain ⟨n, hn⟩ := hn
    have hperm : (out.map fun u => (backV u, prOf s.heap u)).Perm (xs.zip ps) := by
      rw [← ezip]
      exact h2.perm.map _
    have em : (out.map fun u => (backV u, prOf s.heap u)).map (·.1) = out.map backV := by rw [List.map_map]; rfl
    have hq := q (out.map fun u => (backV u, prOf s.heap u)) d hperm (by
      rw [List.map_map, List.pairwise_map]
      refine h1.imp fun {v u} hh => ?_
      have := SrtO.lexB_no.mp hh
      show (prOf s.heap v).1 < (prOf s.heap u).1 ∨ ((prOf s.heap v).1 = (prOf s.heap u).1 ∧ (prOf s.heap v).2 ≤ (prOf s.heap u).2)
      omega) (I.hok.fresh hd)
    rw [em] at hq
    have hol : out.length = xs.length := by rw [h2.perm.length_eq, e1, List.length_map]
    exact ⟨.ref d, upd H d (.lst (out.map backV)), I.laid (t' := s.toks) kp hd ⟨by rw [List.length_map, hol]; exact hz, out, n, vals_back h3, hn⟩, rfl, hq⟩
end
section
variable {K : PySem.W.Frag} {S H : Hp} {O : List (Addr × HO)} {σ : L2.St} {Q : VK} {x y v : V} {ta : TE}
theorem x_sortP {ps : List (Int × Int)} (W : Wd K S H O) (h : Dp K S x (.list (ps.map fun p => .tuple [.int p.1, .int p.2])))
    (k : ∀ (S' H' : Hp) (v : V) (qs : List (Int × Int)), Wd K S' H' O → Same S S' → Dp K S' v (.list (qs.map fun p : Int × Int => .tuple [.int p.1, .int p.2])) → qs.Perm ps → qs.Pairwise (fun p q => p.1 < q.1 ∨ (p.1 = q.1 ∧ p.2 ≤ q.2)) → Q v H') : rSortPS K [x] H Q := by
  obtain ⟨a, us, rfl, hq, ha⟩ := dp_lst_ex h
  have hlen : us.length = ps.length := by rw [dpAll_len ha, List.length_map]
  have each : ∀ z ∈ us.zip ps, Dp K S z.1 (.tuple [.int z.2.1, .int z.2.2]) := fun z hz => by
    obtain ⟨i, hi⟩ := List.getElem?_of_mem hz
    obtain ⟨u, p⟩ := z
    rw [List.getElem?_zip_eq_some] at hi
    obtain ⟨d, hd, hdp⟩ := dpAll_get' ha hi.1
    rw [List.getElem?_map, hi.2] at hd
    cases hd
    exact hdp
  refine ⟨a, us, ps, rfl, W.lst hq, hlen, fun z hz => ?_, fun zs p hp hs hn => ?_⟩
  · obtain ⟨t, ws, e, hw, hall⟩ := dp_tup_ex (each z hz)
    refine ⟨t, e, ?_⟩
    cases hall with
    | cons h1 h2 =>
      cases h2 with
      | cons h2 h3 =>
        cases h3
        cases h1
        cases h2
        exact W.tup hw
  · have hd : DpAll K S (zs.map (·.1)) ((zs.map (·.2)).map fun p : Int × Int => .tuple [.int p.1, .int p.2]) := by
      have mem : ∀ z ∈ zs, Dp K S z.1 (.tuple [.int z.2.1, .int z.2.2]) := fun z hz => each z (hp.mem_iff.mp hz)
      clear hp hs
      induction zs with
      | nil => exact .nil
      | cons z r ih => exact .cons (mem z List.mem_cons_self) (ih fun y hy => mem y (List.mem_cons_of_mem _ hy))
    have hperm : (zs.map (·.2)).Perm ps := by
      have := hp.map (·.2)
      rw [List.map_snd_zip (by omega)] at this
      exact this
    exact x_lst' W hd (fun S' H' v W' hS hv => k S' H' v _ W' hS hv hperm hs) p hn
/-- list(range(n)), ours -/
def RgR (Q : VK) (n : Int) (H : Hp) : Prop := RgOk 0 n ∧ ∀ q, H q = none → Q (.ref q) (upd H q (.lst (rgV 0 n)))
theorem x_lrg (h : ta σ H fun x H1 => ∃ n, x = .int n ∧ RgR Q n H1) : tLstRg (tRg1 ta) σ H Q := h
theorem rgV_ints {n : Int} : rgV 0 n = ((List.range n.toNat).map fun i : Nat => (i : Int)).map V.int := by
  unfold rgV
  rw [List.map_map, Int.sub_zero]
  refine List.map_congr_left fun i _ => ?_
  show V.int (0 + (i : Int)) = V.int (i : Int)
  rw [Int.zero_add]
theorem x_rgO {n : Int} (W : Wd K S H O) (h0 : 0 ≤ n) (h1 : n ≤ 1000000) (k : ∀ q H', Wd K S H' ((q, .lst (((List.range n.toNat).map fun i : Nat => (i : Int)).map V.int)) :: O) → Q (.ref q) H') :
    RgR Q n H :=
  ⟨.of_le (Int.le_refl _) (by omega) (by decide) h0, fun q hq => by rw [rgV_ints]; exact k q _ (W.alloc hq)⟩
end
end SB
namespace SB
open PySem PySem.Spec PyProof.Rows L2
/-! ### dicts: len, isinstance, get, a new one -/
def rLenD : List V → Hp → VK → Prop := fun xs H Q => ∃ (a : Addr) (kvs : List (Key × V)), xs = [.ref a] ∧ H a = some (.dK kvs) ∧ Q (.int kvs.length) H
theorem cl_lenD {X : Cx} : CallR X (.builtin "len") rLenD := call_lenD
theorem call_isD {X : Cx} {K : PySem.W.Frag} (e : X.K = K) : CallR X (.builtin "isinstance") (rIsi K) := isia e
def rCatTD (K : PySem.W.Frag) : R2 := rCatT K
theorem catTa {X : Cx} {K : PySem.W.Frag} (e : X.K = K) : OpR X (binaryOp .Add) (rCatT K) := e ▸ op_catT
section
variable {K : PySem.W.Frag} {S H : Hp} {O : List (Addr × HO)} {σ : L2.St} {Q : VK} {x y v : V} {td ty : TE} {β : Type} {e : β → PyData} {p : Addr} {kvs : List (Int × V)} {xs : List (Int × β)}
theorem x_lenDH (h : H p = some (mkD kvs)) (r : DKV K S e kvs xs) (q : Q (.int xs.length) H) : rLenD [.ref p] H Q :=
  ⟨p, _, rfl, h, by rw [List.length_map, dkv_len r]; exact q⟩
theorem x_isiD {n : String} {b : Bool} (h : H p = some (mkD kvs)) (hk : kitB "dict" n = some b) (q : Q (.bl b) H) : rIsi K [.ref p, .ty n] H Q := x_isi (.base (.dK h)) (kit_ty hk) q
def GetR (ty : L2.St → Hp → VK → Prop) (σ : L2.St) (Q : VK) (x : V) (H : Hp) : Prop := ∃ a, x = .ref a ∧ IsD H a ∧ ty σ H fun y H2 => ∃ o, DGet H2 a y o ∧ Q (o.getD .non) H2
theorem x_get (h : td σ H fun x H1 => GetR ty σ Q x H1) : tDGet1 td ty σ H Q := h
theorem x_getH (h : H p = some (mkD kvs)) (k : ty σ H fun y H2 => ∃ o, DGet H2 p y o ∧ Q (o.getD .non) H2) : GetR ty σ Q (.ref p) H := ⟨p, rfl, .inl ⟨_, .inl h⟩, k⟩
theorem x_getE {i : Int} (h : H p = some (mkD kvs)) (q : Q ((look kvs i).getD .non) H) : ∃ o, DGet H p (.int i) o ∧ Q (o.getD .non) H := ⟨_, dget_rd h, q⟩
theorem x_dnew (W : Wd K S H O) (k : ∀ p H', Wd K S H' ((p, mkD []) :: O) → Q (.ref p) H') : tDNewK σ H Q := fun p hp => k p _ (W.alloc hp (o := .dK []))
theorem x_catT {ds es : List PyData} (W : Wd K S H O) (h1 : Dp K S x (.tuple ds)) (h2 : Dp K S y (.tuple es)) (n1 : ds ≠ []) (n2 : es ≠ []) (hl : ds.length + es.length ≤ 1000000) (k : ∀ S' H' v, Wd K S' H' O → Same S S' → Dp K S' v (.tuple (ds ++ es)) → Q v H') : rCatT K x y H Q := by
  obtain ⟨a, us, rfl, hq1, ha⟩ := dp_tup_ex h1
  obtain ⟨b, ws, rfl, hq2, hb⟩ := dp_tup_ex h2
  have l1 := dpAll_len ha
  have l2 := dpAll_len hb
  have e1 : us ≠ [] := fun e => by rw [e] at l1; exact n1 (List.eq_nil_of_length_eq_zero l1.symm)
  have e2 : ws ≠ [] := fun e => by rw [e] at l2; exact n2 (List.eq_nil_of_length_eq_zero l2.symm)
  exact ⟨a, b, us, ws, rfl, rfl, W.tup hq1, W.tup hq2, e1, sz (by rw [l1, l2]; exact hl), fun e => absurd e e2, fun _ => x_tup' W (dpAll_cat ha hb) k⟩
/-! ### sorted of ints, remove -/
theorem x_srtO {ns : List Int} (n : Nat) (W : Wd K S H O) (h : O[n]? = some (p, .lst (ns.map V.int))) (k : ∀ S' H' v (zs : List Int), Wd K S' H' O → Same S S' → Dp K S' v (.list (zs.map PyData.int)) → zs.Perm ns → zs.Pairwise (· ≤ ·) → Q v H') : rSortedI K [.ref p] H Q :=
  ⟨p, ns, rfl, .of (W.at n h), fun zs q h1 h2 hq => x_lst' W (dpAll_ints zs) (fun S' H' v W' hS hv => k S' H' v zs W' hS hv h1 h2) q hq⟩
theorem x_remO {ns : List Int} {i : Int} {j : Nat} (n : Nat) (W : Wd K S H O) (h : O[n]? = some (p, .lst (ns.map V.int))) (h1 : ns[j]? = some i) (h2 : ∀ m : Nat, m < j → ns[m]? ≠ some i) (k : ∀ H', Wd K S H' (O.set n (p, .lst ((ns.eraseIdx j).map V.int))) → Q .non H') : rRemI (.ref p) [.int i] H Q :=
  ⟨p, ns, i, j, rfl, rfl, W.at n h, h1, h2, k _ (W.put n h)⟩
theorem x_popI {ns : List Int} {i : Int} (n : Nat) (W : Wd K S H O) (h : O[n]? = some (p, .lst ((ns ++ [i]).map V.int))) (k : ∀ H', Wd K S H' (O.set n (p, .lst (ns.map V.int))) → Q (.int i) H') : rPop (.ref p) [] H Q := by
  refine x_pop n W h ?_ fun H' W' => k H' ?_
  · rw [List.map_append, List.length_append, List.map_cons, List.map_nil, List.length_singleton, Nat.add_sub_cancel, List.getElem?_append_right (by simp)]
    simp
  · rw [List.map_append, List.map_cons, List.map_nil, List.dropLast_concat] at W'
    exact W'
end
end SB
/-! ratios of whole numbers, plain -/
namespace SB
/-- the ratio that ratio tells -/
def rat (t u : Int) : Int × Int := if u < 0 then (-t / (Int.gcd t u : Int), -u / (Int.gcd t u : Int)) else (t / (Int.gcd t u : Int), u / (Int.gcd t u : Int))
def IsR (r : Int × Int) : Prop := 0 < r.2 ∧ Int.gcd r.1 r.2 = 1
theorem gcd_step {x y : Int} : Int.gcd y (x % y) = Int.gcd x y := by
  rw [Int.gcd_comm y]
  have h : ∀ c : Int, c ∣ y → (c ∣ x % y ↔ c ∣ x) := fun c hc => by
    constructor
    · intro h
      have := Int.emod_add_mul_ediv x y
      rw [← this]
      exact Int.dvd_add h (Int.dvd_trans hc (Int.dvd_mul_right y _))
    · intro h
      rw [Int.emod_def]
      exact Int.dvd_sub h (Int.dvd_trans hc (Int.dvd_mul_right y _))
  exact Int.gcd_left_eq_iff.mpr h
theorem gcd_pos' (t : Int) {u : Int} (h : u ≠ 0) : 0 < (Int.gcd t u : Int) := by
  have := Int.gcd_pos_of_ne_zero_right t h
  omega
theorem rat_pos {t u : Int} (h : u ≠ 0) : 0 < (rat t u).2 := by
  have hg := gcd_pos' t h
  have hd : (Int.gcd t u : Int) ∣ u := Int.gcd_dvd_right t u
  unfold rat
  split
  · have : (0 : Int) < -u := by omega
    exact Int.ediv_pos_of_pos_of_dvd this (Int.le_of_lt hg) ((Int.dvd_neg).mpr hd)
  · have : (0 : Int) < u := by omega
    exact Int.ediv_pos_of_pos_of_dvd this (Int.le_of_lt hg) hd
theorem rat_gcd {t u : Int} (h : u ≠ 0) : Int.gcd (rat t u).1 (rat t u).2 = 1 := by
  have hg := Int.gcd_pos_of_ne_zero_right t h
  unfold rat
  split
  · have e : Int.gcd t u = Int.gcd (-t) (-u) := by simp
    rw [e] at hg ⊢
    exact Int.gcd_ediv_gcd_ediv_gcd hg
  · exact Int.gcd_ediv_gcd_ediv_gcd hg
theorem rat_isR {t u : Int} (h : u ≠ 0) : IsR (rat t u) := ⟨rat_pos h, rat_gcd h⟩
theorem rat_eq {t u : Int} : (rat t u).1 * u = t * (rat t u).2 := by
  have h1 : (Int.gcd t u : Int) ∣ u := Int.gcd_dvd_right t u
  have h2 : (Int.gcd t u : Int) ∣ t := Int.gcd_dvd_left t u
  unfold rat
  obtain ⟨a, ha⟩ := h1
  obtain ⟨b, hb⟩ := h2
  generalize (Int.gcd t u : Int) = g at *
  by_cases hg : g = 0
  · subst hg
    simp at ha hb
    subst ha hb
    simp
  · have e1 : u / g = a := by rw [ha, Int.mul_ediv_cancel_left _ hg]
    have e2 : t / g = b := by rw [hb, Int.mul_ediv_cancel_left _ hg]
    have e3 : -u / g = -a := by rw [ha, ← Int.mul_neg, Int.mul_ediv_cancel_left _ hg]
    have e4 : -t / g = -b := by rw [hb, ← Int.mul_neg, Int.mul_ediv_cancel_left _ hg]
    split
    · show -t / g * u = t * (-u / g)
      rw [e3, e4, ha, hb]
      grind
    · show t / g * u = t * (u / g)
      rw [e1, e2, ha, hb]
      grind
theorem rat_abs1 {t u : Int} : (rat t u).1.natAbs ≤ t.natAbs := by
  unfold rat
  split
  · show (-t / _).natAbs ≤ _
    have := Int.natAbs_ediv_le_natAbs (-t) (Int.gcd t u : Int)
    simpa using this
  · exact Int.natAbs_ediv_le_natAbs t _
theorem rat_abs2 {t u : Int} : (rat t u).2.natAbs ≤ u.natAbs := by
  unfold rat
  split
  · show (-u / _).natAbs ≤ _
    have := Int.natAbs_ediv_le_natAbs (-u) (Int.gcd t u : Int)
    simpa using this
  · exact Int.natAbs_ediv_le_natAbs u _
/-- small enough for the walk -/
def Sm (n : Int) : Prop := n.natAbs < 2 ^ 1000
def BR (r : Int × Int) : Prop := 0 < r.2 ∧ r.1.natAbs < 2 ^ 2000 ∧ r.2.natAbs < 2 ^ 2000
end SB
namespace SB
theorem big8 {n : Nat} (h : n < 2 ^ (2000 + 2000)) : n < 2 ^ 8000 := Nat.lt_trans h (Nat.pow_lt_pow_right (by decide) (by decide))
end SB
namespace SB
section
variable {a b c e R1 R2 U1 U2 r1 r2 : Int}
theorem plus_eq (hR : R1 * b = a * R2) (hU : U1 * e = c * U2) (hn : R2 * U2 ≠ 0) (hr : r1 * (R2 * U2) = (R1 * U2 + U1 * R2) * r2) : r1 * (b * e) = (a * e + c * b) * r2 := by
  apply Int.eq_of_mul_eq_mul_right hn
  grind
theorem minus_eq (hR : R1 * b = a * R2) (hU : U1 * e = c * U2) (hn : R2 * U2 ≠ 0) (hr : r1 * (R2 * U2) = (R1 * U2 - U1 * R2) * r2) : r1 * (b * e) = (a * e - c * b) * r2 := by
  apply Int.eq_of_mul_eq_mul_right hn
  grind
theorem times_eq (hR : R1 * b = a * R2) (hU : U1 * e = c * U2) (hn : R2 * U2 ≠ 0) (hr : r1 * (R2 * U2) = R1 * U1 * r2) : r1 * (b * e) = a * c * r2 := by
  apply Int.eq_of_mul_eq_mul_right hn
  grind
theorem over_eq (hR : R1 * b = a * R2) (hU : U1 * e = c * U2) (hn : R2 * U1 ≠ 0) (hr : r1 * (R2 * U1) = R1 * U2 * r2) : r1 * (b * c) = a * e * r2 := by
  apply Int.eq_of_mul_eq_mul_right hn
  grind
theorem num_zero (he : e ≠ 0) (h2 : 0 < U2) (hU : U1 * e = c * U2) : U1 = 0 ↔ c = 0 := by
  constructor
  · intro h
    rw [h, Int.zero_mul] at hU
    rcases Int.mul_eq_zero.mp hU.symm with z | z
    · exact z
    · omega
  · intro h
    rw [h, Int.zero_mul] at hU
    rcases Int.mul_eq_zero.mp hU with z | z
    · exact z
    · exact absurd z he
theorem less_iff (hR : R1 * b = a * R2) (hU : U1 * e = c * U2) (hb : b ≠ 0) (he : e ≠ 0) (h1 : 0 < R2) (h2 : 0 < U2) : R1 * U2 < U1 * R2 ↔ (a * e - c * b) * b * e < 0 := by
  have hP : 0 < b * e * (b * e) := by
    have hne : b * e ≠ 0 := Int.mul_ne_zero hb he
    rcases Int.lt_or_gt_of_ne hne with h | h
    · exact Int.mul_pos_of_neg_of_neg h h
    · exact Int.mul_pos h h
  have hQ : 0 < R2 * U2 := Int.mul_pos h1 h2
  have key : (b * e * (b * e)) * (R1 * U2 - U1 * R2) = ((a * e - c * b) * b * e) * (R2 * U2) := by grind
  constructor
  · intro h
    have hx : R1 * U2 - U1 * R2 < 0 := by omega
    have := Int.mul_neg_of_pos_of_neg hP hx
    rw [key] at this
    exact Int.neg_of_mul_neg_right (by rw [Int.mul_comm]; exact this) hQ
  · intro h
    have := Int.mul_neg_of_neg_of_pos h hQ
    rw [← key] at this
    have := Int.neg_of_mul_neg_left (by rw [Int.mul_comm]; exact this) hP
    omega
end
end SB
/-! what the laws draw from a script, plain -/
namespace SB
def cell (ns : List Int) (i : Int) : Int := if ns = [] then 0 else nth ns (i % (ns.length : Int))
def mix (ns : List Int) (i : Int) : Int :=
  let n := (cell ns i + 104729 * (i + 1)) % 4294967291 * 48271 % 4294967279
  (n / 64 * 69621 + n) % 4294967231
theorem mix_lo (ns : List Int) (i : Int) : 0 ≤ mix ns i := Int.emod_nonneg _ (by decide)
theorem mix_hi (ns : List Int) (i : Int) : mix ns i < 4294967231 := Int.emod_lt_of_pos _ (by decide)
end SB
namespace SB
/-- a whole number of up to forty figures -/
def wholeOf (ns : List Int) (i : Int) : Int := nth [mix ns i % 20 - 10, mix ns i, cell ns (i + 1) % 10 ^ 40 - 10 ^ 39, 0] (mix ns i / 20 % 4)
theorem wholeOf_sm (ns : List Int) (i : Int) : (wholeOf ns i).natAbs < 2 ^ 140 := by
  unfold wholeOf
  have h := nth_mem (xs := [mix ns i % 20 - 10, mix ns i, cell ns (i + 1) % 10 ^ 40 - 10 ^ 39, 0]) (i := mix ns i / 20 % 4) (Int.emod_nonneg _ (by decide)) (Int.emod_lt_of_pos _ (by decide))
  generalize nth [mix ns i % 20 - 10, mix ns i, cell ns (i + 1) % 10 ^ 40 - 10 ^ 39, 0] (mix ns i / 20 % 4) = z at h
  have h1 := mix_lo ns i
  have h2 := mix_hi ns i
  have h3 := Int.emod_nonneg (mix ns i) (show (20 : Int) ≠ 0 by decide)
  have h4 := Int.emod_lt_of_pos (mix ns i) (show (0 : Int) < 20 by decide)
  have h5 := Int.emod_nonneg (cell ns (i + 1)) (show (10 ^ 40 : Int) ≠ 0 by decide)
  have h6 := Int.emod_lt_of_pos (cell ns (i + 1)) (show (0 : Int) < 10 ^ 40 by decide)
  simp only [List.mem_cons, List.mem_nil_iff, or_false, List.not_mem_nil] at h
  have e : (2 : Nat) ^ 140 = 1393796574908163946345982392040522594123776 := by decide
  rw [e]
  rcases h with h | h | h | h <;> omega
end SB
/-! ratios as Lean's own; their sizes; plain -/
namespace SB
theorem rat_q {t u : Int} (hu : u ≠ 0) : rat t u = ((Rat.divInt t u).num, ((Rat.divInt t u).den : Int)) := by
  have hp := rat_pos (t := t) hu
  have hg := rat_gcd (t := t) hu
  have he := rat_eq (t := t) (u := u)
  have h2 : ((rat t u).2.toNat : Int) = (rat t u).2 := Int.toNat_of_nonneg (Int.le_of_lt hp)
  have hc : (rat t u).1.natAbs.Coprime (rat t u).2.toNat := by
    have : (rat t u).2.natAbs = (rat t u).2.toNat := by omega
    unfold Int.gcd at hg
    rw [this] at hg
    exact hg
  have hz : (rat t u).2.toNat ≠ 0 := by omega
  have e1 : (⟨(rat t u).1, (rat t u).2.toNat, hz, hc⟩ : Rat) = Rat.divInt t u := by
    rw [Rat.mk_eq_divInt, h2]
    exact (Rat.divInt_eq_divInt_iff (by omega) hu).mpr he
  rw [← e1]
  exact Prod.ext rfl h2.symm
/-- what a ratio's two numbers stay below -/
def Bq (k : Nat) (q : Rat) : Prop := q.num.natAbs < 2 ^ k ∧ q.den < 2 ^ k
theorem Bq.mono {k l : Nat} {q : Rat} (h : Bq k q) (e : k ≤ l) : Bq l q :=
  ⟨Nat.lt_of_lt_of_le h.1 (Nat.pow_le_pow_right (by decide) e), Nat.lt_of_lt_of_le h.2 (Nat.pow_le_pow_right (by decide) e)⟩
theorem bq_divInt {k : Nat} {t u : Int} (hu : u ≠ 0) (h1 : t.natAbs < 2 ^ k) (h2 : u.natAbs < 2 ^ k) : Bq k (Rat.divInt t u) := by
  have e := rat_q (t := t) hu
  have a1 := rat_abs1 (t := t) (u := u)
  have a2 := rat_abs2 (t := t) (u := u)
  rw [e] at a1 a2
  simp only at a1 a2
  exact ⟨by omega, by omega⟩
theorem den_pos' (q : Rat) : (0 : Int) < (q.den : Int) := by have := q.den_pos; omega
theorem bq_zero {k : Nat} (h : 0 < k) : Bq k 0 := ⟨Nat.pow_pos (by decide), Nat.one_lt_two_pow (by omega)⟩
theorem bq_one {k : Nat} (h : 0 < k) : Bq k 1 := ⟨Nat.one_lt_two_pow (by omega), Nat.one_lt_two_pow (by omega)⟩
theorem mul_lt2 {a b : Int} {k l : Nat} (h1 : a.natAbs < 2 ^ k) (h2 : b.natAbs < 2 ^ l) : (a * b).natAbs < 2 ^ (k + l) := by
  rw [Int.natAbs_mul, Nat.pow_add]
  exact Nat.mul_lt_mul_of_lt_of_le h1 (Nat.le_of_lt h2) (Nat.pow_pos (by decide))
theorem add_lt2 {a b : Int} {k : Nat} (h1 : a.natAbs < 2 ^ k) (h2 : b.natAbs < 2 ^ k) : (a + b).natAbs < 2 ^ (k + 1) := by
  rw [Nat.pow_succ]; omega
theorem sub_lt2 {a b : Int} {k : Nat} (h1 : a.natAbs < 2 ^ k) (h2 : b.natAbs < 2 ^ k) : (a - b).natAbs < 2 ^ (k + 1) := by
  rw [Nat.pow_succ]; omega
theorem q_add (a b : Rat) : a + b = Rat.divInt (a.num * b.den + b.num * a.den) (a.den * b.den) := by
  have := Rat.divInt_add_divInt a.num b.num (d₁ := (a.den : Int)) (d₂ := (b.den : Int)) (by have := den_pos' a; omega) (by have := den_pos' b; omega)
  rw [Rat.num_divInt_den, Rat.num_divInt_den] at this
  exact this
theorem q_sub (a b : Rat) : a - b = Rat.divInt (a.num * b.den - b.num * a.den) (a.den * b.den) := by
  have := Rat.divInt_sub_divInt a.num b.num (d₁ := (a.den : Int)) (d₂ := (b.den : Int)) (by have := den_pos' a; omega) (by have := den_pos' b; omega)
  rw [Rat.num_divInt_den, Rat.num_divInt_den] at this
  exact this
theorem q_mul (a b : Rat) : a * b = Rat.divInt (a.num * b.num) (a.den * b.den) := by
  have := Rat.divInt_mul_divInt a.num b.num (d₁ := (a.den : Int)) (d₂ := (b.den : Int))
  rw [Rat.num_divInt_den, Rat.num_divInt_den] at this
  exact this
theorem q_div (a b : Rat) : a / b = Rat.divInt (a.num * b.den) (a.den * b.num) := by
  have e : b⁻¹ = Rat.divInt b.den b.num := by
    have := Rat.inv_divInt b.num b.den
    rw [Rat.num_divInt_den] at this
    exact this
  have := Rat.divInt_mul_divInt a.num (b.den : Int) (d₁ := (a.den : Int)) (d₂ := b.num)
  rw [Rat.num_divInt_den, ← e] at this
  rw [Rat.div_def]
  exact this
theorem num_ne {b : Rat} (h : b ≠ 0) : b.num ≠ 0 := fun e => h (Rat.num_eq_zero.mp e)
theorem den_ne (a b : Rat) : (a.den : Int) * (b.den : Int) ≠ 0 := by
  have h1 := den_pos' a
  have h2 := den_pos' b
  have := Int.mul_pos h1 h2
  omega
section
variable {a b : Rat} {k l : Nat}
theorem bqn (h : Bq k a) : a.num.natAbs < 2 ^ k := h.1
theorem bqd (h : Bq k a) : ((a.den : Nat) : Int).natAbs < 2 ^ k := by rw [Int.natAbs_natCast]; exact h.2
theorem bq_mul (h1 : Bq k a) (h2 : Bq l b) : Bq (k + l) (a * b) := by
  rw [q_mul]
  exact bq_divInt (den_ne a b) (mul_lt2 h1.1 h2.1) (mul_lt2 (bqd h1) (bqd h2))
theorem bq_div (h1 : Bq k a) (h2 : Bq l b) (h0 : b ≠ 0) : Bq (k + l) (a / b) := by
  rw [q_div]
  refine bq_divInt (Int.mul_ne_zero (by have := den_pos' a; omega) (num_ne h0)) (mul_lt2 h1.1 (bqd h2)) (mul_lt2 (bqd h1) h2.1)
theorem bq_add (h1 : Bq k a) (h2 : Bq l b) : Bq (k + l + 1) (a + b) := by
  rw [q_add]
  refine bq_divInt (den_ne a b) (add_lt2 (mul_lt2 h1.1 (bqd h2)) (by rw [Nat.add_comm]; exact mul_lt2 h2.1 (bqd h1))) (Nat.lt_of_lt_of_le (mul_lt2 (bqd h1) (bqd h2)) (Nat.pow_le_pow_right (by decide) (by omega)))
theorem bq_sub (h1 : Bq k a) (h2 : Bq l b) : Bq (k + l + 1) (a - b) := by
  rw [q_sub]
  refine bq_divInt (den_ne a b) (sub_lt2 (mul_lt2 h1.1 (bqd h2)) (by rw [Nat.add_comm]; exact mul_lt2 h2.1 (bqd h1))) (Nat.lt_of_lt_of_le (mul_lt2 (bqd h1) (bqd h2)) (Nat.pow_le_pow_right (by decide) (by omega)))
theorem bq_neg (h : Bq k a) : Bq k (-a) := by
  refine ⟨?_, ?_⟩
  · rw [Rat.neg_num, Int.natAbs_neg]; exact h.1
  · rw [Rat.neg_den]; exact h.2
end
theorem q_less (a b : Rat) : decide (a.num * b.den < b.num * a.den) = decide (a < b) := by
  rw [decide_eq_decide]
  exact (Rat.lt_iff a b).symm
/-- the integer numerators over one denominator -/
def Fr (D : Int) (k : Nat) (q : Rat) : Prop := ∃ M : Int, M.natAbs < 2 ^ k ∧ q * (D : Rat) = (M : Rat)
theorem fr_bq {D : Int} {k : Nat} {q : Rat} (hD : D ≠ 0) (hd : D.natAbs < 2 ^ k) (h : Fr D k q) : Bq k q := by
  obtain ⟨M, hM, e⟩ := h
  have e1 : q = Rat.divInt M D := by
    rw [Rat.divInt_eq_div]
    have : (D : Rat) ≠ 0 := fun z => hD (by exact_mod_cast z)
    grind
  rw [e1]
  exact bq_divInt hD hM hd
end SB
/-! sheets of ratios, plain -/
namespace SB
def sm : Nat → (Nat → Rat) → Rat
  | 0, _ => 0
  | n + 1, f => sm n f + f n
theorem sm_congr : ∀ {n : Nat} {f g : Nat → Rat}, (∀ k, k < n → f k = g k) → sm n f = sm n g
  | 0, _, _, _ => rfl
  | n + 1, f, g, h => by rw [sm, sm, sm_congr fun k hk => h k (by omega), h n (by omega)]
theorem sm_add : ∀ {n : Nat} {f g : Nat → Rat}, sm n (fun k => f k + g k) = sm n f + sm n g
  | 0, _, _ => by rw [sm, sm, sm]; grind
  | n + 1, f, g => by rw [sm, sm, sm, sm_add]; grind
theorem sm_mul {a : Rat} : ∀ {n : Nat} {f : Nat → Rat}, sm n (fun k => a * f k) = a * sm n f
  | 0, _ => by rw [sm, sm]; grind
  | n + 1, f => by rw [sm, sm, sm_mul]; grind
theorem sm_zero : ∀ {n : Nat} {f : Nat → Rat}, (∀ k, k < n → f k = 0) → sm n f = 0
  | 0, _, _ => rfl
  | n + 1, f, h => by rw [sm, sm_zero fun k hk => h k (by omega), h n (by omega)]; grind
theorem sm_one {i : Nat} : ∀ {n : Nat} {f : Nat → Rat}, i < n → (∀ k, k < n → k ≠ i → f k = 0) → sm n f = f i
  | 0, _, h, _ => absurd h (Nat.not_lt_zero _)
  | n + 1, f, h, h0 => by
    rw [sm]
    by_cases e : i = n
    · rw [sm_zero fun k hk => h0 k (by omega) (by omega), e]; grind
    · rw [sm_one (by omega) fun k hk hn => h0 k (by omega) hn, h0 n (by omega) (fun z => e z.symm)]; grind
theorem sm_sub {n : Nat} {f g : Nat → Rat} : sm n (fun k => f k - g k) = sm n f - sm n g := by
  have : sm n (fun k => f k - g k) = sm n (fun k => f k + (-1) * g k) := sm_congr fun k _ => by grind
  rw [this, sm_add, sm_mul]; grind
theorem sm_swap {m : Nat} : ∀ {n : Nat} {f : Nat → Nat → Rat}, sm n (fun j => sm m fun i => f i j) = sm m fun i => sm n fun j => f i j
  | 0, f => by rw [sm]; exact (sm_zero fun k _ => rfl).symm
  | n + 1, f => by
    rw [sm, sm_swap, ← sm_add]
    rfl

/-- the numbers that all rows give nought -/
def Sol (m N : Nat) (T : Nat → Nat → Rat) (x : Nat → Rat) : Prop := ∀ i, i < m → sm N (fun j => T i j * x j) = 0
def piv (T : Nat → Nat → Rat) (r c : Nat) : Nat → Nat → Rat := fun i j => if i = r then T r j / T r c else T i j - T i c * (T r j / T r c)
structure IsBas (m n : Nat) (T : Nat → Nat → Rat) (b : Nat → Nat) : Prop where
  lt : ∀ i, i < m → b i < n
  unit : ∀ i k, i < m → k < m → T k (b i) = if k = i then 1 else 0
theorem IsBas.inj {m n : Nat} {T : Nat → Nat → Rat} {b : Nat → Nat} (B : IsBas m n T b) {i k : Nat} (hi : i < m) (hk : k < m) (e : b i = b k) : i = k := by
  have h1 := B.unit i k hi hk
  have h2 := B.unit k k hk hk
  rw [e, h2, if_pos rfl] at h1
  by_cases z : k = i
  · exact z.symm
  · rw [if_neg z] at h1
    exact absurd h1 (by decide)
theorem piv_r {T : Nat → Nat → Rat} {r c j : Nat} : piv T r c r j = T r j / T r c := if_pos rfl
theorem piv_i {T : Nat → Nat → Rat} {r c i j : Nat} (h : i ≠ r) : piv T r c i j = T i j - T i c * (T r j / T r c) := if_neg h
theorem piv_sol {m N : Nat} {T : Nat → Nat → Rat} {r c : Nat} (hr : r < m) (h0 : T r c ≠ 0) {x : Nat → Rat} : Sol m N (piv T r c) x ↔ Sol m N T x := by
  have er : sm N (fun j => piv T r c r j * x j) = (1 / T r c) * sm N (fun j => T r j * x j) := by
    rw [← sm_mul]
    exact sm_congr fun j _ => by rw [piv_r]; grind
  have ei : ∀ i, i ≠ r → sm N (fun j => piv T r c i j * x j) = sm N (fun j => T i j * x j) - (T i c * (1 / T r c)) * sm N (fun j => T r j * x j) := fun i h => by
    rw [← sm_mul, ← sm_sub]
    exact sm_congr fun j _ => by rw [piv_i h]; grind
  have hne : (1 / T r c) ≠ 0 := by grind
  constructor
  · intro h
    have h1 := h r hr
    rw [er] at h1
    have h2 : sm N (fun j => T r j * x j) = 0 := by grind
    intro i hi
    by_cases e : i = r
    · rw [e]; exact h2
    · have h3 := h i hi
      rw [ei i e, h2] at h3
      grind
  · intro h i hi
    by_cases e : i = r
    · rw [e, er, h r hr]; grind
    · rw [ei i e, h i hi, h r hr]; grind
theorem piv_bas {m n : Nat} {T : Nat → Nat → Rat} {b : Nat → Nat} {r c : Nat} (B : IsBas m n T b) (hr : r < m) (hc : c < n) (h0 : T r c ≠ 0) : IsBas m n (piv T r c) (fun i => if i = r then c else b i) := by
  refine ⟨fun i hi => ?_, fun i k hi hk => ?_⟩
  · show (if i = r then c else b i) < n
    split
    · exact hc
    · exact B.lt i hi
  · show piv T r c k (if i = r then c else b i) = _
    by_cases ei : i = r
    · subst ei
      rw [if_pos rfl]
      by_cases ek : k = i
      · subst ek
        rw [piv_r, if_pos rfl]; grind
      · rw [piv_i ek, if_neg ek]; grind
    · rw [if_neg ei]
      have hri := B.unit i r hi hr
      rw [if_neg (fun z => ei z.symm)] at hri
      by_cases ek : k = r
      · subst ek
        rw [piv_r, hri, if_neg (fun z => ei z.symm)]; grind
      · rw [piv_i ek, hri, B.unit i k hi hk]; grind
/-- the way that a column gives -/
def dirv (m : Nat) (T : Nat → Nat → Rat) (b : Nat → Nat) (j : Nat) : Nat → Rat := fun k => if k = j then 1 else - sm m (fun i => if b i = k then T i j else 0)
theorem dirv_j {m : Nat} {T : Nat → Nat → Rat} {b : Nat → Nat} {j : Nat} : dirv m T b j j = 1 := if_pos rfl
theorem dirv_b {m n : Nat} {T : Nat → Nat → Rat} {b : Nat → Nat} {j i : Nat} (B : IsBas m n T b) (hi : i < m) (hj : b i ≠ j) : dirv m T b j (b i) = - T i j := by
  unfold dirv
  rw [if_neg hj, sm_one hi fun k hk hne => if_neg fun e => hne (B.inj hk hi e), if_pos rfl]
theorem dirv_0 {m : Nat} {T : Nat → Nat → Rat} {b : Nat → Nat} {j k : Nat} (hj : k ≠ j) (hk : ∀ i, i < m → b i ≠ k) : dirv m T b j k = 0 := by
  unfold dirv
  rw [if_neg hj, sm_zero fun i hi => if_neg (hk i hi)]
  grind
/-- what a row gives of numbers that are nought but in the basis and at j -/
theorem row_at {m n N : Nat} {T : Nat → Nat → Rat} {b : Nat → Nat} {j : Nat} (B : IsBas m n T b) (hN : n ≤ N) (hj : j < N) (hb : ∀ i, i < m → b i ≠ j) {x : Nat → Rat} (hx : ∀ k, k < N → k ≠ j → (∀ i, i < m → b i ≠ k) → x k = 0) {r : Nat} (hr : r < m) :
    sm N (fun k => T r k * x k) = T r j * x j + x (b r) := by
  have hbr := B.lt r hr
  have e : sm N (fun k => T r k * x k) = sm N (fun k => (if k = j then T r j * x j else 0) + (if k = b r then x (b r) else 0)) := sm_congr fun k hk => by
    by_cases e1 : k = j
    · subst e1
      rw [if_pos rfl, if_neg (fun z => hb r hr z.symm)]; grind
    · rw [if_neg e1]
      by_cases e2 : k = b r
      · subst e2
        rw [if_pos rfl, B.unit r r hr hr, if_pos rfl]; grind
      · rw [if_neg e2]
        by_cases e3 : ∃ i, i < m ∧ b i = k
        · obtain ⟨i, hi, rfl⟩ := e3
          rw [B.unit i r hi hr, if_neg (fun (z : r = i) => e2 (by rw [z]))]; grind
        · rw [hx k hk e1 fun i hi z => e3 ⟨i, hi, z⟩]; grind
  rw [e, sm_add, sm_one hj fun k _ hk => if_neg hk, if_pos rfl, sm_one (show b r < N by omega) fun k _ hk => if_neg hk, if_pos rfl]
theorem dirv_sol {m n N : Nat} {T : Nat → Nat → Rat} {b : Nat → Nat} {j : Nat} (B : IsBas m n T b) (hN : n ≤ N) (hj : j < N) (hb : ∀ i, i < m → b i ≠ j) : Sol m N T (dirv m T b j) := fun r hr => by
  rw [row_at B hN hj hb (fun k _ h1 h2 => dirv_0 h1 h2) hr, dirv_j, dirv_b B hr (hb r hr)]
  grind
/-- sheets with the same solutions and the same basis are alike -/
theorem bas_one {m n N : Nat} {T U : Nat → Nat → Rat} {b d : Nat → Nat} (B : IsBas m n T b) (D : IsBas m n U d) (hN : n ≤ N) (hs : ∀ x, Sol m N T x → Sol m N U x) (hset : ∀ i, i < m → ∃ k, k < m ∧ d k = b i) (hset' : ∀ i, i < m → ∃ k, k < m ∧ b k = d i)
    {i k j : Nat} (hi : i < m) (hk : k < m) (e : b i = d k) (hj : j < N) : T i j = U k j := by
  by_cases h : ∃ z, z < m ∧ b z = j
  · obtain ⟨z, hz, rfl⟩ := h
    obtain ⟨y, hy, ey⟩ := hset z hz
    rw [B.unit z i hz hi, ← ey, D.unit y k hy hk]
    by_cases q : i = z
    · subst q
      have : k = y := D.inj hk hy (by rw [ey, ← e])
      rw [if_pos rfl, if_pos this]
    · rw [if_neg q, if_neg]
      intro w
      subst w
      exact q (B.inj hi hz (by rw [← ey, e]))
  · have hb : ∀ z, z < m → b z ≠ j := fun z hz w => h ⟨z, hz, w⟩
    have hd : ∀ z, z < m → d z ≠ j := fun z hz w => by
      obtain ⟨y, hy, ey⟩ := hset' z hz
      exact hb y hy (ey.trans w)
    have s := hs _ (dirv_sol B hN hj hb) k hk
    rw [row_at D hN hj hd (fun q _ h1 h2 => dirv_0 h1 fun z hz w => by
      obtain ⟨y, hy, ey⟩ := hset z hz
      exact h2 y hy (ey.trans w)) hk, dirv_j, ← e, dirv_b B hi (hb i hi)] at s
    grind
end SB
/-! turning sheets by the first part, and the first row, comes to an end; plain -/
namespace SB
/-- a sheet: m rows, n parts, the column n for the limits, the goal's row -/
structure Cfg where
  T : Nat → Nat → Rat
  b : Nat → Nat
  o : Nat → Rat
/-- the first part that is below nought comes in; of the rows with the least share the one of the first part goes out -/
structure Chosen (m n w : Nat) (C : Cfg) (r c : Nat) : Prop where
  cw : c < w
  neg : C.o c < 0
  first : ∀ j, j < c → 0 ≤ C.o j
  rm : r < m
  pos : 0 < C.T r c
  least : ∀ i, i < m → 0 < C.T i c → C.T r n / C.T r c < C.T i n / C.T i c ∨ (C.T r n / C.T r c = C.T i n / C.T i c ∧ C.b r ≤ C.b i)
/-- the sheet turned, as far as it is looked at -/
structure Turned (m N : Nat) (C D : Cfg) (r c : Nat) : Prop where
  T : ∀ i j, i < m → j < N → D.T i j = piv C.T r c i j
  b : ∀ i, i < m → D.b i = if i = r then c else C.b i
  o : ∀ j, j < N → D.o j = C.o j - C.o c * (C.T r j / C.T r c)
structure CfgOk (m n : Nat) (C : Cfg) : Prop where
  B : IsBas m n C.T C.b
  z : ∀ i, i < m → C.o (C.b i) = 0
  f : ∀ i, i < m → 0 ≤ C.T i n
theorem sol_congr {m N : Nat} {T U : Nat → Nat → Rat} {x : Nat → Rat} (h : ∀ i j, i < m → j < N → T i j = U i j) : Sol m N T x ↔ Sol m N U x :=
  forall_congr' fun i => forall_congr' fun hi => by rw [sm_congr fun j hj => by rw [h i j hi hj]]
theorem Turned.sol {m N : Nat} {C D : Cfg} {r c : Nat} (t : Turned m N C D r c) (hr : r < m) (h0 : C.T r c ≠ 0) {x : Nat → Rat} : Sol m N D.T x ↔ Sol m N C.T x := (sol_congr t.T).trans (piv_sol hr h0)
/-- what a row of numbers gives -/
abbrev ev (N : Nat) (o x : Nat → Rat) : Rat := sm N fun j => o j * x j
theorem Turned.ev {m N : Nat} {C D : Cfg} {r c : Nat} (t : Turned m N C D r c) (hr : r < m) {x : Nat → Rat} (hx : Sol m N C.T x) : ev N D.o x = ev N C.o x := by
  have e : sm N (fun j => D.o j * x j) = sm N (fun j => C.o j * x j) - (C.o c / C.T r c) * sm N (fun j => C.T r j * x j) := by
    rw [← sm_mul, ← sm_sub]
    exact sm_congr fun j hj => by rw [t.o j hj]; grind
  show sm N _ = sm N _
  rw [e, hx r hr]
  grind
theorem bas_congr {m n N : Nat} {T U : Nat → Nat → Rat} {b d : Nat → Nat} (hN : n ≤ N) (h : ∀ i j, i < m → j < N → U i j = T i j) (hb : ∀ i, i < m → d i = b i) (B : IsBas m n T b) : IsBas m n U d :=
  ⟨fun i hi => by rw [hb i hi]; exact B.lt i hi, fun i k hi hk => by rw [hb i hi, h k (b i) hk (by have := B.lt i hi; omega)]; exact B.unit i k hi hk⟩
theorem rat_div_nonneg {a b : Rat} (ha : 0 ≤ a) (hb : 0 < b) : 0 ≤ a / b := by
  rw [Rat.div_def]
  exact Rat.mul_nonneg ha (Rat.le_of_lt (Rat.inv_pos.mpr hb))
theorem Turned.ok {m n : Nat} {w : Nat} {C D : Cfg} {r c : Nat} (t : Turned m (n + 1) C D r c) (h : Chosen m n w C r c) (hw : w ≤ n) (k : CfgOk m n C) : CfgOk m n D := by
  have hp := h.pos
  have h0 : C.T r c ≠ 0 := by grind
  have hc : c < n := Nat.lt_of_lt_of_le h.cw hw
  refine ⟨bas_congr (by omega) t.T t.b (piv_bas k.B h.rm hc h0), fun i hi => ?_, fun i hi => ?_⟩
  · rw [t.b i hi]
    by_cases e : i = r
    · subst e
      rw [if_pos rfl, t.o c (by omega)]
      grind
    · rw [if_neg e, t.o _ (by have := k.B.lt i hi; omega), k.z i hi, k.B.unit i r hi h.rm, if_neg (fun z => e z.symm)]
      grind
  · rw [t.T i n hi (by omega)]
    have f1 := k.f r h.rm
    have g1 := rat_div_nonneg f1 hp
    by_cases e : i = r
    · subst e
      rw [piv_r]
      exact g1
    · rw [piv_i e]
      have f2 := k.f i hi
      by_cases q : 0 < C.T i c
      · have l : C.T r n / C.T r c ≤ C.T i n / C.T i c := by
          rcases h.least i hi q with l | ⟨l, _⟩
          · exact Rat.le_of_lt l
          · exact l ▸ Rat.le_refl
        have l2 : C.T i c * (C.T r n / C.T r c) ≤ C.T i c * (C.T i n / C.T i c) := Rat.mul_le_mul_of_nonneg_left l (Rat.le_of_lt q)
        have l3 : C.T i c * (C.T i n / C.T i c) = C.T i n := by grind
        grind
      · have q' : C.T i c ≤ 0 := by grind
        have l2 : C.T i c * (C.T r n / C.T r c) ≤ 0 := by
          have := Rat.mul_le_mul_of_nonneg_right q' g1
          grind
        grind

/-- a run of turns -/
structure Run (m n w K : Nat) (F : Nat → Cfg) (r c : Nat → Nat) : Prop where
  ch : ∀ t, t < K → Chosen m n w (F t) (r t) (c t)
  tu : ∀ t, t < K → Turned m (n + 1) (F t) (F (t + 1)) (r t) (c t)
section
variable {m n w K : Nat} {F : Nat → Cfg} {r c : Nat → Nat}
theorem Run.ok (R : Run m n w K F r c) (hw : w ≤ n) (k0 : CfgOk m n (F 0)) : ∀ t, t ≤ K → CfgOk m n (F t)
  | 0, _ => k0
  | t + 1, h => (R.tu t h).ok (R.ch t h) hw (R.ok hw k0 t (by omega))
theorem Run.sol (R : Run m n w K F r c) {x : Nat → Rat} : ∀ t, t ≤ K → (Sol m (n + 1) (F t).T x ↔ Sol m (n + 1) (F 0).T x)
  | 0, _ => Iff.rfl
  | t + 1, h => ((R.tu t h).sol (R.ch t h).rm (by have := (R.ch t h).pos; grind)).trans (R.sol t (by omega))
theorem Run.ev (R : Run m n w K F r c) {x : Nat → Rat} (hx : Sol m (n + 1) (F 0).T x) : ∀ t, t ≤ K → ev (n + 1) (F t).o x = ev (n + 1) (F 0).o x
  | 0, _ => rfl
  | t + 1, h => ((R.tu t h).ev (R.ch t h).rm ((R.sol t (by omega)).mpr hx)).trans (R.ev hx t (by omega))
/-- the goal's value of the way to the limits' column -/
theorem ev_n {C : Cfg} (k : CfgOk m n C) {x : Nat → Rat} (h1 : x n = 1) (h0 : ∀ j, j < n → (∀ i, i < m → C.b i ≠ j) → x j = 0) : ev (n + 1) C.o x = C.o n := by
  show sm (n + 1) _ = _
  rw [sm_one (i := n) (by omega) fun j hj hn => ?_, h1]
  · grind
  · by_cases e : ∃ i, i < m ∧ C.b i = j
    · obtain ⟨i, hi, rfl⟩ := e
      rw [k.z i hi]; grind
    · rw [h0 j (by omega) fun i hi z => e ⟨i, hi, z⟩]; grind
theorem dirv_n {C : Cfg} (k : CfgOk m n C) : Sol m (n + 1) C.T (dirv m C.T C.b n) ∧ ev (n + 1) C.o (dirv m C.T C.b n) = C.o n := by
  have hb : ∀ i, i < m → C.b i ≠ n := fun i hi => Nat.ne_of_lt (k.B.lt i hi)
  exact ⟨dirv_sol k.B (by omega) (by omega) hb, ev_n k dirv_j fun j hj h => dirv_0 (Nat.ne_of_lt hj) h⟩
/-- back at the same basis: the goal's value was never raised, so all leading rows' limits are nought -/
theorem Run.flat (R : Run m n w K F r c) (hw : w ≤ n) (k0 : CfgOk m n (F 0)) (hb : ∀ i, i < m → (F K).b i = (F 0).b i) : ∀ t, t < K → (F t).T (r t) n = 0 := by
  have up : ∀ t, t < K → (F t).o n ≤ (F (t + 1)).o n ∧ ((F t).T (r t) n ≠ 0 → (F t).o n < (F (t + 1)).o n) := fun t ht => by
    have C := R.ch t ht
    have e := (R.tu t ht).o n (by omega)
    have f := (R.ok hw k0 t (by omega)).f (r t) C.rm
    have g := rat_div_nonneg f C.pos
    have hp := C.pos
    have neg := C.neg
    have p : 0 ≤ (-(F t).o (c t)) * ((F t).T (r t) n / (F t).T (r t) (c t)) := Rat.mul_nonneg (by grind) g
    refine ⟨by grind, fun h0 => ?_⟩
    have g2 : 0 < (F t).T (r t) n / (F t).T (r t) (c t) := by
      rw [Rat.div_def]
      exact Rat.mul_pos (by grind) (Rat.inv_pos.mpr hp)
    have p2 : 0 < (-(F t).o (c t)) * ((F t).T (r t) n / (F t).T (r t) (c t)) := Rat.mul_pos (by grind) g2
    grind
  have mono : ∀ a t, a ≤ t → t ≤ K → (F a).o n ≤ (F t).o n := fun a t => by
    induction t with
    | zero => intro h _; rw [Nat.le_zero.mp h]; exact Rat.le_refl
    | succ t ih =>
      intro h1 h2
      by_cases e : a = t + 1
      · rw [e]; exact Rat.le_refl
      · exact Rat.le_trans (ih (by omega) (by omega)) (up t (by omega)).1
  have kK := R.ok hw k0 K (Nat.le_refl _)
  have same : (F K).o n = (F 0).o n := by
    obtain ⟨s1, e1⟩ := dirv_n k0
    have e2 := R.ev s1 K (Nat.le_refl _)
    rw [e1] at e2
    rw [← e2]
    refine (ev_n kK dirv_j fun j hj h => dirv_0 (Nat.ne_of_lt hj) fun i hi z => h i hi ((hb i hi).trans z)).symm
  intro t ht
  refine Classical.byContradiction fun h => ?_
  have a1 := mono 0 t (Nat.zero_le _) (by omega)
  have a2 := (up t ht).2 h
  have a3 := mono (t + 1) K (by omega) (Nat.le_refl _)
  grind
theorem Run.lims (R : Run m n w K F r c) (hz : ∀ t, t < K → (F t).T (r t) n = 0) : ∀ t, t ≤ K → ∀ i, i < m → (F t).T i n = (F 0).T i n
  | 0, _, _, _ => rfl
  | t + 1, h, i, hi => by
    rw [(R.tu t h).T i n hi (by omega), ← R.lims hz t (by omega) i hi]
    have z := hz t h
    by_cases e : i = r t
    · subst e
      rw [piv_r, z]; grind
    · rw [piv_i e, z]; grind
/-- in the basis -/
def InB (m : Nat) (C : Cfg) (j : Nat) : Prop := ∃ i, i < m ∧ C.b i = j
theorem Run.stay (R : Run m n w K F r c) {j : Nat} {a : Nat} (ha : InB m (F a) j) : ∀ t, a ≤ t → t ≤ K → (∀ s, a ≤ s → s < t → (F s).b (r s) ≠ j) → InB m (F t) j := fun t => by
  induction t with
  | zero => intro h1 _ _; rw [← Nat.le_zero.mp h1]; exact ha
  | succ t ih =>
    intro h1 h2 h
    by_cases e : a = t + 1
    · rw [← e]; exact ha
    · obtain ⟨i, hi, hj⟩ := ih (by omega) (by omega) fun s a b => h s a (by omega)
      have hne := h t (by omega) (by omega)
      exact ⟨i, hi, by rw [(R.tu t (by omega)).b i hi, if_neg (fun z => hne (by rw [← z]; exact hj))]; exact hj⟩
theorem Run.out (R : Run m n w K F r c) {j : Nat} {a : Nat} (ha : ¬ InB m (F a) j) : ∀ t, a ≤ t → t ≤ K → (∀ s, a ≤ s → s < t → c s ≠ j) → ¬ InB m (F t) j := fun t => by
  induction t with
  | zero => intro h1 _ _; rw [← Nat.le_zero.mp h1]; exact ha
  | succ t ih =>
    intro h1 h2 h
    by_cases e : a = t + 1
    · rw [← e]; exact ha
    · have q := ih (by omega) (by omega) fun s a b => h s a (by omega)
      rintro ⟨i, hi, hj⟩
      rw [(R.tu t (by omega)).b i hi] at hj
      by_cases z : i = r t
      · rw [if_pos z] at hj
        exact h t (by omega) (by omega) hj
      · rw [if_neg z] at hj
        exact q ⟨i, hi, hj⟩
theorem Run.fixed (R : Run m n w K F r c) {i : Nat} (hi : i < m) (h : ∀ s, s < K → r s ≠ i) : ∀ t, t ≤ K → (F t).b i = (F 0).b i
  | 0, _ => rfl
  | t + 1, ht => by rw [(R.tu t ht).b i hi, if_neg (fun z => h t ht z.symm)]; exact R.fixed hi h t (by omega)
theorem sm_neg : ∀ {n : Nat} {f : Nat → Rat}, sm n f < 0 → ∃ k, k < n ∧ f k < 0
  | 0, f, h => by rw [sm] at h; exact absurd h (by decide)
  | n + 1, f, h => by
    rw [sm] at h
    by_cases e : f n < 0
    · exact ⟨n, by omega, e⟩
    · obtain ⟨k, hk, h'⟩ := sm_neg (n := n) (f := f) (by grind)
      exact ⟨k, by omega, h'⟩
theorem max_ex {P : Nat → Prop} {f : Nat → Nat} : ∀ K, 0 < K → ∃ t, t < K ∧ ∀ s, s < K → f s ≤ f t
  | 0, h => absurd h (Nat.lt_irrefl _)
  | K + 1, _ => by
    by_cases e : K = 0
    · subst e
      exact ⟨0, by omega, fun s hs => by rw [show s = 0 by omega]; exact Nat.le_refl _⟩
    · obtain ⟨t, ht, h⟩ := max_ex (P := P) (f := f) K (by omega)
      by_cases q : f t ≤ f K
      · exact ⟨K, by omega, fun s hs => by
          by_cases z : s = K
          · rw [z]; exact Nat.le_refl _
          · exact Nat.le_trans (h s (by omega)) q⟩
      · exact ⟨t, by omega, fun s hs => by
          by_cases z : s = K
          · rw [z]; omega
          · exact h s (by omega)⟩
/-- no run comes back to the basis it started from -/
theorem bland (R : Run m n w K F r c) (hw : w ≤ n) (k0 : CfgOk m n (F 0)) (hK : 0 < K) (hb : ∀ i, i < m → (F K).b i = (F 0).b i) : False := by
  have ok := R.ok hw k0
  have hz := R.flat hw k0 hb
  have hl := R.lims hz
  obtain ⟨ts, hts, hmax⟩ := max_ex (P := fun _ => True) (f := c) K hK
  have back : ∀ j, InB m (F K) j ↔ InB m (F 0) j := fun j => ⟨fun ⟨i, hi, e⟩ => ⟨i, hi, by rw [← hb i hi]; exact e⟩, fun ⟨i, hi, e⟩ => ⟨i, hi, by rw [hb i hi]; exact e⟩⟩
  have nonb : ∀ t, t ≤ K → ∀ j, (F t).o j ≠ 0 → ¬ InB m (F t) j := fun t ht j h ⟨i, hi, e⟩ => h (e ▸ (ok t ht).z i hi)
  have cts := R.ch ts hts
  have ntv : ¬ InB m (F ts) (c ts) := nonb ts (by omega) _ (by have := cts.neg; grind)
  -- the greatest part that comes in goes out somewhere
  have hout : ∃ u, u < K ∧ (F u).b (r u) = c ts := Classical.byContradiction fun hno => by
    have hno' : ∀ s, s < K → (F s).b (r s) ≠ c ts := fun s hs e => hno ⟨s, hs, e⟩
    have i1 : InB m (F (ts + 1)) (c ts) := ⟨r ts, cts.rm, by rw [(R.tu ts hts).b _ cts.rm, if_pos rfl]⟩
    have i2 := R.stay i1 K (by omega) (Nat.le_refl _) fun s _ h => hno' s h
    exact ntv (R.stay ((back _).mp i2) ts (Nat.zero_le _) (by omega) fun s _ h => hno' s (by omega))
  obtain ⟨u, hu, eu⟩ := hout
  have cu := R.ch u hu
  have ku := ok u (by omega)
  have su : c u < n + 1 := by have := cu.cw; omega
  have hnb : ∀ i, i < m → (F u).b i ≠ c u := fun i hi e => by
    have := ku.z i hi
    rw [e] at this
    have := cu.neg
    grind
  have ds := dirv_sol ku.B (N := n + 1) (by omega) su hnb
  have ds0 := (R.sol u (by omega)).mp ds
  have e1 := R.ev ds0 u (by omega)
  have e2 := R.ev ds0 ts (by omega)
  have e3 : ev (n + 1) (F u).o (dirv m (F u).T (F u).b (c u)) = (F u).o (c u) := by
    show sm (n + 1) _ = _
    rw [sm_one su fun j hj hn => ?_, dirv_j]
    · grind
    · by_cases e : ∃ i, i < m ∧ (F u).b i = j
      · obtain ⟨i, hi, rfl⟩ := e
        rw [ku.z i hi]; grind
      · rw [dirv_0 hn fun i hi z => e ⟨i, hi, z⟩]; grind
  have hneg : sm (n + 1) (fun j => (F ts).o j * dirv m (F u).T (F u).b (c u) j) < 0 := by
    have : ev (n + 1) (F ts).o (dirv m (F u).T (F u).b (c u)) = (F u).o (c u) := by rw [e2, ← e1, e3]
    show ev (n + 1) (F ts).o _ < 0
    rw [this]
    exact cu.neg
  obtain ⟨j, hj, hjn⟩ := sm_neg hneg
  have o0 : (F ts).o j ≠ 0 := fun z => by rw [z] at hjn; grind
  have d0 : dirv m (F u).T (F u).b (c u) j ≠ 0 := fun z => by rw [z] at hjn; grind
  have nbj := nonb ts (by omega) j o0
  by_cases ej : j = c u
  · subst ej
    rw [dirv_j] at hjn
    have h1 : (F ts).o (c u) < 0 := by grind
    have h2 := hmax u hu
    have h3 : c u ≠ c ts := fun z => hnb (r u) cu.rm (eu.trans z.symm)
    have h4 := cts.first (c u) (by omega)
    grind
  · have hex : InB m (F u) j := Classical.byContradiction fun h => d0 (dirv_0 ej fun i hi z => h ⟨i, hi, z⟩)
    obtain ⟨i, hi, rfl⟩ := hex
    rw [dirv_b ku.B hi ej] at hjn
    -- it comes in somewhere, so it is not above
    have hin : ∃ s, s < K ∧ c s = (F u).b i := Classical.byContradiction fun hno => by
      have hno' : ∀ s, s < K → c s ≠ (F u).b i := fun s hs e => hno ⟨s, hs, e⟩
      have i1 := R.out nbj K (by omega) (Nat.le_refl _) fun s _ h => hno' s h
      exact R.out (fun z => i1 ((back _).mpr z)) u (Nat.zero_le _) (by omega) (fun s _ h => hno' s (by omega)) ⟨i, hi, rfl⟩
    obtain ⟨s, hs, es⟩ := hin
    have hle := hmax s hs
    rw [es] at hle
    -- its row was turned
    have hrow : ∃ s, s < K ∧ r s = i := Classical.byContradiction fun hno => by
      have hno' : ∀ s, s < K → r s ≠ i := fun s hs e => hno ⟨s, hs, e⟩
      have f1 := R.fixed hi hno' u (by omega)
      have f2 := R.fixed hi hno' ts (by omega)
      exact nbj ⟨i, hi, by rw [f2, f1]⟩
    obtain ⟨s2, hs2, es2⟩ := hrow
    have l0 : (F u).T i n = 0 := by
      rw [hl u (by omega) i hi, ← hl s2 (by omega) i hi, ← es2]
      exact hz s2 hs2
    have lr := hz u hu
    have pos := cu.pos
    by_cases ev' : (F u).b i = c ts
    · have ei : i = r u := ku.B.inj hi cu.rm (ev'.trans eu.symm)
      subst ei
      rw [ev'] at hjn
      have ng := cts.neg
      have := Rat.mul_pos (a := -(F ts).o (c ts)) (b := (F u).T (r u) (c u)) (by grind) pos
      grind
    · have h4 := cts.first ((F u).b i) (by omega)
      have hp : 0 < (F u).T i (c u) := Classical.byContradiction fun h => by
        have := Rat.mul_nonneg (a := (F ts).o ((F u).b i)) (b := -(F u).T i (c u)) h4 (by grind)
        grind
      rcases cu.least i hi hp with l | ⟨_, l⟩
      · rw [l0, lr] at l
        have a1 : (0 : Rat) / (F u).T (r u) (c u) = 0 := by grind
        have a2 : (0 : Rat) / (F u).T i (c u) = 0 := by grind
        rw [a1, a2] at l
        exact absurd l (by decide)
      · rw [eu] at l
        omega
end

/-! ### so it ends -/
def enc (n : Nat) (b : Nat → Nat) : Nat → Nat
  | 0 => 0
  | m + 1 => enc n b m * n + b m
theorem enc_lt {n : Nat} {b : Nat → Nat} : ∀ {m : Nat}, (∀ i, i < m → b i < n) → enc n b m < n ^ m
  | 0, _ => by rw [enc, Nat.pow_zero]; omega
  | m + 1, h => by
    have h1 := enc_lt (n := n) (b := b) (m := m) fun i hi => h i (by omega)
    have h2 := h m (by omega)
    rw [enc, Nat.pow_succ]
    have h3 : (enc n b m + 1) * n ≤ n ^ m * n := Nat.mul_le_mul_right n h1
    rw [Nat.add_mul] at h3
    omega
theorem enc_inj {n : Nat} {b d : Nat → Nat} : ∀ {m : Nat}, (∀ i, i < m → b i < n) → (∀ i, i < m → d i < n) → enc n b m = enc n d m → ∀ i, i < m → b i = d i
  | 0, _, _, _, i, hi => absurd hi (Nat.not_lt_zero _)
  | m + 1, hb, hd, e, i, hi => by
    rw [enc, enc] at e
    have b1 := hb m (by omega)
    have d1 := hd m (by omega)
    have n0 : 0 < n := by omega
    have e1 : enc n b m = enc n d m := by
      have q : (enc n b m * n + b m) / n = (enc n d m * n + d m) / n := by rw [e]
      rw [Nat.mul_comm, Nat.mul_add_div n0, Nat.div_eq_of_lt b1, Nat.mul_comm, Nat.mul_add_div n0, Nat.div_eq_of_lt d1] at q
      omega
    have e2 : b m = d m := by
      rw [e1] at e
      omega
    by_cases z : i = m
    · rw [z]; exact e2
    · exact enc_inj (fun i hi => hb i (by omega)) (fun i hi => hd i (by omega)) e1 i (by omega)
theorem nat_pigeon {N : Nat} {f : Nat → Nat} : ∀ K, (∀ t, t < K → f t < N) → (∀ s t, s < t → t < K → f s ≠ f t) → K ≤ N := by
  induction N generalizing f with
  | zero => intro K h _; rcases K with _ | K; exact Nat.le_refl _; exact absurd (h 0 (by omega)) (Nat.not_lt_zero _)
  | succ N ih =>
    intro K h hne
    rcases K with _ | K
    · omega
    · -- give the place of the last one's to the one that has N
      have := ih (f := fun t => if f t = N then f K else f t) K (fun t ht => by
        show (if f t = N then f K else f t) < N
        have h1 := h t (by omega)
        have h2 := h K (by omega)
        by_cases e : f t = N
        · rw [if_pos e]
          have := hne t K ht (by omega)
          omega
        · rw [if_neg e]; omega) (fun s t hst ht => by
        show (if f s = N then f K else f s) ≠ (if f t = N then f K else f t)
        have a := hne s t hst (by omega)
        have b := hne s K (by omega) (by omega)
        have d := hne t K (by omega) (by omega)
        by_cases e : f s = N <;> by_cases e' : f t = N
        · omega
        · rw [if_pos e, if_neg e']; omega
        · rw [if_neg e, if_pos e']; omega
        · rw [if_neg e, if_neg e']; exact a)
      omega
theorem Run.shift {m n w K : Nat} {F : Nat → Cfg} {r c : Nat → Nat} (R : Run m n w K F r c) {a L : Nat} (h : a + L ≤ K) : Run m n w L (fun t => F (a + t)) (fun t => r (a + t)) (fun t => c (a + t)) :=
  ⟨fun t ht => R.ch (a + t) (by omega), fun t ht => R.tu (a + t) (by omega)⟩
theorem run_few {m n w K : Nat} {F : Nat → Cfg} {r c : Nat → Nat} (R : Run m n w K F r c) (hw : w ≤ n) (k0 : CfgOk m n (F 0)) : K < n ^ m := by
  have ok := R.ok hw k0
  refine nat_pigeon (f := fun t => enc n (F t).b m) (K + 1) (fun t ht => enc_lt fun i hi => (ok t (by omega)).B.lt i hi) (fun s t hst ht e => ?_)
  have e' := enc_inj (fun i hi => (ok s (by omega)).B.lt i hi) (fun i hi => (ok t (by omega)).B.lt i hi) e
  exact bland (R.shift (a := s) (L := t - s) (by omega)) hw (ok s (by omega)) (by omega) fun i hi => by
    show (F (s + (t - s))).b i = (F (s + 0)).b i
    rw [show s + (t - s) = t by omega]
    exact (e' i hi).symm
theorem run_zero {m n w : Nat} {C : Cfg} : Run m n w 0 (fun _ => C) (fun _ => 0) (fun _ => 0) := ⟨fun t h => absurd h (Nat.not_lt_zero _), fun t h => absurd h (Nat.not_lt_zero _)⟩
theorem run_add {m n w K r0 c0 : Nat} {F : Nat → Cfg} {r c : Nat → Nat} {D : Cfg} (R : Run m n w K F r c) (h : Chosen m n w (F K) r0 c0) (t : Turned m (n + 1) (F K) D r0 c0) :
    Run m n w (K + 1) (fun s => if s ≤ K then F s else D) (fun s => if s < K then r s else r0) (fun s => if s < K then c s else c0) := by
  refine ⟨fun s hs => ?_, fun s hs => ?_⟩
  · by_cases e : s < K
    · simp only [if_pos (show s ≤ K by omega), if_pos e]
      exact R.ch s e
    · have : s = K := by omega
      subst this
      simp only [if_pos (Nat.le_refl s), if_neg (Nat.lt_irrefl s)]
      exact h
  · by_cases e : s < K
    · simp only [if_pos (show s ≤ K by omega), if_pos e, if_pos (show s + 1 ≤ K by omega)]
      exact R.tu s e
    · have : s = K := by omega
      subst this
      simp only [if_pos (Nat.le_refl s), if_neg (Nat.lt_irrefl s), if_neg (show ¬ s + 1 ≤ s by omega)]
      exact t
end SB
/-! how great a sheet's numbers can be: each basis is some turns away from the first; plain -/
namespace SB
theorem fr_ne {D : Int} (h : D ≠ 0) : (D : Rat) ≠ 0 := fun z => h (by exact_mod_cast z)
theorem Fr.mono {D : Int} {k l : Nat} {q : Rat} (h : Fr D k q) (e : k ≤ l) : Fr D l q := by
  obtain ⟨M, h1, h2⟩ := h
  exact ⟨M, Nat.lt_of_lt_of_le h1 (Nat.pow_le_pow_right (by decide) e), h2⟩
/-- all of a sheet's numbers have the denominator D, their numerators are below 2 ^ k -/
structure FrS (m N : Nat) (D : Int) (k : Nat) (T : Nat → Nat → Rat) : Prop where
  ne : D ≠ 0
  lt : D.natAbs < 2 ^ k
  fr : ∀ i j, i < m → j < N → Fr D k (T i j)
theorem FrS.mono {m N : Nat} {D : Int} {k l : Nat} {T : Nat → Nat → Rat} (h : FrS m N D k T) (e : k ≤ l) : FrS m N D l T :=
  ⟨h.ne, Nat.lt_of_lt_of_le h.lt (Nat.pow_le_pow_right (by decide) e), fun i j hi hj => (h.fr i j hi hj).mono e⟩
theorem frs_piv {m N : Nat} {D : Int} {k : Nat} {T : Nat → Nat → Rat} {r c : Nat} (h : FrS m N D k T) (hr : r < m) (hc : c < N) (h0 : T r c ≠ 0) : ∃ D', FrS m N D' (2 * k + 1) (piv T r c) := by
  obtain ⟨P, hP, eP⟩ := h.fr r c hr hc
  have hD := fr_ne h.ne
  have hP0 : P ≠ 0 := fun z => by
    rw [z] at eP
    have : (T r c) * (D : Rat) = 0 := by rw [eP]; rfl
    rcases Rat.mul_eq_zero.mp this with q | q
    · exact h0 q
    · exact hD q
  have hPr := fr_ne hP0
  have hlt : (D * P).natAbs < 2 ^ (k + k) := mul_lt2 h.lt hP
  refine ⟨D * P, Int.mul_ne_zero h.ne hP0, Nat.lt_of_lt_of_le hlt (Nat.pow_le_pow_right (by decide) (by omega)), fun i j hi hj => ?_⟩
  obtain ⟨A, hA, eA⟩ := h.fr r j hr hj
  by_cases e : i = r
  · subst e
    rw [piv_r]
    refine ⟨A * D, Nat.lt_of_lt_of_le (mul_lt2 hA h.lt) (Nat.pow_le_pow_right (by decide) (by omega)), ?_⟩
    rw [Rat.intCast_mul, Rat.intCast_mul]
    grind
  · rw [piv_i e]
    obtain ⟨B, hB, eB⟩ := h.fr i j hi hj
    obtain ⟨C, hC, eC⟩ := h.fr i c hi hc
    refine ⟨B * P - C * A, Nat.lt_of_lt_of_le (sub_lt2 (mul_lt2 hB hP) (mul_lt2 hC hA)) (Nat.pow_le_pow_right (by decide) (by omega)), ?_⟩
    rw [Rat.intCast_mul, Rat.intCast_sub, Rat.intCast_mul, Rat.intCast_mul]
    have e3 : T r j / T r c = (A : Rat) / (P : Rat) := by grind
    rw [e3]
    grind
theorem exch {m n N : Nat} {T U : Nat → Nat → Rat} {b d : Nat → Nat} (B : IsBas m n T b) (D : IsBas m n U d) (hN : n ≤ N) (hs : ∀ x, Sol m N T x → Sol m N U x) {k : Nat} (hk : k < m) (hc : ∀ i, i < m → b i ≠ d k) :
    ∃ r, r < m ∧ (∀ i, i < m → d i ≠ b r) ∧ T r (d k) ≠ 0 := by
  refine Classical.byContradiction fun hno => ?_
  have hd := D.lt k hk
  have s := hs _ (dirv_sol B hN (show d k < N by omega) hc) k hk
  rw [sm_one (i := d k) (by omega) fun j hj hn => ?_, dirv_j, D.unit k k hk hk, if_pos rfl] at s
  · grind
  · by_cases h : ∃ i, i < m ∧ d i = j
    · obtain ⟨i, hi, rfl⟩ := h
      rw [D.unit i k hi hk, if_neg (fun e => hn (by rw [e]))]
      grind
    · have hz : dirv m T b (d k) j = 0 := by
        by_cases h2 : ∃ r, r < m ∧ b r = j
        · obtain ⟨r, hr, rfl⟩ := h2
          rw [dirv_b B hr (hc r hr)]
          have : T r (d k) = 0 := Classical.byContradiction fun q => hno ⟨r, hr, fun i hi e => h ⟨i, hi, e⟩, q⟩
          rw [this]
          rfl
        · exact dirv_0 hn fun i hi e => h2 ⟨i, hi, e⟩
      rw [hz]
      grind
theorem reach {m n N : Nat} {T U : Nat → Nat → Rat} {b d : Nat → Nat} {D0 : Int} {k0 : Nat} (B : IsBas m n T b) (D : IsBas m n U d) (hN : n ≤ N) (hs : ∀ x, Sol m N T x → Sol m N U x) (h : FrS m N D0 k0 T) :
    ∀ t, t ≤ m → ∃ T' b' D' k', IsBas m n T' b' ∧ (∀ x, Sol m N T' x ↔ Sol m N T x) ∧ (∀ i, i < t → ∃ r, r < m ∧ b' r = d i) ∧ FrS m N D' k' T' ∧ k' + 1 ≤ 2 ^ t * (k0 + 1)
  | 0, _ => ⟨T, b, D0, k0, B, fun _ => Iff.rfl, fun i hi => absurd hi (Nat.not_lt_zero _), h, by rw [Nat.pow_zero, Nat.one_mul]; exact Nat.le_refl _⟩
  | t + 1, ht => by
    obtain ⟨T', b', D', k', B', hs', hin, hf, hk⟩ := reach B D hN hs h t (by omega)
    have hp : 2 ^ (t + 1) * (k0 + 1) = 2 * (2 ^ t * (k0 + 1)) := by rw [Nat.pow_succ]; grind
    by_cases hc : ∃ r, r < m ∧ b' r = d t
    · refine ⟨T', b', D', k', B', hs', fun i hi => ?_, hf, by omega⟩
      by_cases e : i = t
      · subst e; exact hc
      · exact hin i (by omega)
    · have hc' : ∀ i, i < m → b' i ≠ d t := fun i hi e => hc ⟨i, hi, e⟩
      obtain ⟨r, hr, hrd, h0⟩ := exch B' D hN (fun x hx => hs x ((hs' x).mp hx)) (show t < m by omega) hc'
      have hdt := D.lt t (by omega)
      obtain ⟨D2, hf2⟩ := frs_piv hf hr (show d t < N by omega) h0
      refine ⟨_, _, D2, 2 * k' + 1, piv_bas B' hr hdt h0, fun x => (piv_sol hr h0).trans (hs' x), fun i hi => ?_, hf2, by omega⟩
      by_cases e : i = t
      · subst e
        exact ⟨r, hr, if_pos rfl⟩
      · obtain ⟨q, hq, eq⟩ := hin i (by omega)
        refine ⟨q, hq, ?_⟩
        show (if q = r then d t else b' q) = d i
        rw [if_neg]
        · exact eq
        · intro z
          subst z
          exact hrd i (by omega) eq.symm
/-- what all sheets' numbers stay below -/
theorem sheet_fr {m n N : Nat} {T U : Nat → Nat → Rat} {b d : Nat → Nat} {D0 : Int} {k0 : Nat} (B : IsBas m n T b) (D : IsBas m n U d) (hN : n ≤ N) (hs : ∀ x, Sol m N T x ↔ Sol m N U x) (h : FrS m N D0 k0 T) :
    ∃ D' k', k' + 1 ≤ 2 ^ m * (k0 + 1) ∧ FrS m N D' k' U := by
  obtain ⟨T', b', D', k', B', hs', hin, hf, hk⟩ := reach B D hN (fun x => (hs x).mp) h m (Nat.le_refl _)
  have hall : ∀ i, i < m → ∃ z, z < m ∧ d z = b' i := fun i hi => by
    refine Classical.byContradiction fun hno => ?_
    obtain ⟨f, hf'⟩ : ∃ f : Nat → Nat, ∀ z, z < m → f z < m ∧ b' (f z) = d z := ⟨fun z => if q : z < m then Classical.choose (hin z q) else 0, fun z hz => by
      simp only [hz, dite_true]
      exact Classical.choose_spec (hin z hz)⟩
    have := nat_pigeon (N := m) (f := fun z => if z < m then f z else i) (m + 1) (fun t ht => by
      show (if t < m then f t else i) < m
      by_cases q : t < m
      · rw [if_pos q]; exact (hf' t q).1
      · rw [if_neg q]; exact hi) (fun s t hst ht e => by
      have hs' : s < m := by omega
      simp only [if_pos hs'] at e
      by_cases q : t < m
      · rw [if_pos q] at e
        have e2 : d s = d t := by rw [← (hf' s hs').2, ← (hf' t q).2, e]
        have := D.inj hs' q e2
        omega
      · rw [if_neg q] at e
        exact hno ⟨s, hs', by rw [← (hf' s hs').2, e]⟩)
    omega
  refine ⟨D', k', hk, hf.ne, hf.lt, fun i j hi hj => ?_⟩
  obtain ⟨z, hz, e⟩ := hin i hi
  have := bas_one B' D hN (fun x hx => (hs x).mp ((hs' x).mp hx)) hall hin hz hi e hj
  rw [← this]
  exact hf.fr z j hz hj
/-- a row that has been taken out of by rows -/
theorem fr_row {m N : Nat} {D0 D : Int} {k0 k : Nat} {U : Nat → Nat → Rat} {o g : Nat → Rat} (hU : FrS m N D k U) (h0 : D0 ≠ 0) (ho : ∀ j, j < N → Fr D0 k0 (o j)) (hg : ∀ i, i < m → Fr D0 k0 (g i)) {j : Nat} (hj : j < N) (hd : D.natAbs < 2 ^ k) :
    ∀ t, t ≤ m → Fr (D0 * D) (k0 + k + t) (o j - sm t fun i => g i * U i j)
  | 0, _ => by
    obtain ⟨A, hA, eA⟩ := ho j hj
    refine ⟨A * D, show _ < 2 ^ (k0 + k) from mul_lt2 hA hd, ?_⟩
    rw [sm, Rat.intCast_mul, Rat.intCast_mul]
    grind
  | t + 1, ht => by
    obtain ⟨A, hA, eA⟩ := fr_row hU h0 ho hg hj hd t (by omega)
    obtain ⟨B, hB, eB⟩ := hU.fr t j (by omega) hj
    obtain ⟨G, hG, eG⟩ := hg t (by omega)
    refine ⟨A - G * B, ?_, ?_⟩
    · have := sub_lt2 hA (b := G * B) (Nat.lt_of_lt_of_le (mul_lt2 hG hB) (Nat.pow_le_pow_right (by decide) (by omega)))
      exact this
    · rw [sm, Rat.intCast_sub, Rat.intCast_mul]
      rw [Rat.intCast_mul] at eA ⊢
      grind
end SB
/-! from sheets to reasons; plain -/
namespace SB
theorem sm_split {a : Nat} {f : Nat → Rat} : ∀ {b : Nat}, sm (a + b) f = sm a f + sm b fun k => f (a + k)
  | 0 => by rw [Nat.add_zero, sm]; grind
  | b + 1 => by rw [← Nat.add_assoc, sm, sm, sm_split (b := b)]; grind
theorem sm_nonneg : ∀ {n : Nat} {f : Nat → Rat}, (∀ k, k < n → 0 ≤ f k) → 0 ≤ sm n f
  | 0, f, _ => by rw [sm]; exact Rat.le_refl
  | n + 1, f, h => by
    have h1 := sm_nonneg (n := n) (f := f) fun k hk => h k (by omega)
    have h2 := h n (by omega)
    rw [sm]
    grind
theorem sm_all0 : ∀ {n : Nat} {f : Nat → Rat}, (∀ k, k < n → 0 ≤ f k) → sm n f ≤ 0 → ∀ k, k < n → f k = 0
  | 0, f, _, _, k, hk => absurd hk (Nat.not_lt_zero _)
  | n + 1, f, h, hs, k, hk => by
    have h1 := sm_nonneg (n := n) (f := f) fun k hk => h k (by omega)
    have h2 := h n (by omega)
    rw [sm] at hs
    by_cases e : k = n
    · subst e; grind
    · exact sm_all0 (n := n) (f := f) (fun k hk => h k (by omega)) (by grind) k (by omega)
/-- a row without the basis' columns -/
def offRow (m : Nat) (T : Nat → Nat → Rat) (b : Nat → Nat) (o : Nat → Rat) (t : Nat) : Nat → Rat := fun j => o j - sm t fun i => o (b i) * T i j
section
variable {m n : Nat} {T : Nat → Nat → Rat} {b : Nat → Nat} {o o' : Nat → Rat}
theorem off_share (B : IsBas m n T b) {t : Nat} (ht : t < m) : offRow m T b o t (b t) = o (b t) := by
  unfold offRow
  rw [sm_zero fun k hk => ?_]
  · grind
  · rw [B.unit t k ht (by omega), if_neg (by omega)]
    grind
theorem off_step {t j : Nat} : offRow m T b o (t + 1) j = offRow m T b o t j - o (b t) * T t j := by
  unfold offRow
  rw [sm]
  grind
theorem off_zero {j : Nat} : offRow m T b o 0 j = o j := by
  unfold offRow
  rw [sm]
  grind
theorem off_bas (B : IsBas m n T b) {i : Nat} (hi : i < m) : offRow m T b o m (b i) = 0 := by
  unfold offRow
  rw [sm_one hi fun k hk hn => ?_, B.unit i i hi hi, if_pos rfl]
  · grind
  · rw [B.unit i k hi hk, if_neg hn]
    grind
theorem off_ev {N : Nat} {x : Nat → Rat} (hx : Sol m N T x) : ∀ t, t ≤ m → ev N (offRow m T b o t) x = ev N o x
  | 0, _ => sm_congr fun j _ => by rw [off_zero]
  | t + 1, ht => by
    rw [← off_ev hx t (by omega)]
    have e : ev N (offRow m T b o (t + 1)) x = ev N (offRow m T b o t) x - o (b t) * sm N (fun j => T t j * x j) := by
      rw [← sm_mul, ← sm_sub]
      exact sm_congr fun j _ => by rw [off_step]; grind
    rw [e, hx t (by omega)]
    grind
/-- the goal's row is told by the sheet -/
theorem goal_one {N : Nat} (B : IsBas m n T b) (hN : n ≤ N) (z : ∀ i, i < m → o' (b i) = 0) (he : ∀ x, Sol m N T x → ev N o' x = ev N o x) {j : Nat} (hj : j < N) : o' j = offRow m T b o m j := by
  by_cases h : ∃ i, i < m ∧ b i = j
  · obtain ⟨i, hi, rfl⟩ := h
    rw [z i hi, off_bas B hi]
  · have hb : ∀ i, i < m → b i ≠ j := fun i hi e => h ⟨i, hi, e⟩
    have s := dirv_sol B hN hj hb
    have e := he _ s
    rw [← off_ev (b := b) (o := o) s m (Nat.le_refl _)] at e
    have ev1 : ∀ p : Nat → Rat, (∀ i, i < m → p (b i) = 0) → ev N p (dirv m T b j) = p j := fun p hp => by
      show sm N _ = _
      rw [sm_one hj fun k hk hn => ?_, dirv_j]
      · grind
      · by_cases q : ∃ i, i < m ∧ b i = k
        · obtain ⟨i, hi, rfl⟩ := q
          rw [hp i hi]; grind
        · rw [dirv_0 hn fun i hi w => q ⟨i, hi, w⟩]; grind
    rw [ev1 o' z, ev1 _ fun i hi => off_bas B hi] at e
    exact e
theorem goal_cfg {N : Nat} (B : IsBas m n T b) (hn : n < N) (f : ∀ i, i < m → 0 ≤ T i n) (h : ∀ j, j < N → o' j = offRow m T b o m j) : CfgOk m n ⟨T, b, o'⟩ ∧ ∀ x, Sol m N T x → ev N o' x = ev N o x :=
  ⟨⟨B, fun i hi => by
      show o' (b i) = 0
      rw [h _ (by have := B.lt i hi; omega)]
      exact off_bas B hi, f⟩, fun x hx => by
      rw [← off_ev (b := b) (o := o) hx m (Nat.le_refl _)]
      exact sm_congr fun j hj => by rw [h j hj]⟩
end

/-- the first sheet of a program -/
structure First (p m n : Nat) (A : Nat → Nat → Rat) (lim : Nat → Rat) (T : Nat → Nat → Rat) (b : Nat → Nat) (hc : Nat → Nat) : Prop where
  le : p + m ≤ n
  sol : ∀ x, Sol m (n + 1) T x ↔ ∀ k, k < m → x (p + k) + sm p (fun j => A k j * x j) + lim k * x n = if lim k < 0 then x (hc k) else 0
  hc : ∀ k, k < m → lim k < 0 → p + m ≤ hc k ∧ hc k < n
  bas : IsBas m n T b
  f : ∀ i, i < m → 0 ≤ T i n
def Feas (p m : Nat) (A : Nat → Nat → Rat) (lim x : Nat → Rat) : Prop := (∀ j, j < p → 0 ≤ x j) ∧ ∀ k, k < m → sm p (fun j => A k j * x j) ≤ lim k
def Pays (p m : Nat) (A : Nat → Nat → Rat) (g y : Nat → Rat) : Prop := (∀ k, k < m → 0 ≤ y k) ∧ ∀ j, j < p → g j ≤ sm m (fun k => A k j * y k)
section
variable {p m n : Nat} {A : Nat → Nat → Rat} {lim g : Nat → Rat} {T0 T : Nat → Nat → Rat} {b0 b hc : Nat → Nat} {o o0 : Nat → Rat}
theorem ev_parts (hn : p + m ≤ n) {o x : Nat → Rat} : ev (n + 1) o x = sm p (fun j => o j * x j) + sm m (fun k => o (p + k) * x (p + k)) + sm (n - (p + m)) (fun k => o (p + m + k) * x (p + m + k)) + o n * x n := by
  have e : n + 1 = (p + m + (n - (p + m))) + 1 := by omega
  show sm (n + 1) _ = _
  rw [e, sm, sm_split, sm_split]
  have e2 : p + m + (n - (p + m)) = n := by omega
  rw [e2]
theorem cert_col (F : First p m n A lim T0 b0 hc) (he : ∀ x, Sol m (n + 1) T0 x → ev (n + 1) o x = ev (n + 1) o0 x) (hz : ∀ k, k < m → o0 (p + k) = 0) {j : Nat} (hj : j < p) : sm m (fun k => A k j * o (p + k)) = o j - o0 j := by
  have hle := F.le
  obtain ⟨x, hx⟩ : ∃ x : Nat → Rat, x = fun i => if i = j then 1 else if p ≤ i ∧ i < p + m then - A (i - p) j else 0 := ⟨_, rfl⟩
  have xj : x j = 1 := by rw [hx]; exact if_pos rfl
  have x0 : ∀ i, i ≠ j → ¬ (p ≤ i ∧ i < p + m) → x i = 0 := fun i h1 h2 => by rw [hx]; simp only [if_neg h1, if_neg h2]
  have xk : ∀ k, k < m → x (p + k) = - A k j := fun k hk => by
    rw [hx]
    simp only [if_neg (show p + k ≠ j by omega), if_pos (show p ≤ p + k ∧ p + k < p + m by omega)]
    rw [show p + k - p = k by omega]
  have s : Sol m (n + 1) T0 x := (F.sol x).mpr fun k hk => by
    rw [xk k hk, x0 n (by omega) (by omega), sm_one hj fun i hi hn => by rw [x0 i hn (by omega)]; grind]
    rw [xj]
    split
    · rename_i hl
      obtain ⟨h1, h2⟩ := F.hc k hk hl
      rw [x0 _ (by omega) (by omega)]
      grind
    · grind
  have key : ∀ q : Nat → Rat, ev (n + 1) q x = q j - sm m (fun k => A k j * q (p + k)) := fun q => by
    rw [ev_parts hle, x0 n (by omega) (by omega), sm_one hj fun i hi hn => by rw [x0 i hn (by omega)]; grind]
    rw [xj, sm_zero (n := n - (p + m)) fun k hk => by rw [x0 (p + m + k) (by omega) (by omega)]; grind]
    have : sm m (fun k => q (p + k) * x (p + k)) = (-1) * sm m (fun k => A k j * q (p + k)) := by
      rw [← sm_mul]
      exact sm_congr fun k hk => by rw [xk k hk]; grind
    rw [this]
    grind
  have e := he x s
  rw [key, key, sm_zero (f := fun k => A k j * o0 (p + k)) fun k hk => by rw [hz k hk]; grind] at e
  grind
theorem cert_lim (F : First p m n A lim T0 b0 hc) (he : ∀ x, Sol m (n + 1) T0 x → ev (n + 1) o x = ev (n + 1) o0 x) (hz : ∀ k, k < m → o0 (p + k) = 0) : sm m (fun k => lim k * o (p + k)) = o n - o0 n := by
  have hle := F.le
  obtain ⟨x, hx⟩ : ∃ x : Nat → Rat, x = fun i => if i = n then -1 else if p ≤ i ∧ i < p + m then lim (i - p) else 0 := ⟨_, rfl⟩
  have xn : x n = -1 := by rw [hx]; exact if_pos rfl
  have x0 : ∀ i, i ≠ n → ¬ (p ≤ i ∧ i < p + m) → x i = 0 := fun i h1 h2 => by rw [hx]; simp only [if_neg h1, if_neg h2]
  have xk : ∀ k, k < m → x (p + k) = lim k := fun k hk => by
    rw [hx]
    simp only [if_neg (show p + k ≠ n by omega), if_pos (show p ≤ p + k ∧ p + k < p + m by omega)]
    rw [show p + k - p = k by omega]
  have s : Sol m (n + 1) T0 x := (F.sol x).mpr fun k hk => by
    rw [xk k hk, xn, sm_zero fun i hi => by rw [x0 i (by omega) (by omega)]; grind]
    split
    · rename_i hl
      obtain ⟨h1, h2⟩ := F.hc k hk hl
      rw [x0 _ (by omega) (by omega)]
      grind
    · grind
  have key : ∀ q : Nat → Rat, ev (n + 1) q x = sm m (fun k => lim k * q (p + k)) - q n := fun q => by
    rw [ev_parts hle, xn, sm_zero (n := p) fun i hi => by rw [x0 i (by omega) (by omega)]; grind]
    rw [sm_zero (n := n - (p + m)) fun k hk => by rw [x0 (p + m + k) (by omega) (by omega)]; grind]
    rw [sm_congr (g := fun k => lim k * q (p + k)) fun k hk => by rw [xk k hk]; grind]
    grind
  have e := he x s
  rw [key, key, sm_zero (f := fun k => lim k * o0 (p + k)) fun k hk => by rw [hz k hk]; grind] at e
  grind
/-- no parts at all -/
theorem none_ok (F : First p m n A lim T0 b0 hc) (he : ∀ x, Sol m (n + 1) T0 x → ev (n + 1) o x = ev (n + 1) o0 x) (hz : ∀ j, j < p + m → o0 j = 0) (hn : o0 n = 0) (ho : ∀ j, j < p + m → 0 ≤ o j) (h : o n < 0) :
    Pays p m A (fun _ => 0) (fun k => o (p + k)) ∧ sm m (fun k => lim k * o (p + k)) < 0 := by
  have hz' : ∀ k, k < m → o0 (p + k) = 0 := fun k hk => hz _ (by omega)
  refine ⟨⟨fun k hk => ho _ (by omega), fun j hj => ?_⟩, ?_⟩
  · rw [cert_col F he hz' hj, hz j (by omega)]
    have := ho j (by omega)
    grind
  · rw [cert_lim F he hz', hn]
    grind
/-- what the parts are -/
def basv (m : Nat) (T : Nat → Nat → Rat) (b : Nat → Nat) (n : Nat) : Nat → Rat := fun j => - dirv m T b n j
theorem basv_n : basv m T b n n = -1 := by unfold basv; rw [dirv_j]
theorem basv_b (B : IsBas m n T b) {i : Nat} (hi : i < m) : basv m T b n (b i) = T i n := by
  unfold basv
  rw [dirv_b B hi (by have := B.lt i hi; omega)]
  grind
theorem basv_0 {k : Nat} (hj : k ≠ n) (hk : ∀ i, i < m → b i ≠ k) : basv m T b n k = 0 := by
  unfold basv
  rw [dirv_0 hj hk]
  rfl
theorem basv_sol (B : IsBas m n T b) : Sol m (n + 1) T (basv m T b n) := fun i hi => by
  have := dirv_sol (N := n + 1) B (by omega) (Nat.lt_succ_self n) (fun i hi => by have := B.lt i hi; omega) i hi
  have e : sm (n + 1) (fun j => T i j * basv m T b n j) = (-1) * sm (n + 1) (fun j => T i j * dirv m T b n j) := by
    rw [← sm_mul]
    exact sm_congr fun j _ => by unfold basv; grind
  rw [e, this]
  grind
theorem basv_nonneg (B : IsBas m n T b) (f : ∀ i, i < m → 0 ≤ T i n) {j : Nat} (hj : j < n) : 0 ≤ basv m T b n j := by
  by_cases h : ∃ i, i < m ∧ b i = j
  · obtain ⟨i, hi, rfl⟩ := h
    rw [basv_b B hi]
    exact f i hi
  · rw [basv_0 (by omega) fun i hi e => h ⟨i, hi, e⟩]
    exact Rat.le_refl
theorem basv_ev (B : IsBas m n T b) (z : ∀ i, i < m → o (b i) = 0) : ev (n + 1) o (basv m T b n) = - o n := by
  show sm (n + 1) _ = _
  rw [sm_one (Nat.lt_succ_self n) fun j hj hn => ?_, basv_n]
  · grind
  · by_cases h : ∃ i, i < m ∧ b i = j
    · obtain ⟨i, hi, rfl⟩ := h
      rw [z i hi]; grind
    · rw [basv_0 hn fun i hi e => h ⟨i, hi, e⟩]; grind
/-- the first goal's end: no helping part has a worth -/
theorem help_zero {C : Cfg} (k : CfgOk m n C) (hle : p + m ≤ n) (he : ev (n + 1) C.o (basv m C.T C.b n) = ev (n + 1) o0 (basv m C.T C.b n)) (hz : ∀ j, j < p + m → o0 j = 0) (h1 : ∀ j, p + m ≤ j → j < n → o0 j = 1) (hn : o0 n = 0) (h : ¬ C.o n < 0)
    {i : Nat} (hi : i < m) (hb : p + m ≤ C.b i) : C.T i n = 0 := by
  have hlt := k.B.lt i hi
  rw [basv_ev k.B k.z, ev_parts hle, hn, sm_zero (n := p) fun j hj => by rw [hz j (by omega)]; grind] at he
  rw [sm_zero (n := m) fun j hj => by rw [hz (p + j) (by omega)]; grind] at he
  rw [sm_congr (n := n - (p + m)) (g := fun j => basv m C.T C.b n (p + m + j)) fun j hj => by rw [h1 (p + m + j) (by omega) (by omega)]; grind] at he
  have := sm_all0 (n := n - (p + m)) (f := fun j => basv m C.T C.b n (p + m + j)) (fun j hj => basv_nonneg k.B k.f (by omega)) (by grind) (C.b i - (p + m)) (by omega)
  rw [show p + m + (C.b i - (p + m)) = C.b i by omega, basv_b k.B hi] at this
  exact this
/-- a way that never ends would be one of the first goal's -/
theorem no_end {C : Cfg} (k : CfgOk m n C) {c : Nat} (hc : c < n) (ho : C.o c < 0) (ht : ∀ i, i < m → ¬ 0 < C.T i c) (he : ∀ x, Sol m (n + 1) C.T x → ev (n + 1) C.o x = ev (n + 1) o0 x) (h0 : ∀ j, j < n → 0 ≤ o0 j) (hn : o0 n = 0) : False := by
  have hb : ∀ i, i < m → C.b i ≠ c := fun i hi e => by
    have := k.z i hi
    rw [e] at this
    grind
  have e := he _ (dirv_sol k.B (N := n + 1) (by omega) (show c < n + 1 by omega) hb)
  have e1 : ev (n + 1) C.o (dirv m C.T C.b c) = C.o c := by
    show sm (n + 1) _ = _
    rw [sm_one (show c < n + 1 by omega) fun j hj hn => ?_, dirv_j]
    · grind
    · by_cases h : ∃ i, i < m ∧ C.b i = j
      · obtain ⟨i, hi, rfl⟩ := h
        rw [k.z i hi]; grind
      · rw [dirv_0 hn fun i hi e => h ⟨i, hi, e⟩]; grind
  have dn : ∀ j, 0 ≤ dirv m C.T C.b c j := fun j => by
    by_cases e : j = c
    · subst e; rw [dirv_j]; decide
    · by_cases h : ∃ i, i < m ∧ C.b i = j
      · obtain ⟨i, hi, rfl⟩ := h
        rw [dirv_b k.B hi (hb i hi)]
        have := ht i hi
        grind
      · rw [dirv_0 e fun i hi e => h ⟨i, hi, e⟩]; exact Rat.le_refl
  have e2 : 0 ≤ ev (n + 1) o0 (dirv m C.T C.b c) := sm_nonneg fun j hj => by
    by_cases z : j = n
    · subst z; rw [hn]; grind
    · exact Rat.mul_nonneg (h0 j (by omega)) (dn j)
  rw [← e, e1] at e2
  grind
/-- a helping part that stands has a row without parts -/
def HelpZ (q m n : Nat) (T : Nat → Nat → Rat) (b : Nat → Nat) : Prop := ∀ i, i < m → q ≤ b i → T i n = 0 ∧ ∀ j, j < q → T i j = 0
theorem help_turn {q : Nat} {C D : Cfg} {r c : Nat} (t : Turned m (n + 1) C D r c) (ch : Chosen m n q C r c) (hq : q ≤ n) (H : HelpZ q m n C.T C.b) : HelpZ q m n D.T D.b := fun i hi hb => by
  have hc := ch.cw
  rw [t.b i hi] at hb
  by_cases e : i = r
  · rw [if_pos e] at hb
    omega
  · rw [if_neg e] at hb
    obtain ⟨h1, h2⟩ := H i hi hb
    have h3 := h2 c hc
    refine ⟨?_, fun j hj => ?_⟩
    · rw [t.T i n hi (by omega), piv_i e, h1, h3]; grind
    · rw [t.T i j hi (by omega), piv_i e, h2 j hj, h3]; grind
theorem Run.help {q K : Nat} {F : Nat → Cfg} {r c : Nat → Nat} (R : Run m n q K F r c) (hq : q ≤ n) (H : HelpZ q m n (F 0).T (F 0).b) : ∀ t, t ≤ K → HelpZ q m n (F t).T (F t).b
  | 0, _ => H
  | t + 1, ht => help_turn (R.tu t (by omega)) (R.ch t (by omega)) hq (Run.help R hq H t (by omega))
/-- what the parts are keeps the bounds -/
theorem parts_ok (F : First p m n A lim T0 b0 hc) (B : IsBas m n T b) (hs : ∀ x, Sol m (n + 1) T x → Sol m (n + 1) T0 x) (f : ∀ i, i < m → 0 ≤ T i n) (hz : ∀ i, i < m → p + m ≤ b i → T i n = 0) : Feas p m A lim (basv m T b n) := by
  have hle := F.le
  refine ⟨fun j hj => basv_nonneg B f (by omega), fun k hk => ?_⟩
  have s := (F.sol _).mp (hs _ (basv_sol B)) k hk
  have h1 := basv_nonneg B f (j := p + k) (by omega)
  have h2 : (if lim k < 0 then basv m T b n (hc k) else 0) = 0 := by
    split
    · rename_i hl
      obtain ⟨g1, g2⟩ := F.hc k hk hl
      by_cases h : ∃ i, i < m ∧ b i = hc k
      · obtain ⟨i, hi, e⟩ := h
        rw [← e, basv_b B hi]
        exact hz i hi (by omega)
      · exact basv_0 (by omega) fun i hi e => h ⟨i, hi, e⟩
    · rfl
  rw [h2, basv_n] at s
  grind
/-- the best parts and their prices -/
theorem best_ok (F : First p m n A lim T0 b0 hc) {C : Cfg} (k : CfgOk m n C) (hs : ∀ x, Sol m (n + 1) C.T x ↔ Sol m (n + 1) T0 x) (he : ∀ x, Sol m (n + 1) T0 x → ev (n + 1) C.o x = ev (n + 1) o0 x) (H : HelpZ (p + m) m n C.T C.b)
    (hg : ∀ j, j < p → o0 j = - g j) (hz : ∀ j, p ≤ j → j < n + 1 → o0 j = 0) (ho : ∀ j, j < p + m → 0 ≤ C.o j) :
    Feas p m A lim (basv m C.T C.b n) ∧ Pays p m A g (fun i => C.o (p + i)) ∧ sm p (fun j => g j * basv m C.T C.b n j) = sm m (fun i => lim i * C.o (p + i)) := by
  have hle := F.le
  have hz' : ∀ k, k < m → o0 (p + k) = 0 := fun k hk => hz _ (by omega) (by omega)
  refine ⟨parts_ok F k.B (fun x => (hs x).mp) k.f fun i hi hb => (H i hi hb).1, ⟨fun i hi => ho _ (by omega), fun j hj => ?_⟩, ?_⟩
  · rw [cert_col F he hz' hj, hg j hj]
    have := ho j (by omega)
    grind
  · rw [cert_lim F he hz', hz n (by omega) (by omega)]
    have e := he _ ((hs _).mp (basv_sol k.B))
    rw [basv_ev k.B k.z, ev_parts hle, hz n (by omega) (by omega), sm_zero (n := m) fun j hj => by rw [hz' j hj]; grind] at e
    rw [sm_zero (n := n - (p + m)) fun j hj => by rw [hz (p + m + j) (by omega) (by omega)]; grind] at e
    have e2 : sm p (fun j => o0 j * basv m C.T C.b n j) = (-1) * sm p (fun j => g j * basv m C.T C.b n j) := by
      rw [← sm_mul]
      exact sm_congr fun j hj => by rw [hg j hj]; grind
    rw [e2] at e
    grind
/-- parts and a ray -/
theorem end_ok (F : First p m n A lim T0 b0 hc) {C : Cfg} (k : CfgOk m n C) (hs : ∀ x, Sol m (n + 1) C.T x ↔ Sol m (n + 1) T0 x) (he : ∀ x, Sol m (n + 1) T0 x → ev (n + 1) C.o x = ev (n + 1) o0 x) (H : HelpZ (p + m) m n C.T C.b)
    (hg : ∀ j, j < p → o0 j = - g j) (hz : ∀ j, p ≤ j → j < n + 1 → o0 j = 0) {c : Nat} (hcm : c < p + m) (ho : C.o c < 0) (ht : ∀ i, i < m → ¬ 0 < C.T i c) :
    Feas p m A lim (basv m C.T C.b n) ∧ Feas p m A (fun _ => 0) (dirv m C.T C.b c) ∧ 0 < sm p (fun j => g j * dirv m C.T C.b c j) := by
  have hle := F.le
  have hz' : ∀ k, k < m → o0 (p + k) = 0 := fun k hk => hz _ (by omega) (by omega)
  have hb : ∀ i, i < m → C.b i ≠ c := fun i hi e => by
    have := k.z i hi
    rw [e] at this
    grind
  have sd := (hs _).mp (dirv_sol k.B (N := n + 1) (by omega) (show c < n + 1 by omega) hb)
  have dn : ∀ j, 0 ≤ dirv m C.T C.b c j := fun j => by
    by_cases e : j = c
    · subst e; rw [dirv_j]; decide
    · by_cases h : ∃ i, i < m ∧ C.b i = j
      · obtain ⟨i, hi, rfl⟩ := h
        rw [dirv_b k.B hi (hb i hi)]
        have := ht i hi
        grind
      · rw [dirv_0 e fun i hi e => h ⟨i, hi, e⟩]; exact Rat.le_refl
  have dz : ∀ j, p + m ≤ j → dirv m C.T C.b c j = 0 := fun j hj => by
    by_cases h : ∃ i, i < m ∧ C.b i = j
    · obtain ⟨i, hi, rfl⟩ := h
      rw [dirv_b k.B hi (hb i hi), (H i hi hj).2 c hcm]
      rfl
    · exact dirv_0 (by omega) fun i hi e => h ⟨i, hi, e⟩
  refine ⟨parts_ok F k.B (fun x => (hs x).mp) k.f fun i hi hb => (H i hi hb).1, ⟨fun j _ => dn j, fun i hi => ?_⟩, ?_⟩
  · have s := (F.sol _).mp sd i hi
    have h2 : (if lim i < 0 then dirv m C.T C.b c (hc i) else 0) = 0 := by
      split
      · rename_i hl
        exact dz _ (F.hc i hi hl).1
      · rfl
    rw [h2, dz n (by omega)] at s
    have := dn (p + i)
    grind
  · have e := he _ sd
    have e1 : ev (n + 1) C.o (dirv m C.T C.b c) = C.o c := by
      show sm (n + 1) _ = _
      rw [sm_one (show c < n + 1 by omega) fun j hj hn => ?_, dirv_j]
      · grind
      · by_cases h : ∃ i, i < m ∧ C.b i = j
        · obtain ⟨i, hi, rfl⟩ := h
          rw [k.z i hi]; grind
        · rw [dirv_0 hn fun i hi e => h ⟨i, hi, e⟩]; grind
    rw [e1, ev_parts hle, hz n (by omega) (by omega), sm_zero (n := m) fun j hj => by rw [hz' j hj]; grind] at e
    rw [sm_zero (n := n - (p + m)) fun j hj => by rw [hz (p + m + j) (by omega) (by omega)]; grind] at e
    have e2 : sm p (fun j => o0 j * dirv m C.T C.b c j) = (-1) * sm p (fun j => g j * dirv m C.T C.b c j) := by
      rw [← sm_mul]
      exact sm_congr fun j hj => by rw [hg j hj]; grind
    rw [e2] at e
    grind
end
end SB
/-! sheets as lists; plain -/
namespace SB
/-- the number at a place of a sheet -/
abbrev ent (M : List (List Rat)) (i j : Nat) : Rat := nth (nth M (i : Int)) (j : Int)
theorem nthN_get {α : Type} [Inhabited α] {xs : List α} {i : Nat} (h : i < xs.length) : xs[i]? = some (nth xs (i : Int)) := by
  have := nth_get (xs := xs) (i := (i : Int)) (by omega) (by omega)
  rwa [Int.toNat_natCast] at this
theorem nthN_set {α : Type} [Inhabited α] {xs : List α} {i k : Nat} {v : α} (h : i < xs.length) : nth (xs.set i v) (k : Int) = if k = i then v else nth xs (k : Int) := by
  by_cases e : k = i
  · subst e
    rw [if_pos rfl]
    exact nth_nat (by rw [List.getElem?_set_self h])
  · rw [if_neg e]
    unfold nth
    rw [List.getD_eq_getElem?_getD, List.getD_eq_getElem?_getD, Int.toNat_natCast, List.getElem?_set_ne (Ne.symm e)]
theorem nthN_map {α β : Type} [Inhabited α] [Inhabited β] {xs : List α} {f : α → β} {i : Nat} (h : i < xs.length) : nth (xs.map f) (i : Int) = f (nth xs (i : Int)) :=
  nth_nat (by rw [List.getElem?_map, nthN_get h]; rfl)
theorem nthN_range {β : Type} [Inhabited β] {f : Nat → β} {n i : Nat} (h : i < n) : nth ((List.range n).map f) (i : Int) = f i :=
  nth_nat (by rw [List.getElem?_map, List.getElem?_range h]; rfl)
theorem nthN_app1 {α : Type} [Inhabited α] {xs ys : List α} {i : Nat} (h : i < xs.length) : nth (xs ++ ys) (i : Int) = nth xs (i : Int) :=
  nth_nat (by rw [List.getElem?_append_left h]; exact nthN_get h)
theorem nthN_app2 {α : Type} [Inhabited α] {xs ys : List α} {i : Nat} (h : i < ys.length) : nth (xs ++ ys) ((xs.length + i : Nat) : Int) = nth ys (i : Int) :=
  nth_nat (by rw [List.getElem?_append_right (by omega), Nat.add_sub_cancel_left]; exact nthN_get h)
theorem nthN_rep {α : Type} [Inhabited α] {n i : Nat} {v : α} (h : i < n) : nth (List.replicate n v) (i : Int) = v :=
  nth_nat (by rw [List.getElem?_replicate, if_pos h])
theorem nthN_mem {α : Type} [Inhabited α] {xs : List α} {i : Nat} (h : i < xs.length) : nth xs (i : Int) ∈ xs := List.mem_of_getElem? (nthN_get h)
theorem mem_nthN {α : Type} [Inhabited α] {xs : List α} {x : α} (h : x ∈ xs) : ∃ i, i < xs.length ∧ nth xs (i : Int) = x := by
  obtain ⟨i, hi⟩ := List.getElem?_of_mem h
  exact ⟨i, (List.getElem?_eq_some_iff.mp hi).1, nth_nat hi⟩
theorem nthN_ext {α : Type} [Inhabited α] {xs ys : List α} (hl : xs.length = ys.length) (h : ∀ i, i < xs.length → nth xs (i : Int) = nth ys (i : Int)) : xs = ys := by
  apply List.ext_getElem?
  intro i
  by_cases e : i < xs.length
  · rw [nthN_get e, nthN_get (by omega), h i e]
  · rw [List.getElem?_eq_none (by omega), List.getElem?_eq_none (by omega)]
structure Mat (M : List (List Rat)) (R N : Nat) : Prop where
  h : M.length = R
  w : ∀ i, i < R → (nth M (i : Int)).length = N
theorem Mat.set {M : List (List Rat)} {R N i : Nat} {r : List Rat} (m : Mat M R N) (hi : i < R) (hr : r.length = N) : Mat (M.set i r) R N :=
  ⟨by rw [List.length_set]; exact m.h, fun k hk => by
    rw [nthN_set (by rw [m.h]; exact hi)]
    by_cases e : k = i
    · rw [if_pos e]; exact hr
    · rw [if_neg e]; exact m.w k hk⟩
theorem Mat.app {M : List (List Rat)} {R N : Nat} {r : List Rat} (m : Mat M R N) (hr : r.length = N) : Mat (M ++ [r]) (R + 1) N :=
  ⟨by rw [List.length_append, m.h]; rfl, fun k hk => by
    by_cases e : k < R
    · rw [nthN_app1 (by rw [m.h]; exact e)]; exact m.w k e
    · have : k = M.length + 0 := by rw [m.h]; omega
      rw [this, nthN_app2 (ys := [r]) (by simp)]
      exact hr⟩
theorem ent_app1 {M : List (List Rat)} {R N i j : Nat} {r : List Rat} (m : Mat M R N) (hi : i < R) : ent (M ++ [r]) i j = ent M i j := by
  unfold ent
  rw [nthN_app1 (by rw [m.h]; exact hi)]
theorem ent_app2 {M : List (List Rat)} {R N j : Nat} {r : List Rat} (m : Mat M R N) : ent (M ++ [r]) R j = nth r (j : Int) := by
  unfold ent
  have : R = M.length + 0 := by rw [m.h]; rfl
  rw [this, nthN_app2 (ys := [r]) (by simp)]
  rfl
theorem ent_set {M : List (List Rat)} {R N i k j : Nat} {r : List Rat} (m : Mat M R N) (hi : i < R) : ent (M.set i r) k j = if k = i then nth r (j : Int) else ent M k j := by
  unfold ent
  rw [nthN_set (by rw [m.h]; exact hi)]
  by_cases e : k = i
  · rw [if_pos e, if_pos e]
  · rw [if_neg e, if_neg e]
theorem Mat.pop {M : List (List Rat)} {R N : Nat} (m : Mat M (R + 1) N) : Mat M.dropLast R N ∧ ∀ i j, i < R → ent M.dropLast i j = ent M i j := by
  have hg : ∀ i, i < R → nth M.dropLast (i : Int) = nth M (i : Int) := fun i hi => nth_nat (by
    rw [List.getElem?_dropLast, if_pos (by rw [m.h]; omega)]
    exact nthN_get (by rw [m.h]; omega))
  exact ⟨⟨by rw [List.length_dropLast, m.h]; rfl, fun i hi => by rw [hg i hi]; exact m.w i (by omega)⟩, fun i j hi => by unfold ent; rw [hg i hi]⟩
/-- a sheet's lists hold a sheet -/
structure Holds (m n : Nat) (C : Cfg) (M : List (List Rat)) (bs : List Int) : Prop where
  mat : Mat M (m + 1) (n + 1)
  T : ∀ i j, i < m → j < n + 1 → ent M i j = C.T i j
  o : ∀ j, j < n + 1 → ent M m j = C.o j
  bl : bs.length = m
  b : ∀ i, i < m → nth bs (i : Int) = (C.b i : Int)
/-- the same without the goal's row -/
structure Holds0 (m n : Nat) (T : Nat → Nat → Rat) (b : Nat → Nat) (M : List (List Rat)) (bs : List Int) : Prop where
  mat : Mat M m (n + 1)
  T : ∀ i j, i < m → j < n + 1 → ent M i j = T i j
  bl : bs.length = m
  b : ∀ i, i < m → nth bs (i : Int) = (b i : Int)
/-- all numbers are small enough to be reckoned with -/
def Szd (m n : Nat) (T0 : Nat → Nat → Rat) : Prop := ∀ U d, IsBas m n U d → (∀ x, Sol m (n + 1) T0 x ↔ Sol m (n + 1) U x) → ∃ D k, k ≤ 1140 ∧ FrS m (n + 1) D k U
theorem szd_of {m n k0 : Nat} {T0 : Nat → Nat → Rat} {b0 : Nat → Nat} {D0 : Int} (B : IsBas m n T0 b0) (h : FrS m (n + 1) D0 k0 T0) (hk : 2 ^ m * (k0 + 1) ≤ 1140) : Szd m n T0 := fun U d hU hs => by
  obtain ⟨D', k', h1, h2⟩ := sheet_fr B hU (Nat.le_succ n) hs h
  exact ⟨D', k', by omega, h2⟩
theorem szd_T {m n : Nat} {T0 U : Nat → Nat → Rat} {d : Nat → Nat} (h : Szd m n T0) (B : IsBas m n U d) (hs : ∀ x, Sol m (n + 1) T0 x ↔ Sol m (n + 1) U x) {i j : Nat} (hi : i < m) (hj : j < n + 1) : Bq 1300 (U i j) := by
  obtain ⟨D, k, hk, f⟩ := h U d B hs
  exact (fr_bq f.ne f.lt (f.fr i j hi hj)).mono (by omega)
theorem szd_row {m n t : Nat} {T0 U : Nat → Nat → Rat} {d : Nat → Nat} {o : Nat → Rat} {D0 : Int} (h : Szd m n T0) (B : IsBas m n U d) (hs : ∀ x, Sol m (n + 1) T0 x ↔ Sol m (n + 1) U x) (h0 : D0 ≠ 0) (hd : D0.natAbs < 2 ^ 100) (ho : ∀ j, j < n + 1 → Fr D0 100 (o j)) (hm : m ≤ 50) {j : Nat} (ht : t ≤ m) (hj : j < n + 1) :
    Bq 1300 (offRow m U d o t j) := by
  obtain ⟨D, k, hk, f⟩ := h U d B hs
  have := fr_row f h0 ho (g := fun i => o (d i)) (fun i hi => ho _ (by have := B.lt i hi; omega)) hj f.lt t ht
  refine (fr_bq (Int.mul_ne_zero h0 f.ne) ?_ this).mono (by omega)
  exact Nat.lt_of_lt_of_le (mul_lt2 hd f.lt) (Nat.pow_le_pow_right (by decide) (by omega))
/-- what climbing keeps: told by the first sheet and the goal -/
structure Up (m n : Nat) (T0 : Nat → Nat → Rat) (o0 : Nat → Rat) (C : Cfg) : Prop where
  ok : CfgOk m n C
  sol : ∀ x, Sol m (n + 1) T0 x ↔ Sol m (n + 1) C.T x
  ev : ∀ x, Sol m (n + 1) C.T x → ev (n + 1) C.o x = ev (n + 1) o0 x
theorem Up.turn {m n w : Nat} {T0 : Nat → Nat → Rat} {o0 : Nat → Rat} {C D : Cfg} {r c : Nat} (u : Up m n T0 o0 C) (t : Turned m (n + 1) C D r c) (h : Chosen m n w C r c) (hw : w ≤ n) : Up m n T0 o0 D := by
  have h0 : C.T r c ≠ 0 := by have := h.pos; grind
  exact ⟨t.ok h hw u.ok, fun x => (u.sol x).trans (t.sol h.rm h0).symm, fun x hx => by
    have hx' := (t.sol h.rm h0).mp hx
    rw [t.ev h.rm hx', u.ev x hx']⟩
structure Goal (m n : Nat) (T0 : Nat → Nat → Rat) (o0 : Nat → Rat) : Prop where
  sz : Szd m n T0
  m50 : m ≤ 50
  n50 : n ≤ 50
  fr : ∃ D0 : Int, D0 ≠ 0 ∧ D0.natAbs < 2 ^ 100 ∧ ∀ j, j < n + 1 → Fr D0 100 (o0 j)
theorem Up.bq {m n : Nat} {T0 : Nat → Nat → Rat} {o0 : Nat → Rat} {C : Cfg} (u : Up m n T0 o0 C) (G : Goal m n T0 o0) : (∀ i j, i < m → j < n + 1 → Bq 1300 (C.T i j)) ∧ ∀ j, j < n + 1 → Bq 1300 (C.o j) := by
  refine ⟨fun i j hi hj => szd_T G.sz u.ok.B u.sol hi hj, fun j hj => ?_⟩
  obtain ⟨D0, h0, h1, h2⟩ := G.fr
  rw [goal_one u.ok.B (Nat.le_succ n) u.ok.z u.ev hj]
  exact szd_row G.sz u.ok.B u.sol h0 h1 h2 G.m50 (Nat.le_refl _) hj
end SB
namespace SB
/-- what is a program -/
structure ProgOk (A : List (List Rat)) (lim g : List Rat) : Prop where
  g1 : 1 ≤ g.length
  g6 : g.length ≤ 6
  a6 : A.length ≤ 6
  al : A.length = lim.length
  rows : ∀ r ∈ A, r.length = g.length
/-- the line that bounds a part most, among the first i -/
def LeaveI (M : List (List Rat)) (bs : List Int) (q n i : Nat) : Option Nat → Prop
  | none => ∀ k, k < i → ¬ 0 < ent M k q
  | some r => r < i ∧ 0 < ent M r q ∧ ∀ k, k < i → 0 < ent M k q → ent M r n / ent M r q < ent M k n / ent M k q ∨ (ent M r n / ent M r q = ent M k n / ent M k q ∧ nth bs (r : Int) ≤ nth bs (k : Int))
theorem leave_skip {M : List (List Rat)} {bs : List Int} {q n i : Nat} {o : Option Nat} (h : LeaveI M bs q n i o) (hz : ¬ 0 < ent M i q) : LeaveI M bs q n (i + 1) o := by
  cases o with
  | none => exact fun k hk => if e : k = i then by rw [e]; exact hz else h k (by omega)
  | some r => exact ⟨by have := h.1; omega, h.2.1, fun k hk hp => if e : k = i then by rw [e] at hp; exact absurd hp hz else h.2.2 k (by omega) hp⟩
theorem leave_new {M : List (List Rat)} {bs : List Int} {q n i : Nat} (h : LeaveI M bs q n i none) (hz : 0 < ent M i q) : LeaveI M bs q n (i + 1) (some i) :=
  ⟨by omega, hz, fun k hk hp => if e : k = i then by rw [e]; exact .inr ⟨rfl, Int.le_refl _⟩ else absurd hp (h k (by omega))⟩
theorem leave_less {M : List (List Rat)} {bs : List Int} {q n i r : Nat} (h : LeaveI M bs q n i (some r)) (hz : 0 < ent M i q) (hl : ent M i n / ent M i q < ent M r n / ent M r q ∨ (ent M i n / ent M i q = ent M r n / ent M r q ∧ nth bs (i : Int) < nth bs (r : Int))) : LeaveI M bs q n (i + 1) (some i) :=
  ⟨by omega, hz, fun k hk hp => if e : k = i then by rw [e]; exact .inr ⟨rfl, Int.le_refl _⟩ else by
    generalize hx : ent M k n / ent M k q = x
    have h2 := h.2.2 k (by omega) hp
    rw [hx] at h2
    rcases hl with hl | ⟨hl, hb⟩
    · rcases h2 with h2 | ⟨h2, hb2⟩
      · left; grind
      · left; grind
    · rcases h2 with h2 | ⟨h2, hb2⟩
      · left; grind
      · right; exact ⟨by grind, by omega⟩⟩
theorem leave_keep {M : List (List Rat)} {bs : List Int} {q n i r : Nat} (h : LeaveI M bs q n i (some r)) (h1 : ¬ ent M i n / ent M i q < ent M r n / ent M r q) (h2 : ent M i n / ent M i q = ent M r n / ent M r q → ¬ nth bs (i : Int) < nth bs (r : Int)) : LeaveI M bs q n (i + 1) (some r) :=
  ⟨by have := h.1; omega, h.2.1, fun k hk hp => if e : k = i then by
      subst e
      by_cases ze : ent M k n / ent M k q = ent M r n / ent M r q
      · have := h2 ze
        exact .inr ⟨ze.symm, by omega⟩
      · left
        generalize ent M k n / ent M k q = u at *
        generalize ent M r n / ent M r q = v at *
        grind
    else h.2.2 k (by omega) hp⟩
end SB
namespace SB
theorem first_nth {ns : List Int} {c : Int} (h : c ∈ ns) : ∃ i : Nat, i < ns.length ∧ nth ns (i : Int) = c ∧ ∀ k : Nat, k < i → nth ns (k : Int) ≠ c := by
  induction ns with
  | nil => cases h
  | cons x r ih =>
    by_cases e : x = c
    · exact ⟨0, by simp, by subst e; rfl, fun k hk => absurd hk (Nat.not_lt_zero _)⟩
    · have hr : c ∈ r := by
        rcases List.mem_cons.mp h with q | q
        · exact absurd q.symm e
        · exact q
      obtain ⟨i, h1, h2, h3⟩ := ih hr
      have hs : ∀ k : Nat, nth (x :: r) ((k + 1 : Nat) : Int) = nth r (k : Int) := fun k => by
        unfold nth
        rw [Int.toNat_natCast, Int.toNat_natCast]
        rfl
      refine ⟨i + 1, by simp; omega, by rw [hs]; exact h2, fun k hk => ?_⟩
      cases k with
      | zero => exact e
      | succ k => rw [hs]; exact h3 k (by omega)
/-- the ray, of the first i rows -/
def rayI (M : List (List Rat)) (bs : List Int) (q i : Nat) (j : Nat) : Rat := 0 - sm i fun k => if nth bs (k : Int) = (j : Int) then ent M k q else 0
theorem ray_end {m n q : Nat} {C : Cfg} {M : List (List Rat)} {bs : List Int} (h : Holds m n C M bs) (hq : q < n + 1) {j : Nat} (hj : j ≠ q) : rayI M bs q m j = dirv m C.T C.b q j := by
  unfold rayI dirv
  rw [if_neg hj]
  have : sm m (fun k => if nth bs (k : Int) = (j : Int) then ent M k q else 0) = sm m (fun i => if C.b i = j then C.T i q else 0) := sm_congr fun k hk => by
    rw [h.b k hk, h.T k q hk hq]
    by_cases e : C.b k = j
    · rw [if_pos e, if_pos (by omega)]
    · rw [if_neg e, if_neg (by omega)]
  rw [this]
  grind
theorem ray_same {M : List (List Rat)} {bs : List Int} {q i j : Nat} (h : nth bs (i : Int) ≠ (j : Int)) : rayI M bs q (i + 1) j = rayI M bs q i j := by
  unfold rayI
  rw [sm, if_neg h]
  grind
theorem ray_new {M : List (List Rat)} {bs : List Int} {q i j : Nat} (h : nth bs (i : Int) = (j : Int)) (u : ∀ k, k < i → nth bs (k : Int) ≠ (j : Int)) : rayI M bs q (i + 1) j = 0 - ent M i q := by
  unfold rayI
  rw [sm, if_pos h, sm_zero fun k hk => if_neg (u k hk)]
  grind
end SB
namespace SB
theorem filt_nil {w : Nat} {p : Nat → Bool} (h : (((List.range w).filter p).map fun k : Nat => (k : Int)) = []) : ∀ k, k < w → p k = false := fun k hk => by
  rw [List.map_eq_nil_iff, List.filter_eq_nil_iff] at h
  have := h k (List.mem_range.mpr hk)
  simpa using this
theorem filt_cons {w : Nat} {p : Nat → Bool} {c : Int} {r : List Int} (h : (((List.range w).filter p).map fun k : Nat => (k : Int)) = c :: r) : ∃ k : Nat, c = (k : Int) ∧ k < w ∧ p k = true ∧ ∀ j, j < k → p j = false := by
  cases e : (List.range w).filter p with
  | nil => rw [e] at h; cases h
  | cons k t =>
    rw [e] at h
    have hc : c = (k : Int) := (List.cons.inj h).1.symm
    have h1 : ((List.range w).filter p).head? = some k := by rw [e]; rfl
    rw [List.head?_filter] at h1
    have h2 := List.find?_range_eq_some.mp h1
    exact ⟨k, hc, List.mem_range.mp h2.2.1, h2.1, fun j hj => by have := h2.2.2 j hj; simpa using this⟩
theorem up_run {m n w t : Nat} {T0 : Nat → Nat → Rat} {o0 : Nat → Rat} {C : Cfg} {F : Nat → Cfg} {r c : Nat → Nat} (u : Up m n T0 o0 C) (R : Run m n w t F r c) (e : F 0 = C) (hw : w ≤ n) : Up m n T0 o0 (F t) := by
  subst e
  exact ⟨R.ok hw u.ok t (Nat.le_refl _), fun x => (u.sol x).trans (R.sol t (Nat.le_refl _)).symm, fun x hx => by
    have hx' := (R.sol t (Nat.le_refl _)).mp hx
    rw [R.ev hx' t (Nat.le_refl _), u.ev x hx']⟩
/-- the sheet that a turn makes -/
def Cfg.turn (C : Cfg) (r c : Nat) : Cfg := ⟨piv C.T r c, fun i => if i = r then c else C.b i, fun j => C.o j - C.o c * (C.T r j / C.T r c)⟩
theorem turn_turned {m N : Nat} {C : Cfg} {r c : Nat} : Turned m N C (C.turn r c) r c := ⟨fun _ _ _ _ => rfl, fun _ _ => rfl, fun _ _ => rfl⟩
theorem nth_setI {bs : List Int} {r i : Nat} {v : Int} (h : r < bs.length) : nth (bs.set r v) (i : Int) = if i = r then v else nth bs (i : Int) := nthN_set h
theorem holds_turn {m n r c : Nat} {C : Cfg} {M M' : List (List Rat)} {bs : List Int} (h : Holds m n C M bs) (hr : r < m) (hc : c < n + 1) (mt : Mat M' (m + 1) (n + 1)) (he : ∀ i j, i < m + 1 → j < n + 1 → ent M' i j = piv (ent M) r c i j) : Holds m n (C.turn r c) M' (bs.set r (c : Int)) := by
  have hp : ∀ i j, i < m → j < n + 1 → piv (ent M) r c i j = piv C.T r c i j := fun i j hi hj => by
    unfold piv
    rw [h.T r j hr hj, h.T r c hr hc, h.T i j hi hj, h.T i c hi hc]
  refine ⟨mt, fun i j hi hj => ?_, fun j hj => ?_, by rw [List.length_set]; exact h.bl, fun i hi => ?_⟩
  · rw [he i j (by omega) hj, hp i j hi hj]
    rfl
  · rw [he m j (by omega) hj, piv_i (by omega), h.o j hj, h.o c hc, h.T r j hr hj, h.T r c hr hc]
    rfl
  · rw [nth_setI (by rw [h.bl]; exact hr), h.b i hi]
    show _ = (((if i = r then c else C.b i : Nat)) : Int)
    split <;> rfl
theorem chosen_of {m n w r c : Nat} {C : Cfg} {M : List (List Rat)} {bs : List Int} (h : Holds m n C M bs) (hc : c < w) (hw : w ≤ n) (ho : C.o c < 0) (hf : ∀ j, j < c → ¬ C.o j < 0) (hl : LeaveI M bs c n m (some r)) : Chosen m n w C r c := by
  obtain ⟨h1, h2, h3⟩ := hl
  refine ⟨hc, ho, fun j hj => by have := hf j hj; grind, h1, by rw [← h.T r c h1 (by omega)]; exact h2, fun i hi hp => ?_⟩
  rw [← h.T i c hi (by omega)] at hp
  have := h3 i hi hp
  rw [h.T r n h1 (by omega), h.T r c h1 (by omega), h.T i n hi (by omega), h.T i c hi (by omega), h.b r h1, h.b i hi] at this
  rcases this with q | ⟨q1, q2⟩
  · exact .inl q
  · exact .inr ⟨q1, by omega⟩
theorem holds_bq {m n : Nat} {C : Cfg} {M : List (List Rat)} {bs : List Int} {T0 : Nat → Nat → Rat} {o0 : Nat → Rat} (h : Holds m n C M bs) (u : Up m n T0 o0 C) (G : Goal m n T0 o0) : ∀ i j, i < m + 1 → j < n + 1 → Bq 1300 (ent M i j) := fun i j hi hj => by
  obtain ⟨h1, h2⟩ := u.bq G
  by_cases e : i < m
  · rw [h.T i j e hj]; exact h1 i j e hj
  · have : i = m := by omega
    subst this
    rw [h.o j hj]
    exact h2 j hj
end SB
namespace SB
theorem holds0_turn {m n r c : Nat} {T : Nat → Nat → Rat} {b : Nat → Nat} {M M' : List (List Rat)} {bs : List Int} (h : Holds0 m n T b M bs) (hr : r < m) (hc : c < n + 1) (mt : Mat M' m (n + 1)) (he : ∀ i j, i < m → j < n + 1 → ent M' i j = piv (ent M) r c i j) : Holds0 m n (piv T r c) (fun i => if i = r then c else b i) M' (bs.set r (c : Int)) := by
  refine ⟨mt, fun i j hi hj => ?_, by rw [List.length_set]; exact h.bl, fun i hi => ?_⟩
  · rw [he i j hi hj]
    unfold piv
    rw [h.T r j hr hj, h.T r c hr hc, h.T i j hi hj, h.T i c hi hc]
  · rw [nth_setI (by rw [h.bl]; exact hr), h.b i hi]
    split <;> rfl
theorem holds_pop {m n : Nat} {C : Cfg} {M : List (List Rat)} {bs : List Int} (h : Holds m n C M bs) : Holds0 m n C.T C.b M.dropLast bs := by
  obtain ⟨h1, h2⟩ := h.mat.pop
  exact ⟨h1, fun i j hi hj => by rw [h2 i j hi]; exact h.T i j hi hj, h.bl, h.b⟩
theorem holds_app {m n : Nat} {T : Nat → Nat → Rat} {b : Nat → Nat} {o : Nat → Rat} {M : List (List Rat)} {bs : List Int} {r : List Rat} (h : Holds0 m n T b M bs) (hr : r.length = n + 1) (ho : ∀ j : Nat, j < n + 1 → nth r (j : Int) = o j) : Holds m n ⟨T, b, o⟩ (M ++ [r]) bs :=
  ⟨h.mat.app hr, fun i j hi hj => by rw [ent_app1 h.mat hi]; exact h.T i j hi hj, fun j hj => by rw [ent_app2 h.mat]; exact ho j hj, h.bl, h.b⟩
end SB
/-! the first sheet of a program; clearing helpers; what is told; plain -/
namespace SB
def negs (m : Nat) (lim : Nat → Rat) : List Nat := (List.range m).filter fun k => decide (lim k < 0)
def hcol (p m : Nat) (lim : Nat → Rat) (k : Nat) : Nat := p + m + (negs m lim).idxOf k
def wideN (p m : Nat) (lim : Nat → Rat) : Nat := p + m + (negs m lim).length
def base0 (p n : Nat) (A : Nat → Nat → Rat) (lim : Nat → Rat) (k j : Nat) : Rat := if j = p + k then 1 else if j < p then A k j else if j = n then lim k else 0
def T0f (p m : Nat) (A : Nat → Nat → Rat) (lim : Nat → Rat) (k j : Nat) : Rat :=
  if lim k < 0 then (if j = hcol p m lim k then 1 else 0 - base0 p (wideN p m lim) A lim k j) else base0 p (wideN p m lim) A lim k j
def b0f (p m : Nat) (lim : Nat → Rat) (k : Nat) : Nat := if lim k < 0 then hcol p m lim k else p + k
section
variable {p m : Nat} {A : Nat → Nat → Rat} {lim : Nat → Rat}
theorem mem_negs {k : Nat} : k ∈ negs m lim ↔ k < m ∧ lim k < 0 := by
  unfold negs
  rw [List.mem_filter, List.mem_range, decide_eq_true_iff]
theorem hcol_bd {k : Nat} (hk : k < m) (h : lim k < 0) : p + m ≤ hcol p m lim k ∧ hcol p m lim k < wideN p m lim := by
  have := List.idxOf_lt_length_of_mem (mem_negs.mpr ⟨hk, h⟩)
  unfold hcol wideN
  omega
theorem hcol_inj {i k : Nat} (hi : i < m) (h1 : lim i < 0) (hk : k < m) (h2 : lim k < 0) (e : hcol p m lim i = hcol p m lim k) : i = k := by
  have g1 := List.idxOf_lt_length_of_mem (mem_negs.mpr ⟨hi, h1⟩)
  have g2 := List.idxOf_lt_length_of_mem (mem_negs.mpr ⟨hk, h2⟩)
  unfold hcol at e
  have e' : (negs m lim).idxOf i = (negs m lim).idxOf k := by omega
  have a1 := List.getElem_idxOf g1
  have a2 := List.getElem_idxOf g2
  rw [← a1, ← a2]
  simp only [e']
theorem base_hc {i k : Nat} (hi : i < m) (h1 : lim i < 0) (hk : k < m) : base0 p (wideN p m lim) A lim k (hcol p m lim i) = 0 := by
  have := hcol_bd (p := p) hi h1
  unfold base0
  rw [if_neg (by omega), if_neg (by omega), if_neg (by omega)]
theorem base_sl {i k : Nat} (hi : i < m) (hk : k < m) : base0 p (wideN p m lim) A lim k (p + i) = if k = i then 1 else 0 := by
  have : p + m ≤ wideN p m lim := by unfold wideN; omega
  unfold base0
  by_cases e : k = i
  · subst e; rw [if_pos rfl, if_pos rfl]
  · rw [if_neg (by omega), if_neg (by omega), if_neg (by omega), if_neg e]
theorem base_n {k : Nat} (hk : k < m) : base0 p (wideN p m lim) A lim k (wideN p m lim) = lim k := by
  have : p + m ≤ wideN p m lim := by unfold wideN; omega
  unfold base0
  rw [if_neg (by omega), if_neg (by omega), if_pos rfl]
theorem base_sum {k : Nat} (hk : k < m) {x : Nat → Rat} : sm (wideN p m lim + 1) (fun j => base0 p (wideN p m lim) A lim k j * x j) = x (p + k) + sm p (fun j => A k j * x j) + lim k * x (wideN p m lim) := by
  have hle : p + m ≤ wideN p m lim := by unfold wideN; omega
  have e := ev_parts (p := p) (m := m) hle (o := fun j => base0 p (wideN p m lim) A lim k j) (x := x)
  have e2 : sm (wideN p m lim + 1) (fun j => base0 p (wideN p m lim) A lim k j * x j) = ev (wideN p m lim + 1) (fun j => base0 p (wideN p m lim) A lim k j) x := rfl
  rw [e2, e, base_n hk]
  rw [sm_congr (n := p) (g := fun j => A k j * x j) fun j hj => by unfold base0; rw [if_neg (by omega), if_pos hj]]
  rw [sm_one (n := m) (i := k) hk fun j hj hn => by rw [base_sl hj hk, if_neg (fun z => hn z.symm)]; grind]
  rw [base_sl hk hk, if_pos rfl, sm_zero (n := wideN p m lim - (p + m)) fun j hj => by
    unfold base0
    rw [if_neg (by omega), if_neg (by omega), if_neg (by omega)]
    grind]
  grind
theorem first_ok : First p m (wideN p m lim) A lim (T0f p m A lim) (b0f p m lim) (hcol p m lim) := by
  have hle : p + m ≤ wideN p m lim := by unfold wideN; omega
  refine ⟨hle, fun x => forall_congr' fun k => forall_congr' fun hk => ?_, fun k hk h => hcol_bd hk h, ⟨fun i hi => ?_, fun i k hi hk => ?_⟩, fun i hi => ?_⟩
  · by_cases h : lim k < 0
    · rw [if_pos h]
      obtain ⟨c1, c2⟩ := hcol_bd (p := p) hk h
      have e : sm (wideN p m lim + 1) (fun j => T0f p m A lim k j * x j) = x (hcol p m lim k) - sm (wideN p m lim + 1) (fun j => base0 p (wideN p m lim) A lim k j * x j) := by
        have e1 : sm (wideN p m lim + 1) (fun j => if j = hcol p m lim k then x j else 0) = x (hcol p m lim k) := by
          rw [sm_one (i := hcol p m lim k) (by omega) fun j hj hn => if_neg hn, if_pos rfl]
        rw [← e1, ← sm_sub]
        refine sm_congr fun j hj => ?_
        unfold T0f
        rw [if_pos h]
        by_cases z : j = hcol p m lim k
        · subst z
          rw [if_pos rfl, if_pos rfl, base_hc hk h hk]
          grind
        · rw [if_neg z, if_neg z]
          grind
      rw [e, base_sum hk]
      constructor <;> intro z <;> grind
    · rw [if_neg h]
      have e : sm (wideN p m lim + 1) (fun j => T0f p m A lim k j * x j) = sm (wideN p m lim + 1) (fun j => base0 p (wideN p m lim) A lim k j * x j) := sm_congr fun j hj => by
        unfold T0f
        rw [if_neg h]
      rw [e, base_sum hk]
  · unfold b0f
    split
    · rename_i h
      exact (hcol_bd hi h).2
    · omega
  · unfold b0f T0f
    by_cases h1 : lim i < 0
    · rw [if_pos h1]
      by_cases h2 : lim k < 0
      · rw [if_pos h2]
        by_cases e : k = i
        · subst e; rw [if_pos rfl, if_pos rfl]
        · rw [if_neg (fun z => e (hcol_inj hi h1 hk h2 z).symm), base_hc hi h1 hk, if_neg e]
          grind
      · rw [if_neg h2, base_hc hi h1 hk, if_neg]
        rintro rfl
        exact h2 h1
    · rw [if_neg h1]
      by_cases h2 : lim k < 0
      · have c := hcol_bd (p := p) hk h2
        have hne : k ≠ i := fun e => h1 (by rw [← e]; exact h2)
        rw [if_pos h2, if_neg (by omega), base_sl hi hk, if_neg hne]
        grind
      · rw [if_neg h2, base_sl hi hk]
  · unfold T0f
    by_cases h : lim i < 0
    · have c := hcol_bd (p := p) hi h
      rw [if_pos h, if_neg (by omega), base_n hi]
      grind
    · rw [if_neg h, base_n hi]
      grind
theorem fr_zero {D : Int} {k : Nat} : Fr D k 0 := ⟨0, Nat.pow_pos (by decide), by grind⟩
theorem fr_self {D : Int} {k : Nat} (h : D.natAbs < 2 ^ k) : Fr D k 1 := ⟨D, h, by grind⟩
theorem fr_neg {D : Int} {k : Nat} {q : Rat} (h : Fr D k q) : Fr D k (0 - q) := by
  obtain ⟨M, h1, h2⟩ := h
  exact ⟨-M, by rw [Int.natAbs_neg]; exact h1, by rw [Rat.intCast_neg]; grind⟩
theorem first_fr {D : Int} {k0 : Nat} (h0 : D ≠ 0) (hd : D.natAbs < 2 ^ k0) (hA : ∀ k j, k < m → j < p → Fr D k0 (A k j)) (hl : ∀ k, k < m → Fr D k0 (lim k)) : FrS m (wideN p m lim + 1) D k0 (T0f p m A lim) := by
  have hb : ∀ k j, k < m → Fr D k0 (base0 p (wideN p m lim) A lim k j) := fun k j hk => by
    unfold base0
    split
    · exact fr_self hd
    · split
      · exact hA k j hk (by assumption)
      · split
        · exact hl k hk
        · exact fr_zero
  refine ⟨h0, hd, fun k j hk hj => ?_⟩
  unfold T0f
  split
  · split
    · exact fr_self hd
    · exact fr_neg (hb k j hk)
  · exact hb k j hk
end
/-- while helpers are cleared: the first k lines are done -/
structure Clr (q m n : Nat) (T0 T : Nat → Nat → Rat) (b : Nat → Nat) (k : Nat) : Prop where
  B : IsBas m n T b
  sol : ∀ x, Sol m (n + 1) T0 x ↔ Sol m (n + 1) T x
  f : ∀ i, i < m → 0 ≤ T i n
  z : ∀ i, i < m → q ≤ b i → T i n = 0
  c : ∀ i, i < m → i < k → q ≤ b i → ∀ j, j < q → T i j = 0
section
variable {q m n k : Nat} {T0 T : Nat → Nat → Rat} {b : Nat → Nat}
theorem clr_skip (h : Clr q m n T0 T b k) (hz : q ≤ b k → ∀ j, j < q → T k j = 0) : Clr q m n T0 T b (k + 1) :=
  ⟨h.B, h.sol, h.f, h.z, fun i hi hk hb => if e : i = k then by subst e; exact hz hb else h.c i hi (by omega) hb⟩
theorem clr_turn (h : Clr q m n T0 T b k) (hk : k < m) (hb : q ≤ b k) (hq : q ≤ n) {c : Nat} (hc : c < q) (h0 : T k c ≠ 0) : Clr q m n T0 (piv T k c) (fun i => if i = k then c else b i) (k + 1) := by
  have hz := h.z k hk hb
  have hn : ∀ i, piv T k c i n = if i = k then 0 else T i n := fun i => by
    by_cases e : i = k
    · rw [if_pos e, e, piv_r, hz]; grind
    · rw [if_neg e, piv_i e, hz]; grind
  refine ⟨piv_bas h.B hk (by omega) h0, fun x => (h.sol x).trans (piv_sol hk h0).symm, fun i hi => ?_, fun i hi hb' => ?_, fun i hi hk' hb' j hj => ?_⟩
  · rw [hn]
    split
    · exact Rat.le_refl
    · exact h.f i hi
  · rw [hn]
    split
    · rfl
    · rename_i e
      rw [if_neg e] at hb'
      exact h.z i hi hb'
  · by_cases e : i = k
    · rw [if_pos e] at hb'
      omega
    · rw [if_neg e] at hb'
      have hk2 : i < k := by omega
      rw [piv_i e, h.c i hi hk2 hb' j hj, h.c i hi hk2 hb' c hc]
      grind
theorem clr_help (h : Clr q m n T0 T b m) : HelpZ q m n T b := fun i hi hb => ⟨h.z i hi hb, h.c i hi hi hb⟩
end
/-- numbers with one denominator -/
def Nice (r : List Rat) : Prop := ∃ (D : Int) (k : Nat), k ≤ 1300 ∧ D ≠ 0 ∧ D.natAbs < 2 ^ k ∧ ∀ q ∈ r, Fr D k q
/-- what solved tells -/
inductive Res
  | none (y : List Rat)
  | best (x y : List Rat)
  | endless (x d : List Rat)
abbrev atN (r : List Rat) (j : Nat) : Rat := nth r (j : Int)
def ResOk (A : List (List Rat)) (lim g : List Rat) : Res → Prop
  | .none y => y.length = A.length ∧ Nice y ∧ Pays g.length A.length (ent A) (fun _ => 0) (atN y) ∧ sm A.length (fun k => atN lim k * atN y k) < 0
  | .best x y => x.length = g.length ∧ y.length = A.length ∧ Nice x ∧ Nice y ∧ Feas g.length A.length (ent A) (atN lim) (atN x) ∧ Pays g.length A.length (ent A) (atN g) (atN y) ∧ sm g.length (fun j => atN g j * atN x j) = sm A.length (fun k => atN lim k * atN y k)
  | .endless x d => x.length = g.length ∧ d.length = g.length ∧ Nice x ∧ Nice d ∧ Feas g.length A.length (ent A) (atN lim) (atN x) ∧ Feas g.length A.length (ent A) (fun _ => 0) (atN d) ∧ 0 < sm g.length (fun j => atN g j * atN d j)
end SB
namespace SB
abbrev nsI (ns : List Nat) : List Int := ns.map fun k : Nat => (k : Int)
theorem nth_nsI {ns : List Nat} {k : Nat} (h : k < ns.length) : nth (nsI ns) (k : Int) = ((ns[k] : Nat) : Int) := by
  refine nth_nat ?_
  rw [List.getElem?_map, List.getElem?_eq_getElem h]
  rfl
theorem idx_negs {m i : Nat} {lim : Nat → Rat} (hi : i < m) (h : lim i < 0) : (negs m lim).idxOf i < (nsI (negs m lim)).length ∧ nth (nsI (negs m lim)) ((negs m lim).idxOf i : Int) = (i : Int) ∧ ∀ k : Nat, k < (negs m lim).idxOf i → nth (nsI (negs m lim)) (k : Int) ≠ (i : Int) := by
  have hm := mem_negs.mpr ⟨hi, h⟩
  have hl := List.idxOf_lt_length_of_mem hm
  have hnd : (negs m lim).Nodup := List.nodup_range.filter _
  refine ⟨by rw [List.length_map]; exact hl, by rw [nth_nsI hl, List.getElem_idxOf hl], fun k hk e => ?_⟩
  rw [nth_nsI (by omega)] at e
  have e1 : (negs m lim)[k]'(by omega) = i := by omega
  have := hnd.idxOf_getElem k (by omega)
  rw [e1] at this
  omega
theorem in_nsI {m i : Nat} {lim : Nat → Rat} (hi : i < m) : decide ((i : Int) ∈ nsI (negs m lim)) = decide (lim i < 0) := by
  rw [decide_eq_decide]
  constructor
  · intro h
    obtain ⟨k, hk, e⟩ := List.mem_map.mp h
    have : k = i := by omega
    subst this
    exact (mem_negs.mp hk).2
  · intro h
    exact List.mem_map.mpr ⟨i, mem_negs.mpr ⟨hi, h⟩, rfl⟩
end SB
namespace SB
theorem nth_snoc {bs : List Int} {v : Int} {i k : Nat} (h : bs.length = i) (hk : k < i + 1) : nth (bs ++ [v]) (k : Int) = if k = i then v else nth bs (k : Int) := by
  by_cases e : k = i
  · have e2 : k = bs.length + 0 := by omega
    rw [if_pos e, e2, nthN_app2 (by simp)]
    rfl
  · rw [if_neg e, nthN_app1 (by omega)]
end SB
namespace SB
/-- the numbers are of small denominators -/
structure ProgSz (A : List (List Rat)) (lim g : List Rat) : Prop where
  a : ∃ (D : Int) (k : Nat), D ≠ 0 ∧ D.natAbs < 2 ^ k ∧ 2 ^ A.length * (k + 1) ≤ 1140 ∧ (∀ r ∈ A, ∀ q ∈ r, Fr D k q) ∧ ∀ q ∈ lim, Fr D k q
  g : ∃ D : Int, D ≠ 0 ∧ D.natAbs < 2 ^ 100 ∧ ∀ q ∈ g, Fr D 100 q
def o1f (q n j : Nat) : Rat := if q ≤ j ∧ j < n then 1 else 0
def o2f (g : List Rat) (j : Nat) : Rat := if j < g.length then 0 - nth g (j : Int) else 0
abbrev pT (A : List (List Rat)) (lim g : List Rat) : Nat → Nat → Rat := T0f g.length A.length (ent A) (atN lim)
abbrev pB (A : List (List Rat)) (lim g : List Rat) : Nat → Nat := b0f g.length A.length (atN lim)
abbrev pN (A : List (List Rat)) (lim g : List Rat) : Nat := wideN g.length A.length (atN lim)
section
variable {A : List (List Rat)} {lim g : List Rat}
theorem pN_le (P : ProgOk A lim g) : g.length + A.length ≤ pN A lim g ∧ pN A lim g ≤ 18 := by
  have h1 := List.length_filter_le (fun k => decide (atN lim k < 0)) (List.range A.length)
  rw [List.length_range] at h1
  have h2 : pN A lim g = g.length + A.length + (negs A.length (atN lim)).length := rfl
  have h3 := P.g6
  have h4 := P.a6
  unfold negs at h2
  omega
theorem p_szd (P : ProgOk A lim g) (Z : ProgSz A lim g) : Szd A.length (pN A lim g) (pT A lim g) := by
  obtain ⟨D, k, h0, hd, hk, hA, hl⟩ := Z.a
  exact szd_of (first_ok (p := g.length) (A := ent A) (lim := atN lim)).bas (first_fr h0 hd (fun i j hi hj => hA _ (nthN_mem hi) _ (nthN_mem (by rw [P.rows _ (nthN_mem hi)]; exact hj))) fun i hi => hl _ (nthN_mem (by rw [← P.al]; exact hi))) hk
theorem p_bq (P : ProgOk A lim g) (Z : ProgSz A lim g) : (∀ r ∈ A, ∀ q ∈ r, Bq 1300 q) ∧ (∀ q ∈ lim, Bq 1300 q) ∧ ∀ q ∈ g, Bq 1300 q := by
  obtain ⟨D, k, h0, hd, hk, hA, hl⟩ := Z.a
  have hk' : k ≤ 1300 := by
    have := Nat.one_le_two_pow (n := A.length)
    have : 1 * (k + 1) ≤ 2 ^ A.length * (k + 1) := Nat.mul_le_mul_right _ this
    omega
  obtain ⟨D1, g0, gd, hg⟩ := Z.g
  exact ⟨fun r hr q hq => (fr_bq h0 hd (hA r hr q hq)).mono hk', fun q hq => (fr_bq h0 hd (hl q hq)).mono hk', fun q hq => (fr_bq g0 gd (hg q hq)).mono (by decide)⟩
theorem goal1 (P : ProgOk A lim g) (Z : ProgSz A lim g) : Goal A.length (pN A lim g) (pT A lim g) (o1f (g.length + A.length) (pN A lim g)) := by
  have h := pN_le P
  have h4 := P.a6
  refine ⟨p_szd P Z, by omega, by omega, 1, by decide, by decide, fun j hj => ?_⟩
  unfold o1f
  split
  · exact fr_self (by decide)
  · exact fr_zero
theorem goal2 (P : ProgOk A lim g) (Z : ProgSz A lim g) : Goal A.length (pN A lim g) (pT A lim g) (o2f g) := by
  have h := pN_le P
  have h4 := P.a6
  obtain ⟨D1, g0, gd, hg⟩ := Z.g
  refine ⟨p_szd P Z, by omega, by omega, D1, g0, gd, fun j hj => ?_⟩
  unfold o2f
  split
  · exact fr_neg (hg _ (nthN_mem (by assumption)))
  · exact fr_zero
theorem up_goal {m n : Nat} {T0 T : Nat → Nat → Rat} {b : Nat → Nat} {o0 : Nat → Rat} (B : IsBas m n T b) (f : ∀ i, i < m → 0 ≤ T i n) (sol : ∀ x, Sol m (n + 1) T0 x ↔ Sol m (n + 1) T x) : Up m n T0 o0 ⟨T, b, offRow m T b o0 m⟩ := by
  obtain ⟨h1, h2⟩ := goal_cfg (o' := offRow m T b o0 m) (o := o0) B (Nat.lt_succ_self n) f fun j _ => rfl
  exact ⟨h1, sol, h2⟩
theorem Goal.row {m n : Nat} {T0 T : Nat → Nat → Rat} {b : Nat → Nat} {o0 : Nat → Rat} (G : Goal m n T0 o0) (B : IsBas m n T b) (sol : ∀ x, Sol m (n + 1) T0 x ↔ Sol m (n + 1) T x) : ∀ t j, t ≤ m → j < n + 1 → Bq 1300 (offRow m T b o0 t j) := fun t j ht hj => by
  obtain ⟨D0, h0, h1, h2⟩ := G.fr
  exact szd_row G.sz B sol h0 h1 h2 G.m50 ht hj
theorem up_niceT {m n : Nat} {T0 : Nat → Nat → Rat} {o0 : Nat → Rat} {C : Cfg} (u : Up m n T0 o0 C) (G : Goal m n T0 o0) : ∃ (D : Int) (k : Nat), k ≤ 1300 ∧ D ≠ 0 ∧ D.natAbs < 2 ^ k ∧ ∀ i j, i < m → j < n + 1 → Fr D k (C.T i j) := by
  obtain ⟨D, k, hk, f⟩ := G.sz _ _ u.ok.B u.sol
  exact ⟨D, k, by omega, f.ne, f.lt, f.fr⟩
theorem up_niceO {m n : Nat} {T0 : Nat → Nat → Rat} {o0 : Nat → Rat} {C : Cfg} (u : Up m n T0 o0 C) (G : Goal m n T0 o0) : ∃ (D : Int) (k : Nat), k ≤ 1300 ∧ D ≠ 0 ∧ D.natAbs < 2 ^ k ∧ ∀ j, j < n + 1 → Fr D k (C.o j) := by
  obtain ⟨D, k, hk, f⟩ := G.sz _ _ u.ok.B u.sol
  obtain ⟨D0, h0, h1, h2⟩ := G.fr
  have hm := G.m50
  refine ⟨D0 * D, 100 + k + m, by omega, Int.mul_ne_zero h0 f.ne, ?_, fun j hj => ?_⟩
  · exact Nat.lt_of_lt_of_le (mul_lt2 h1 f.lt) (Nat.pow_le_pow_right (by decide) (by omega))
  · rw [goal_one u.ok.B (Nat.le_succ n) u.ok.z u.ev hj]
    exact fr_row f h0 h2 (g := fun i => o0 (C.b i)) (fun i hi => h2 _ (by have := u.ok.B.lt i hi; omega)) hj f.lt m (Nat.le_refl _)
theorem nice_O {m n s : Nat} {T0 : Nat → Nat → Rat} {o0 : Nat → Rat} {C : Cfg} (u : Up m n T0 o0 C) (G : Goal m n T0 o0) {f : Nat → Nat} (hf : ∀ k, k < s → f k < n + 1) : Nice ((List.range s).map fun k => C.o (f k)) := by
  obtain ⟨D, k, h1, h2, h3, h4⟩ := up_niceO u G
  refine ⟨D, k, h1, h2, h3, fun q hq => ?_⟩
  obtain ⟨j, hj, rfl⟩ := List.mem_map.mp hq
  exact h4 _ (hf j (List.mem_range.mp hj))
theorem nice_B {m n s : Nat} {T0 : Nat → Nat → Rat} {o0 : Nat → Rat} {C : Cfg} (u : Up m n T0 o0 C) (G : Goal m n T0 o0) (hs : s ≤ n) : Nice ((List.range s).map (basv m C.T C.b n)) := by
  obtain ⟨D, k, h1, h2, h3, h4⟩ := up_niceT u G
  refine ⟨D, k, h1, h2, h3, fun q hq => ?_⟩
  obtain ⟨j, hj, rfl⟩ := List.mem_map.mp hq
  have hj' := List.mem_range.mp hj
  by_cases h : ∃ i, i < m ∧ C.b i = j
  · obtain ⟨i, hi, rfl⟩ := h
    rw [basv_b u.ok.B hi]
    exact h4 i n hi (by omega)
  · rw [basv_0 (by omega) fun i hi e => h ⟨i, hi, e⟩]
    exact fr_zero
theorem nice_D {m n c : Nat} {T0 : Nat → Nat → Rat} {o0 : Nat → Rat} {C : Cfg} {r : List Rat} (u : Up m n T0 o0 C) (G : Goal m n T0 o0) (hc : c < n + 1) (hb : ∀ i, i < m → C.b i ≠ c) (hr : ∀ j : Nat, j < r.length → nth r (j : Int) = dirv m C.T C.b c j) : Nice r := by
  obtain ⟨D, k, h1, h2, h3, h4⟩ := up_niceT u G
  refine ⟨D, k, h1, h2, h3, fun q hq => ?_⟩
  obtain ⟨j, hj, rfl⟩ := mem_nthN hq
  rw [hr j hj]
  by_cases e : j = c
  · subst e; rw [dirv_j]; exact fr_self h3
  · by_cases h : ∃ i, i < m ∧ C.b i = j
    · obtain ⟨i, hi, rfl⟩ := h
      rw [dirv_b u.ok.B hi (hb i hi)]
      have := fr_neg (h4 i c hi hc)
      rw [show (0 : Rat) - C.T i c = - C.T i c by grind] at this
      exact this
    · rw [dirv_0 e fun i hi z => h ⟨i, hi, z⟩]
      exact fr_zero
theorem pays_congr {p m : Nat} {A : Nat → Nat → Rat} {g y z : Nat → Rat} (h : ∀ k, k < m → z k = y k) (q : Pays p m A g y) : Pays p m A g z :=
  ⟨fun k hk => by rw [h k hk]; exact q.1 k hk, fun j hj => by rw [sm_congr fun k hk => by rw [h k hk]]; exact q.2 j hj⟩
theorem feas_congr {p m : Nat} {A : Nat → Nat → Rat} {l x z : Nat → Rat} (h : ∀ k, k < p → z k = x k) (q : Feas p m A l x) : Feas p m A l z :=
  ⟨fun k hk => by rw [h k hk]; exact q.1 k hk, fun j hj => by rw [sm_congr fun k hk => by rw [h k hk]]; exact q.2 j hj⟩
theorem res_none (P : ProgOk A lim g) (Z : ProgSz A lim g) {C : Cfg} (u : Up A.length (pN A lim g) (pT A lim g) (o1f (g.length + A.length) (pN A lim g)) C) (ho : ∀ j, j < pN A lim g → 0 ≤ C.o j) (h : C.o (pN A lim g) < 0) :
    ResOk A lim g (.none ((List.range A.length).map fun k => C.o (g.length + k))) := by
  have hle := pN_le P
  have hwe : wideN g.length A.length (atN lim) = pN A lim g := rfl
  have F := first_ok (p := g.length) (m := A.length) (A := ent A) (lim := atN lim)
  have hy : ∀ k, k < A.length → atN ((List.range A.length).map fun k => C.o (g.length + k)) k = C.o (g.length + k) := fun k hk => nthN_range hk
  obtain ⟨h1, h2⟩ := none_ok F (o0 := o1f (g.length + A.length) (pN A lim g)) (fun x hx => u.ev x ((u.sol x).mp hx)) (fun j hj => by unfold o1f; rw [if_neg (by omega)]) (by unfold o1f; rw [if_neg (by omega)]) (fun j hj => ho j (by omega)) h
  refine ⟨by rw [List.length_map, List.length_range], nice_O u (goal1 P Z) fun k hk => by omega, pays_congr hy h1, ?_⟩
  rw [sm_congr fun k hk => by rw [hy k hk]]
  exact h2
theorem res_best (P : ProgOk A lim g) (Z : ProgSz A lim g) {C : Cfg} (u : Up A.length (pN A lim g) (pT A lim g) (o2f g) C) (H : HelpZ (g.length + A.length) A.length (pN A lim g) C.T C.b) (ho : ∀ j, j < g.length + A.length → 0 ≤ C.o j) :
    ResOk A lim g (.best ((List.range g.length).map (basv A.length C.T C.b (pN A lim g))) ((List.range A.length).map fun k => C.o (g.length + k))) := by
  have hle := pN_le P
  have hwe : wideN g.length A.length (atN lim) = pN A lim g := rfl
  have F := first_ok (p := g.length) (m := A.length) (A := ent A) (lim := atN lim)
  have hy : ∀ k, k < A.length → atN ((List.range A.length).map fun k => C.o (g.length + k)) k = C.o (g.length + k) := fun k hk => nthN_range hk
  have hx : ∀ k, k < g.length → atN ((List.range g.length).map (basv A.length C.T C.b (pN A lim g))) k = basv A.length C.T C.b (pN A lim g) k := fun k hk => nthN_range hk
  obtain ⟨h1, h2, h3⟩ := best_ok F u.ok (fun x => (u.sol x).symm) (fun x hx => u.ev x ((u.sol x).mp hx)) H (g := atN g) (fun j hj => by unfold o2f; rw [if_pos hj]; grind) (fun j hj hj2 => by unfold o2f; rw [if_neg (by omega)]) ho
  refine ⟨by rw [List.length_map, List.length_range], by rw [List.length_map, List.length_range], nice_B u (goal2 P Z) (by omega), nice_O u (goal2 P Z) fun k hk => by omega, feas_congr hx h1, pays_congr hy h2, ?_⟩
  rw [sm_congr fun k hk => by rw [hx k hk], sm_congr (f := fun k => atN lim k * atN _ k) fun k hk => by rw [hy k hk]]
  exact h3
theorem res_endless (P : ProgOk A lim g) (Z : ProgSz A lim g) {C : Cfg} (u : Up A.length (pN A lim g) (pT A lim g) (o2f g) C) (H : HelpZ (g.length + A.length) A.length (pN A lim g) C.T C.b) {c : Nat} {d : List Rat} (hc : c < g.length + A.length) (ho : C.o c < 0) (ht : ∀ i, i < A.length → ¬ 0 < C.T i c)
    (hl : d.length = g.length) (hd : ∀ j : Nat, j < g.length → nth d (j : Int) = dirv A.length C.T C.b c j) :
    ResOk A lim g (.endless ((List.range g.length).map (basv A.length C.T C.b (pN A lim g))) d) := by
  have hle := pN_le P
  have hwe : wideN g.length A.length (atN lim) = pN A lim g := rfl
  have F := first_ok (p := g.length) (m := A.length) (A := ent A) (lim := atN lim)
  have hx : ∀ k, k < g.length → atN ((List.range g.length).map (basv A.length C.T C.b (pN A lim g))) k = basv A.length C.T C.b (pN A lim g) k := fun k hk => nthN_range hk
  have hb : ∀ i, i < A.length → C.b i ≠ c := fun i hi e => by
    have := u.ok.z i hi
    rw [e] at this
    grind
  obtain ⟨h1, h2, h3⟩ := end_ok F u.ok (fun x => (u.sol x).symm) (fun x hx => u.ev x ((u.sol x).mp hx)) H (g := atN g) (fun j hj => by unfold o2f; rw [if_pos hj]; grind) (fun j hj hj2 => by unfold o2f; rw [if_neg (by omega)]) hc ho ht
  refine ⟨by rw [List.length_map, List.length_range], hl, nice_B u (goal2 P Z) (by omega), nice_D u (goal2 P Z) (by omega) hb fun j hj => hd j (by omega), feas_congr hx h1, feas_congr hd h2, ?_⟩
  rw [sm_congr fun k hk => by rw [show atN d k = dirv A.length C.T C.b c k from hd k hk]]
  exact h3
end
end SB
/-! what the laws on programs draw and look at; plain -/
namespace SB
def lawTbl : List Rat := [⟨0, 1, by decide, by decide⟩, ⟨1, 1, by decide, by decide⟩, ⟨-1, 1, by decide, by decide⟩, ⟨2, 1, by decide, by decide⟩, ⟨1, 2, by decide, by decide⟩, ⟨-3, 2, by decide, by decide⟩, ⟨5, 1, by decide, by decide⟩, ⟨-2, 1, by decide, by decide⟩,
  ⟨1, 3, by decide, by decide⟩, ⟨10 ^ 20, 1, by decide, by decide⟩, ⟨0, 1, by decide, by decide⟩, ⟨7, 3, by decide, by decide⟩]
def lawRat (i : Int) : Rat := nth lawTbl (i % 12)
theorem lawRat_mem (i : Int) : lawRat i ∈ lawTbl := nth_mem (Int.emod_nonneg _ (by decide)) (Int.emod_lt_of_pos _ (by decide))
def qabs (q : Rat) : Rat := ⟨(q.num.natAbs : Int), q.den, q.den_nz, by rw [Int.natAbs_natCast]; exact q.reduced⟩
theorem tbl_fr : ∀ q ∈ lawTbl, Fr 6 70 q ∧ Fr 6 70 (qabs q) := by
  intro q hq
  unfold lawTbl at hq
  simp only [List.mem_cons, List.not_mem_nil, or_false] at hq
  rcases hq with rfl | rfl | rfl | rfl | rfl | rfl | rfl | rfl | rfl | rfl | rfl | rfl
  · exact ⟨⟨0, by decide, by decide +kernel⟩, ⟨0, by decide, by decide +kernel⟩⟩
  · exact ⟨⟨6, by decide, by decide +kernel⟩, ⟨6, by decide, by decide +kernel⟩⟩
  · exact ⟨⟨-6, by decide, by decide +kernel⟩, ⟨6, by decide, by decide +kernel⟩⟩
  · exact ⟨⟨12, by decide, by decide +kernel⟩, ⟨12, by decide, by decide +kernel⟩⟩
  · exact ⟨⟨3, by decide, by decide +kernel⟩, ⟨3, by decide, by decide +kernel⟩⟩
  · exact ⟨⟨-9, by decide, by decide +kernel⟩, ⟨9, by decide, by decide +kernel⟩⟩
  · exact ⟨⟨30, by decide, by decide +kernel⟩, ⟨30, by decide, by decide +kernel⟩⟩
  · exact ⟨⟨-12, by decide, by decide +kernel⟩, ⟨12, by decide, by decide +kernel⟩⟩
  · exact ⟨⟨2, by decide, by decide +kernel⟩, ⟨2, by decide, by decide +kernel⟩⟩
  · exact ⟨⟨6 * 10 ^ 20, by decide, by decide +kernel⟩, ⟨6 * 10 ^ 20, by decide, by decide +kernel⟩⟩
  · exact ⟨⟨0, by decide, by decide +kernel⟩, ⟨0, by decide, by decide +kernel⟩⟩
  · exact ⟨⟨14, by decide, by decide +kernel⟩, ⟨14, by decide, by decide +kernel⟩⟩
/-- what the law draws -/
def pWide (ns : List Int) : Nat := (1 + mix ns 0 % 4).toNat
def pHigh (ns : List Int) : Nat := (mix ns 1 % 5).toNat
def pA (ns : List Int) : List (List Rat) := (List.range (pHigh ns)).map fun k : Nat => (List.range (pWide ns)).map fun j : Nat => lawRat (mix ns (2 + 5 * (k : Int) + (j : Int)) / 3)
def pL0 (ns : List Int) : List Rat := (List.range (pHigh ns)).map fun k : Nat => lawRat (mix ns (30 + (k : Int)) / 5)
def pLim (ns : List Int) : List Rat := if mix ns 40 % 3 = 0 then (pL0 ns).map qabs else pL0 ns
def pG (ns : List Int) : List Rat := (List.range (pWide ns)).map fun j : Nat => lawRat (mix ns (41 + (j : Int)) / 7)
theorem pWide_bd (ns : List Int) : 1 ≤ pWide ns ∧ pWide ns ≤ 4 ∧ (pWide ns : Int) = 1 + mix ns 0 % 4 := by
  have h1 := Int.emod_nonneg (mix ns 0) (show (4 : Int) ≠ 0 by decide)
  have h2 := Int.emod_lt_of_pos (mix ns 0) (show (0 : Int) < 4 by decide)
  unfold pWide
  omega
theorem pHigh_bd (ns : List Int) : pHigh ns ≤ 4 ∧ (pHigh ns : Int) = mix ns 1 % 5 := by
  have h1 := Int.emod_nonneg (mix ns 1) (show (5 : Int) ≠ 0 by decide)
  have h2 := Int.emod_lt_of_pos (mix ns 1) (show (0 : Int) < 5 by decide)
  unfold pHigh
  omega
theorem pLim_len (ns : List Int) : (pLim ns).length = pHigh ns := by
  unfold pLim pL0
  split
  · rw [List.length_map, List.length_map, List.length_range]
  · rw [List.length_map, List.length_range]
theorem p_ok (ns : List Int) : ProgOk (pA ns) (pLim ns) (pG ns) := by
  obtain ⟨h1, h2, _⟩ := pWide_bd ns
  obtain ⟨h3, _⟩ := pHigh_bd ns
  have e1 : (pG ns).length = pWide ns := by unfold pG; rw [List.length_map, List.length_range]
  have e2 : (pA ns).length = pHigh ns := by unfold pA; rw [List.length_map, List.length_range]
  refine ⟨by omega, by omega, by omega, by rw [e2, pLim_len], fun r hr => ?_⟩
  unfold pA at hr
  obtain ⟨k, _, rfl⟩ := List.mem_map.mp hr
  rw [e1, List.length_map, List.length_range]
theorem p_frA (ns : List Int) : ∀ r ∈ pA ns, ∀ q ∈ r, Fr 6 70 q := fun r hr q hq => by
  unfold pA at hr
  obtain ⟨k, _, rfl⟩ := List.mem_map.mp hr
  obtain ⟨j, _, rfl⟩ := List.mem_map.mp hq
  exact (tbl_fr _ (lawRat_mem _)).1
theorem p_frL (ns : List Int) : ∀ q ∈ pLim ns, Fr 6 70 q := fun q hq => by
  unfold pLim at hq
  split at hq
  · obtain ⟨z, hz, rfl⟩ := List.mem_map.mp hq
    unfold pL0 at hz
    obtain ⟨k, _, rfl⟩ := List.mem_map.mp hz
    exact (tbl_fr _ (lawRat_mem _)).2
  · unfold pL0 at hq
    obtain ⟨k, _, rfl⟩ := List.mem_map.mp hq
    exact (tbl_fr _ (lawRat_mem _)).1
theorem p_frG (ns : List Int) : ∀ q ∈ pG ns, Fr 6 70 q := fun q hq => by
  unfold pG at hq
  obtain ⟨k, _, rfl⟩ := List.mem_map.mp hq
  exact (tbl_fr _ (lawRat_mem _)).1
theorem p_sz (ns : List Int) : ProgSz (pA ns) (pLim ns) (pG ns) := by
  obtain ⟨h3, _⟩ := pHigh_bd ns
  have e2 : (pA ns).length = pHigh ns := by unfold pA; rw [List.length_map, List.length_range]
  refine ⟨⟨6, 70, by decide, by decide, ?_, p_frA ns, p_frL ns⟩, ⟨6, by decide, by decide, fun q hq => (p_frG ns q hq).mono (by decide)⟩⟩
  rw [e2]
  have : 2 ^ pHigh ns ≤ 2 ^ 4 := Nat.pow_le_pow_right (by decide) h3
  omega
/-- two numbers that stand for a ratio -/
structure PR (t u : Int) (q : Rat) : Prop where
  pos : 0 < u
  eq : (t : Rat) = q * (u : Rat)
  bt : t.natAbs < 2 ^ 20000
  bu : u.natAbs < 2 ^ 20000
theorem pr_q {q : Rat} (h : Bq 4000 q) : PR q.num (q.den : Int) q := by
  refine ⟨den_pos' q, ?_, Nat.lt_trans h.1 (Nat.pow_lt_pow_right (by decide) (by decide)), ?_⟩
  · have := Rat.num_divInt_den q
    rw [Rat.divInt_eq_div] at this
    have hd : ((q.den : Int) : Rat) ≠ 0 := fr_ne (by have := den_pos' q; omega)
    grind
  · rw [Int.natAbs_natCast]
    exact Nat.lt_trans h.2 (Nat.pow_lt_pow_right (by decide) (by decide))
def ordI (a b : Rat) : Int := if a < b then -1 else if b < a then 1 else 0
theorem cast_pos {u : Int} (h : 0 < u) : (0 : Rat) < (u : Rat) := by exact_mod_cast h
theorem cast_lt {a b : Int} : (a : Rat) < (b : Rat) ↔ a < b := by exact_mod_cast Iff.rfl
theorem pr_ord {t u t' u' : Int} {a b : Rat} (h : PR t u a) (h' : PR t' u' b) : (if 0 < t * u' - t' * u then (1 : Int) else 0) - (if t * u' - t' * u < 0 then (1 : Int) else 0) = ordI a b := by
  have p1 := cast_pos h.pos
  have p2 := cast_pos h'.pos
  have p3 : (0 : Rat) < (u : Rat) * (u' : Rat) := Rat.mul_pos p1 p2
  have e : ((t * u' - t' * u : Int) : Rat) = (a - b) * ((u : Rat) * (u' : Rat)) := by
    rw [Rat.intCast_sub, Rat.intCast_mul, Rat.intCast_mul, h.eq, h'.eq]
    grind
  have i1 : 0 < t * u' - t' * u ↔ b < a := by
    rw [← cast_lt, e]
    constructor
    · intro z
      apply Classical.byContradiction
      intro w
      have : 0 ≤ (b - a) * ((u : Rat) * (u' : Rat)) := Rat.mul_nonneg (by grind) (Rat.le_of_lt p3)
      grind
    · intro z
      have : 0 < (a - b) * ((u : Rat) * (u' : Rat)) := Rat.mul_pos (by grind) p3
      simpa using this
  have i2 : t * u' - t' * u < 0 ↔ a < b := by
    rw [← cast_lt, e]
    constructor
    · intro z
      apply Classical.byContradiction
      intro w
      have : 0 ≤ (a - b) * ((u : Rat) * (u' : Rat)) := Rat.mul_nonneg (by grind) (Rat.le_of_lt p3)
      grind
    · intro z
      have : 0 < (b - a) * ((u : Rat) * (u' : Rat)) := Rat.mul_pos (by grind) p3
      have : (a - b) * ((u : Rat) * (u' : Rat)) < 0 := by grind
      simpa using this
  unfold ordI
  simp only [i1, i2]
  by_cases c1 : a < b
  · rw [if_pos c1, if_pos c1, if_neg (by grind)]
    rfl
  · rw [if_neg c1, if_neg c1]
    by_cases c2 : b < a
    · rw [if_pos c2]; rfl
    · rw [if_neg c2]; rfl
theorem ord_le {a b : Rat} : ordI a b ≤ 0 ↔ a ≤ b := by
  unfold ordI
  split
  · constructor
    · intro; grind
    · intro; decide
  · split
    · constructor
      · intro h; exact absurd h (by decide)
      · intro h; grind
    · constructor
      · intro; grind
      · intro; decide
theorem ord_ge {a b : Rat} : 0 ≤ ordI a b ↔ b ≤ a := by
  unfold ordI
  split
  · constructor
    · intro h; exact absurd h (by decide)
    · intro; grind
  · split
    · constructor
      · intro h; grind
      · intro h; decide
    · constructor
      · intro; grind
      · intro; decide
theorem ord_eq {a b : Rat} : ordI a b = 0 ↔ a = b := by
  unfold ordI
  split
  · constructor
    · intro h; exact absurd h (by decide)
    · intro; grind
  · split
    · constructor
      · intro h; exact absurd h (by decide)
      · intro h; grind
    · constructor
      · intro; grind
      · intro; rfl
theorem pr_neg {t u : Int} {q : Rat} (h : PR t u q) : t < 0 ↔ q < 0 := by
  have p1 := cast_pos h.pos
  rw [← cast_lt, h.eq]
  constructor
  · intro z
    apply Classical.byContradiction
    intro w
    have : 0 ≤ q * (u : Rat) := Rat.mul_nonneg (by grind) (Rat.le_of_lt p1)
    have z' : q * (u : Rat) < 0 := by simpa using z
    grind
  · intro z
    have : 0 < (0 - q) * (u : Rat) := Rat.mul_pos (by grind) p1
    have : q * (u : Rat) < 0 := by grind
    simpa using this
theorem pr_pos {t u : Int} {q : Rat} (h : PR t u q) : 0 < t ↔ 0 < q := by
  have p1 := cast_pos h.pos
  rw [← cast_lt, h.eq]
  constructor
  · intro z
    apply Classical.byContradiction
    intro w
    have : 0 ≤ (0 - q) * (u : Rat) := Rat.mul_nonneg (by grind) (Rat.le_of_lt p1)
    have z' : 0 < q * (u : Rat) := by simpa using z
    grind
  · intro z
    have : 0 < q * (u : Rat) := Rat.mul_pos z p1
    simpa using this
theorem num_nonneg' {q : Rat} : 0 ≤ q.num ↔ 0 ≤ q := Rat.num_nonneg
/-- the sums' two numbers -/
structure SumI (r s : List Rat) (i : Nat) (t u : Int) : Prop where
  pos : 0 < u
  eq : (t : Rat) = (sm i fun j => nth r (j : Int) * nth s (j : Int)) * (u : Rat)
  bt : t.natAbs < 2 ^ (2601 * i + 1)
  bu : u.natAbs < 2 ^ (2601 * i + 1)
theorem step_bt {t u a d b e : Int} {k l : Nat} (ht : t.natAbs < 2 ^ k) (hu : u.natAbs < 2 ^ k) (ha : a.natAbs < 2 ^ l) (hb : b.natAbs < 2 ^ l) (hd : d.natAbs < 2 ^ l) (he : e.natAbs < 2 ^ l) : (t * d * e + a * b * u).natAbs < 2 ^ (k + l + l + 1) ∧ (u * d * e).natAbs < 2 ^ (k + l + l) := by
  refine ⟨add_lt2 (mul_lt2 (mul_lt2 ht hd) he) ?_, mul_lt2 (mul_lt2 hu hd) he⟩
  have e : k + l + l = l + l + k := by omega
  rw [e]
  exact mul_lt2 (mul_lt2 ha hb) hu
theorem sumI_step {r s : List Rat} {i : Nat} {t u : Int} {a b : Rat} (h : SumI r s i t u) (ea : nth r (i : Int) = a) (eb : nth s (i : Int) = b) (ha : Bq 1300 a) (hb : Bq 1300 b) :
    SumI r s (i + 1) (t * a.den * b.den + a.num * b.num * u) (u * a.den * b.den) := by
  have p1 := den_pos' a
  have p2 := den_pos' b
  have qa := (pr_q (ha.mono (show 1300 ≤ 4000 by decide))).eq
  have qb := (pr_q (hb.mono (show 1300 ≤ 4000 by decide))).eq
  have h3 := h.eq
  refine ⟨Int.mul_pos (Int.mul_pos h.pos p1) p2, ?_, ?_, ?_⟩
  · rw [Rat.intCast_add, Rat.intCast_mul, Rat.intCast_mul, Rat.intCast_mul, Rat.intCast_mul, Rat.intCast_mul, Rat.intCast_mul, h3, qa, qb, sm, ea, eb]
    grind
  · exact Nat.lt_of_lt_of_le (step_bt h.bt h.bu ha.1 hb.1 (bqd ha) (bqd hb)).1 (Nat.pow_le_pow_right (by decide) (by omega))
  · exact Nat.lt_of_lt_of_le (step_bt h.bt h.bu ha.1 hb.1 (bqd ha) (bqd hb)).2 (Nat.pow_le_pow_right (by decide) (by omega))
theorem sumI_pr {r s : List Rat} {i : Nat} {t u : Int} (h : SumI r s i t u) (hi : i ≤ 7) : PR t u (sm i fun j => nth r (j : Int) * nth s (j : Int)) :=
  ⟨h.pos, h.eq, Nat.lt_of_lt_of_le h.bt (Nat.pow_le_pow_right (by decide) (by omega)), Nat.lt_of_lt_of_le h.bu (Nat.pow_le_pow_right (by decide) (by omega))⟩
/-- whether parts keep bounds, prices pay -/
def keptB (A : List (List Rat)) (lim x : List Rat) : Bool := (x.all fun q => decide (0 ≤ q)) && (List.range A.length).all fun k => decide (sm x.length (fun j => ent A k j * nth x (j : Int)) ≤ nth lim (k : Int))
def paysB (A : List (List Rat)) (g y : List Rat) : Bool := (y.all fun q => decide (0 ≤ q)) && (List.range g.length).all fun j => decide (nth g (j : Int) ≤ sm y.length (fun k => ent A k j * nth y (k : Int)))
theorem all_nth {x : List Rat} (h : ∀ j : Nat, j < x.length → 0 ≤ nth x (j : Int)) : (x.all fun q => decide (0 ≤ q)) = true := by
  rw [List.all_eq_true]
  intro q hq
  obtain ⟨j, hj, rfl⟩ := mem_nthN hq
  exact decide_eq_true (h j hj)
theorem kept_of {A : List (List Rat)} {lim x : List Rat} (h : Feas x.length A.length (ent A) (atN lim) (atN x)) : keptB A lim x = true := by
  unfold keptB
  rw [all_nth h.1, Bool.true_and, List.all_eq_true]
  intro k hk
  exact decide_eq_true (h.2 k (List.mem_range.mp hk))
theorem pays_of {A : List (List Rat)} {g y : List Rat} (h : Pays g.length y.length (ent A) (atN g) (atN y)) : paysB A g y = true := by
  unfold paysB
  rw [all_nth h.1, Bool.true_and, List.all_eq_true]
  intro k hk
  exact decide_eq_true (h.2 k (List.mem_range.mp hk))
theorem nice_bq {r : List Rat} (h : Nice r) : ∀ q ∈ r, Bq 1300 q := fun q hq => by
  obtain ⟨D, k, h1, h2, h3, h4⟩ := h
  exact (fr_bq h2 h3 (h4 q hq)).mono h1
end SB
/-! plain products stay small -/
namespace SB
theorem fr_addn {D : Int} {k : Nat} {a b : Rat} (ha : Fr D k a) (hb : Fr D k b) : Fr D (k + 1) (a + b) := by
  obtain ⟨M, h1, h2⟩ := ha
  obtain ⟨N, h3, h4⟩ := hb
  refine ⟨M + N, add_lt2 h1 h3, ?_⟩
  rw [Rat.add_mul, h2, h4, Rat.intCast_add]
theorem fr_mul {D D' : Int} {k k' : Nat} {a b : Rat} (ha : Fr D k a) (hb : Fr D' k' b) : Fr (D * D') (k + k') (a * b) := by
  obtain ⟨M, h1, h2⟩ := ha
  obtain ⟨N, h3, h4⟩ := hb
  refine ⟨M * N, mul_lt2 h1 h3, ?_⟩
  rw [Rat.intCast_mul, Rat.intCast_mul, ← h2, ← h4]
  grind
theorem fr_sum {D : Int} {k : Nat} {f : Nat → Rat} : ∀ t : Nat, (∀ j, j < t → Fr D k (f j)) → Fr D (k + t) (sm t f)
  | 0, _ => by rw [sm]; exact fr_zero
  | t + 1, h => by
    rw [sm]
    exact fr_addn (fr_sum t fun j hj => h j (by omega)) ((h t (by omega)).mono (Nat.le_add_right _ _))
/-- all of a row over one number -/
def Com (k : Nat) (r : List Rat) : Prop := ∃ D : Int, D ≠ 0 ∧ D.natAbs < 2 ^ k ∧ ∀ q ∈ r, Fr D k q
theorem Com.mono {k l : Nat} {r : List Rat} (h : Com k r) (e : k ≤ l) : Com l r := by
  obtain ⟨D, h0, h1, h2⟩ := h
  exact ⟨D, h0, Nat.lt_of_lt_of_le h1 (Nat.pow_le_pow_right (by decide) e), fun q hq => (h2 q hq).mono e⟩
theorem com_bq {k : Nat} {r : List Rat} (h : Com k r) : ∀ q ∈ r, Bq k q := fun q hq => by
  obtain ⟨D, h0, h1, h2⟩ := h
  exact fr_bq h0 h1 (h2 q hq)
theorem dot_bq {k l n t : Nat} {r s : List Rat} (hr : Com k r) (hs : Com l s) (h1 : t ≤ r.length) (h2 : t ≤ s.length) (hn : k + l + t ≤ n) : Bq n (sm t fun j => nth r (j : Int) * nth s (j : Int)) := by
  obtain ⟨D, a0, a1, a2⟩ := hr
  obtain ⟨E, b0, b1, b2⟩ := hs
  have f := fr_sum (D := D * E) (k := k + l) (f := fun j : Nat => nth r (j : Int) * nth s (j : Int)) t fun j hj => fr_mul (a2 _ (nth_mem (by omega) (by omega))) (b2 _ (nth_mem (by omega) (by omega)))
  exact (fr_bq (Int.mul_ne_zero a0 b0) (Nat.lt_of_lt_of_le (mul_lt2 a1 b1) (Nat.pow_le_pow_right (by decide) (by omega))) f).mono hn
theorem com_6 {r : List Rat} (h : ∀ q ∈ r, Fr 6 70 q) : Com 70 r := ⟨6, by decide, by decide, h⟩
theorem nice_com {r : List Rat} (h : Nice r) : Com 1300 r := by
  obtain ⟨D, k, h1, h2, h3, h4⟩ := h
  exact ⟨D, h2, Nat.lt_of_lt_of_le h3 (Nat.pow_le_pow_right (by decide) h1), fun q hq => (h4 q hq).mono h1⟩
theorem atN_rep {n j : Nat} (h : j < n) : atN (List.replicate n 0) j = 0 := nthN_rep h
theorem pays0 {A : List (List Rat)} {n : Nat} {y : List Rat} (h : Pays n A.length (ent A) (fun _ => 0) (atN y)) (hl : y.length = A.length) : paysB A (List.replicate n 0) y = true := by
  refine pays_of ⟨fun k hk => h.1 k (by omega), fun j hj => ?_⟩
  rw [List.length_replicate] at hj
  rw [atN_rep hj, hl]
  exact h.2 j hj
theorem kept0 {A : List (List Rat)} {n : Nat} {x : List Rat} (h : Feas n A.length (ent A) (fun _ => 0) (atN x)) (hl : x.length = n) : keptB A (List.replicate A.length 0) x = true := by
  subst hl
  refine kept_of ⟨h.1, fun k hk => ?_⟩
  rw [atN_rep hk]
  exact h.2 k hk
theorem all_id {α : Type} {xs : List α} {f : α → Bool} : (xs.map f).all id = xs.all f := by
  rw [List.all_map]; rfl
theorem any_id {α : Type} {xs : List α} {f : α → Bool} : (xs.map f).any id = xs.any f := by
  rw [List.any_map]; rfl
section
variable {A : List (List Rat)} {lim g p : List Rat}
theorem kept_no (h : (!((p.map fun q => decide (0 ≤ q)).all id)) = true) : keptB A lim p = false := by
  rw [all_id, Bool.not_eq_true'] at h
  unfold keptB
  rw [h, Bool.false_and]
theorem kept_yes (h : (!((p.map fun q => decide (0 ≤ q)).all id)) = false) : keptB A lim p = ((List.range A.length).map fun k : Nat => decide (sm p.length (fun j => ent A k j * nth p (j : Int)) ≤ nth lim (k : Int))).all id := by
  rw [all_id, Bool.not_eq_false'] at h
  unfold keptB
  rw [h, Bool.true_and, all_id]
theorem pays_no (h : (!((p.map fun q => decide (0 ≤ q)).all id)) = true) : paysB A g p = false := by
  rw [all_id, Bool.not_eq_true'] at h
  unfold paysB
  rw [h, Bool.false_and]
theorem pays_yes (h : (!((p.map fun q => decide (0 ≤ q)).all id)) = false) : paysB A g p = ((List.range g.length).map fun j : Nat => decide (nth g (j : Int) ≤ sm p.length (fun k => ent A k j * nth p (k : Int)))).all id := by
  rw [all_id, Bool.not_eq_false'] at h
  unfold paysB
  rw [h, Bool.true_and, all_id]
theorem any_neg : ((p.map fun q => decide (q < 0)).any id) = !(p.all fun q => decide (0 ≤ q)) := by
  rw [any_id]
  induction p with
  | nil => rfl
  | cons a r ih =>
    rw [List.any_cons, List.all_cons, ih, Bool.not_and]
    congr 1
    by_cases c : a < 0
    · rw [decide_eq_true c, decide_eq_false (by grind)]; rfl
    · rw [decide_eq_false c, decide_eq_true (by grind)]; rfl
theorem kept_neg (h : ((p.map fun q => decide (q < 0)).any id) = true) : keptB A lim p = false := by
  rw [any_neg, Bool.not_eq_true'] at h
  unfold keptB
  rw [h, Bool.false_and]
theorem any_all {n : Nat} {a b : Nat → Rat} : (!(((List.range n).map fun k : Nat => decide (a k < b k)).any id)) = (List.range n).all fun k => decide (b k ≤ a k) := by
  rw [any_id]
  induction n with
  | zero => rfl
  | succ n ih =>
    rw [List.range_succ, List.any_append, List.all_append, Bool.not_or, ih]
    congr 1
    simp only [List.any_cons, List.any_nil, List.all_cons, List.all_nil, Bool.or_false, Bool.and_true]
    by_cases c : a n < b n
    · rw [decide_eq_true c, decide_eq_false (by grind)]; rfl
    · rw [decide_eq_false c, decide_eq_true (by grind)]; rfl
theorem kept_pos (h : ((p.map fun q => decide (q < 0)).any id) = false) : (!(((List.range A.length).map fun k : Nat => decide (nth lim (k : Int) < sm p.length (fun j => ent A k j * nth p (j : Int)))).any id)) = keptB A lim p := by
  rw [any_neg, Bool.not_eq_false'] at h
  unfold keptB
  rw [h, Bool.true_and]
  exact any_all
theorem pays_neg (h : ((p.map fun q => decide (q < 0)).any id) = true) : paysB A g p = false := by
  rw [any_neg, Bool.not_eq_true'] at h
  unfold paysB
  rw [h, Bool.false_and]
theorem pays_pos (h : ((p.map fun q => decide (q < 0)).any id) = false) : (!(((List.range g.length).map fun j : Nat => decide (sm p.length (fun k => ent A k j * nth p (k : Int)) < nth g (j : Int))).any id)) = paysB A g p := by
  rw [any_neg, Bool.not_eq_false'] at h
  unfold paysB
  rw [h, Bool.true_and]
  exact any_all
end
/-- what is no program -/
def wrongs (A : List (List Rat)) (lim g : List Rat) : List (List (List Rat) × List Rat × List Rat) :=
  [(A, lim, []), (A, lim, List.replicate 7 1), (A ++ [List.replicate (g.length + 1) 1], lim ++ [1], g), (A, lim ++ [1], g), (List.replicate 7 (List.replicate g.length 1), List.replicate 7 1, g)]
theorem wrong_no {A : List (List Rat)} {lim g : List Rat} (P : ProgOk A lim g) : ∀ q ∈ wrongs A lim g, ¬ ProgOk q.1 q.2.1 q.2.2 ∧ q.1.length ≤ 1000 := by
  intro q hq
  have h6 := P.a6
  have hal := P.al
  unfold wrongs at hq
  simp only [List.mem_cons, List.not_mem_nil, or_false] at hq
  rcases hq with rfl | rfl | rfl | rfl | rfl
  · exact ⟨fun z => absurd (show 1 ≤ ([] : List Rat).length from z.g1) (by decide), by dsimp only; omega⟩
  · refine ⟨fun z => ?_, by dsimp only; omega⟩
    have : (List.replicate 7 (1 : Rat)).length ≤ 6 := z.g6
    rw [List.length_replicate] at this
    omega
  · refine ⟨fun z => ?_, by rw [List.length_append, List.length_singleton]; omega⟩
    have : (List.replicate (g.length + 1) (1 : Rat)).length = g.length := z.rows (List.replicate (g.length + 1) 1) (List.mem_append.mpr (.inr (List.mem_singleton.mpr rfl)))
    rw [List.length_replicate] at this
    omega
  · refine ⟨fun z => ?_, by dsimp only; omega⟩
    have : A.length = (lim ++ [1]).length := z.al
    rw [List.length_append, List.length_singleton] at this
    omega
  · refine ⟨fun z => ?_, by rw [List.length_replicate]; decide⟩
    have := z.a6
    rw [List.length_replicate] at this
    omega
/-- a program whose numbers are small -/
structure GoodP (A : List (List Rat)) (lim g : List Rat) : Prop where
  ok : ProgOk A lim g
  sz : ProgSz A lim g
  a : ∀ r ∈ A, ∀ q ∈ r, Fr 6 70 q
  l : ∀ q ∈ lim, Fr 6 70 q
  g : ∀ q ∈ g, Fr 6 70 q
theorem p_good (ns : List Int) : GoodP (pA ns) (pLim ns) (pG ns) := ⟨p_ok ns, p_sz ns, p_frA ns, p_frL ns, p_frG ns⟩
abbrev onesR (n : Nat) : List Rat := List.replicate n 1
theorem fr_one : Fr 6 70 1 := fr_self (by decide)
theorem ones_good : GoodP (List.replicate 6 (onesR 6)) (onesR 6) (onesR 6) := by
  have q1 : ∀ {D : Int} {k : Nat}, D.natAbs < 2 ^ k → ∀ q ∈ onesR 6, Fr D k q := fun h q hq => by rw [(List.mem_replicate.mp hq).2]; exact fr_self h
  have q2 : ∀ {D : Int} {k : Nat}, D.natAbs < 2 ^ k → ∀ r ∈ List.replicate 6 (onesR 6), ∀ q ∈ r, Fr D k q := fun h r hr q hq => by
    rw [(List.mem_replicate.mp hr).2] at hq
    exact q1 h q hq
  refine ⟨⟨by decide, by decide, by decide, rfl, fun r hr => ?_⟩, ⟨⟨1, 1, by decide, by decide, by decide, q2 (by decide), q1 (by decide)⟩, ⟨1, by decide, by decide, q1 (by decide)⟩⟩, q2 (by decide), q1 (by decide), q1 (by decide)⟩
  rw [(List.mem_replicate.mp hr).2]
/-- parts and prices that are looked at -/
structure PartsOk (n : Nat) (s : List Rat) : Prop where
  len : s.length = n
  com : Com 1400 s
  bq : ∀ z ∈ s, Bq 1300 z
theorem parts_com {n : Nat} {s : List Rat} (hl : s.length = n) (h : Com 1300 s) : PartsOk n s := ⟨hl, h.mono (by decide), com_bq h⟩
theorem parts_nice {n : Nat} {s : List Rat} (hl : s.length = n) (h : Nice s) : Com 1300 s ∧ s.length = n := ⟨nice_com h, hl⟩
theorem parts_ones (n : Nat) : Com 1300 (onesR n) ∧ (onesR n).length = n :=
  ⟨⟨1, by decide, Nat.one_lt_two_pow (by decide), fun q hq => by rw [(List.mem_replicate.mp hq).2]; exact fr_self (Nat.one_lt_two_pow (by decide))⟩, List.length_replicate⟩
theorem com_set {k : Nat} {r : List Rat} {q : Rat} {i : Nat} (h : Com k r) (hq : Fr 6 70 q) : Com (k + 100) (r.set i q) := by
  obtain ⟨D, h0, h1, h2⟩ := h
  refine ⟨6 * D, Int.mul_ne_zero (by decide) h0, ?_, fun z hz => ?_⟩
  · have := mul_lt2 (show (6 : Int).natAbs < 2 ^ 100 by decide) h1
    rwa [Nat.add_comm] at this
  · rcases List.mem_or_eq_of_mem_set hz with hz | rfl
    · obtain ⟨M, m1, m2⟩ := h2 z hz
      refine ⟨6 * M, ?_, ?_⟩
      · have := mul_lt2 (show (6 : Int).natAbs < 2 ^ 100 by decide) m1
        rwa [Nat.add_comm] at this
      · rw [Rat.intCast_mul, Rat.intCast_mul, ← m2]
        grind
    · obtain ⟨M, m1, m2⟩ := hq
      refine ⟨M * D, ?_, ?_⟩
      · have := mul_lt2 (Nat.lt_trans m1 (show 2 ^ 70 < 2 ^ 100 by decide)) h1
        rwa [Nat.add_comm] at this
      · rw [Rat.intCast_mul, Rat.intCast_mul, ← m2]
        grind
theorem parts_set {n i : Nat} {s : List Rat} {q : Rat} (hl : s.length = n) (h : Com 1300 s) (hq : Fr 6 70 q) : PartsOk n (s.set i q) := by
  refine ⟨by rw [List.length_set]; exact hl, com_set h hq, fun z hz => ?_⟩
  rcases List.mem_or_eq_of_mem_set hz with hz | rfl
  · exact com_bq h z hz
  · exact (fr_bq (by decide) (by decide) hq).mono (by decide)
theorem row_bq {A : List (List Rat)} {p r : List Rat} {t : Nat} (f : ∀ r ∈ A, ∀ q ∈ r, Fr 6 70 q) (hr : r ∈ A) (hl : r.length = p.length) (h6 : r.length ≤ 6) (hp : Com 1400 p) (ht : t ≤ p.length) : Bq 4000 (sm t fun j => nth r (j : Int) * nth p (j : Int)) :=
  dot_bq (com_6 (f r hr)) hp (by omega) ht (by omega)
theorem col_bq {A : List (List Rat)} {p : List Rat} {i n t : Nat} (f : ∀ r ∈ A, ∀ q ∈ r, Fr 6 70 q) (hr : ∀ r ∈ A, r.length = n) (hi : i < n) (hl : p.length = A.length) (h6 : A.length ≤ 6) (hp : Com 1400 p) (ht : t ≤ p.length) : Bq 4000 (sm t fun k => ent A k i * nth p (k : Int)) := by
  have c : Com 70 (A.map fun r => nth r (i : Int)) := com_6 fun q hq => by
    obtain ⟨r, h, rfl⟩ := List.mem_map.mp hq
    exact f r h _ (nth_mem (by omega) (by rw [hr r h]; omega))
  have := dot_bq (t := t) (n := 4000) c hp (by rw [List.length_map]; omega) ht (by omega)
  rw [sm_congr fun j hj => by rw [nthN_map (by omega)]] at this
  exact this
end SB
/-! ratios and sheets as data -/
namespace SB
open PySem PySem.Spec PyProof.Rows L2
abbrev qD (q : Rat) : PyData := .tuple [.int q.num, .int (q.den : Int)]
abbrev rowQ (r : List Rat) : PyData := .list (r.map qD)
abbrev tabQ (M : List (List Rat)) : PyData := .list (M.map rowQ)
theorem q_ext {a b : Rat} (h1 : a.num = b.num) (h2 : a.den = b.den) : a = b := by
  cases a; cases b; simp_all
theorem eqv_q (a b : Rat) : PyData.eqv (qD a) (qD b) = decide (a = b) := by
  have e : PyData.eqv (qD a) (qD b) = ((a.num == b.num) && (((a.den : Int) == (b.den : Int)) && true)) := rfl
  rw [e]
  by_cases h : a = b
  · subst h; simp
  · rw [decide_eq_false h]
    by_cases h1 : a.num = b.num
    · have h2 : ¬ (a.den : Int) = (b.den : Int) := fun z => h (q_ext h1 (by omega))
      rw [show ((a.den : Int) == (b.den : Int)) = false by simpa using h2]
      simp
    · rw [show (a.num == b.num) = false by simpa using h1]
      rfl
theorem shp_q (q : Rat) : Shp 61 (qD q) := (shp_tup (n := 0) fun d hd => by
  simp only [List.mem_cons, List.not_mem_nil, or_false] at hd
  rcases hd with rfl | rfl
  · exact shp_int _
  · exact shp_int _).mono (by decide)
theorem shp_rowq (r : List Rat) : Shp 62 (rowQ r) := shp_map shp_q
theorem shp_tabq (M : List (List Rat)) : Shp 63 (tabQ M) := shp_map shp_rowq
section
variable {K : PySem.W.Frag} {S S' H : Hp} {O : List (Addr × HO)} {σ : L2.St} {Q : VK} {x y v : V}
theorem dp_const {a : Addr} {i j : Int} {q : Rat} (h : SqT K (fun _ => none) a [.int i, .int j]) (e1 : q.num = i := by rfl) (e2 : (q.den : Int) = j := by rfl) : Dp K S (.ref a) (qD q) := by
  subst e1 e2
  exact .tup (same_t (fun b u e => by cases e) h) (.cons (.int _) (.cons (.int _) .nil))
/-- an item of one of ours, by its datum -/
theorem x_ixDO {p : Addr} {vs : List V} {ds : List PyData} {i : Int} {d : PyData} (n : Nat) (W : Wd K S H O) (h : O[n]? = some (p, .lst vs)) (hd : DpAll K S vs ds) (hi : atI ds i = some d) (k : Kn K S d fun u => Q u H) : rIx K (.ref p) (.int i) H Q := by
  obtain ⟨u, hu, hu'⟩ := dp_at hd hi
  exact x_ixO n W h hu (k.of u hu')
/-- a row of the sheet -/
theorem x_rowO {p : Addr} {vs : List V} {M : List (List Rat)} {i : Int} {j : Nat} (n : Nat) (W : Wd K S H O) (h : O[n]? = some (p, .lst vs)) (hd : DpAll K S vs (M.map rowQ)) (e : i = (j : Int)) (h1 : j < M.length) (k : ∀ u, Dp K S u (rowQ (nth M (j : Int))) → Q u H) : rIx K (.ref p) (.int i) H Q := by
  subst e
  exact x_ixDO n W h hd (atI_map (f := rowQ) (by omega) (by omega)) (kn_lst fun u hu => k u hu)
/-- a row of rows that stay -/
theorem x_rowS {M : List (List Rat)} {i : Int} {j : Nat} (W : Wd K S H O) (h : Dp K S x (tabQ M)) (e : i = (j : Int)) (h1 : j < M.length) (k : ∀ u, Dp K S u (rowQ (nth M (j : Int))) → Q u H) : rIx K x (.int i) H Q := by
  subst e
  exact x_ixL W h (atI_map (f := rowQ) (by omega) (by omega)) (kn_lst fun u hu => k u hu)
/-- a ratio of a row -/
theorem x_ratQ {r : List Rat} {i : Int} {j : Nat} (W : Wd K S H O) (h : Dp K S x (rowQ r)) (e : i = (j : Int)) (h1 : j < r.length) (k : ∀ u, Dp K S u (qD (nth r (j : Int))) → Q u H) : rIx K x (.int i) H Q := by
  subst e
  exact x_ixL W h (atI_map (f := qD) (by omega) (by omega)) (kn_tup fun u hu => k u hu)
theorem atI_last {α : Type} {xs : List α} {n : Nat} (h : xs.length = n + 1) : atI xs (-1) = xs[n]? := by
  unfold atI
  have : ixN xs.length (-1) = some n := by
    unfold ixN
    rw [if_neg (by omega), if_pos (by omega)]
    congr 1
    omega
  rw [this]
  rfl
/-- the last one -/
theorem x_rowL {p : Addr} {vs : List V} {M : List (List Rat)} {m : Nat} (n : Nat) (W : Wd K S H O) (h : O[n]? = some (p, .lst vs)) (hd : DpAll K S vs (M.map rowQ)) (h1 : M.length = m + 1) (k : ∀ u, Dp K S u (rowQ (nth M (m : Int))) → Q u H) : rIx K (.ref p) (.int (-1)) H Q :=
  x_ixDO n W h hd (by rw [atI_last (n := m) (by rw [List.length_map]; exact h1), List.getElem?_map, nthN_get (by omega)]; rfl) (kn_lst fun u hu => k u hu)
theorem x_ratL {r : List Rat} {m : Nat} (W : Wd K S H O) (h : Dp K S x (rowQ r)) (h1 : r.length = m + 1) (k : ∀ u, Dp K S u (qD (nth r (m : Int))) → Q u H) : rIx K x (.int (-1)) H Q :=
  x_ixL W h (by rw [atI_last (n := m) (by rw [List.length_map]; exact h1), List.getElem?_map, nthN_get (by omega)]; rfl) (kn_tup fun u hu => k u hu)
/-- a number of the sheet -/
theorem x_eqQ {a b : Rat} (W : Wd K S H O) (h1 : Dp K S x (qD a)) (h2 : Dp K S y (qD b)) (q : Q (.bl (decide (a = b))) H) : rEqD K x y H Q :=
  x_eqD W h1 h2 ((shp_q a).mono (by decide)) ((shp_q b).mono (by decide)) (by rw [eqv_q]; exact q)
theorem x_neQ {a b : Rat} (W : Wd K S H O) (h1 : Dp K S x (qD a)) (h2 : Dp K S y (qD b)) (q : Q (.bl (!decide (a = b))) H) : rNeD K x y H Q :=
  x_neD W h1 h2 ((shp_q a).mono (by decide)) ((shp_q b).mono (by decide)) (by rw [eqv_q]; exact q)
/-- list + list: a new one that is ours -/
theorem x_catO {ds es : List PyData} (W : Wd K S H O) (h1 : Dp K S x (.list ds)) (h2 : Dp K S y (.list es)) (hl : ds.length + es.length ≤ 1000000) (k : ∀ p vs H', DpAll K S vs (ds ++ es) → Wd K S H' ((p, .lst vs) :: O) → Q (.ref p) H') : rCatS K x y H Q := by
  obtain ⟨a, us, rfl, hq1, ha⟩ := dp_lst_ex h1
  obtain ⟨b, ws, rfl, hq2, hb⟩ := dp_lst_ex h2
  exact ⟨a, b, us, ws, rfl, rfl, W.lst hq1, W.lst hq2, sz (by rw [dpAll_len ha, dpAll_len hb]; exact hl), fun l hl => k l _ _ (dpAll_cat ha hb) (W.alloc hl)⟩
/-- [v] * n of one datum: it stays -/
theorem dpAll_rep {d : PyData} (h : Dp K S v d) : ∀ n : Nat, DpAll K S (List.replicate n v) (List.replicate n d)
  | 0 => .nil
  | n + 1 => by rw [List.replicate_succ, List.replicate_succ]; exact .cons h (dpAll_rep h n)
theorem x_repS {p : Addr} {d : PyData} {n : Int} (W : Wd K S H ((p, .lst [v]) :: O)) (hv : Dp K S v d) (h0 : -1000000 ≤ n) (h1 : n ≤ 1000000) (k : ∀ S' H' u, Wd K S' H' O → Same S S' → Dp K S' u (.list (List.replicate n.toNat d)) → Q u H') : rRep (.ref p) (.int n) H Q :=
  x_rep W h0 h1 fun S' H' q W' hS => k _ _ _ (W'.give 0 rfl) (hS.trans (same_new (W'.atS 0 rfl))) (dp_give (W'.atS 0 rfl) (dpAll_rep (dp_mono hS hv) _))
theorem x_repO {p : Addr} {d : PyData} {n : Int} (W : Wd K S H ((p, .lst [v]) :: O)) (hv : Dp K S v d) (h0 : -1000000 ≤ n) (h1 : n ≤ 1000000) (k : ∀ S' H' q vs, Wd K S' H' ((q, .lst vs) :: O) → Same S S' → DpAll K S' vs (List.replicate n.toNat d) → Q (.ref q) H') : rRep (.ref p) (.int n) H Q :=
  x_rep W h0 h1 fun S' H' q W' hS => k _ _ q _ W' hS (dpAll_rep (dp_mono hS hv) _)
/-- a datum is put into one of ours -/
theorem x_setD {p : Addr} {vs : List V} {ds : List PyData} {i : Int} {j : Nat} {d : PyData} {Q : Hp → Prop} (n : Nat) (W : Wd K S H O) (h : O[n]? = some (p, .lst vs)) (hd : DpAll K S vs ds) (e : i = (j : Int)) (h1 : j < ds.length) (hv : Dp K S v d)
    (k : ∀ H', DpAll K S (vs.set j v) (ds.set j d) → Wd K S H' (O.set n (p, .lst (vs.set j v))) → Q H') : L2.rSetL (.ref p) (.int i) v H Q := by
  subst e
  exact x_setO n W h (ixN_of (by omega) (by rw [dpAll_len hd]; omega)) fun H' W' => k H' (dpAll_set j hd hv) (by rw [Int.toNat_natCast] at W'; exact W')
theorem x_ixIO {p : Addr} {xs : List Int} {i : Int} {j : Nat} (n : Nat) (W : Wd K S H O) (h : O[n]? = some (p, .lst (xs.map V.int))) (e : i = (j : Int)) (h1 : j < xs.length) (k : Q (.int (nth xs (j : Int))) H) : rIx K (.ref p) (.int i) H Q := by
  subst e
  exact x_ixM n W h (by omega) (by omega) k
/-- where an int stands in a list of ints -/
theorem idx_ints {l : Addr} {ns : List Int} {i : Int} {j : Nat} (h : SqL K H l (ns.map V.int)) (hj : j < ns.length) (e : nth ns (j : Int) = i) (u : ∀ k, k < j → nth ns (k : Int) ≠ i) (k : Q (.int (j : Int)) H) : rIndex K (.ref l) [.int i] H Q := by
  have g := nthN_get hj
  rw [e] at g
  refine ⟨l, _, .int i, j, .int i, rfl, rfl, h, rfl, flat_ints ns, by rw [List.getElem?_map, g]; rfl, by simp [eqV], fun m z hm hz => ?_, k⟩
  rw [List.getElem?_map] at hz
  cases em : ns[m]? with
  | none => rw [em] at hz; cases hz
  | some o =>
    rw [em] at hz
    cases hz
    have hne : o ≠ i := by
      rintro rfl
      exact u m hm (nth_nat em)
    simp [eqV, hne]
theorem x_idxM {p : Addr} {ns : List Int} {i : Int} {j : Nat} (n : Nat) (W : Wd K S H O) (h : O[n]? = some (p, .lst (ns.map V.int))) (hj : j < ns.length) (e : nth ns (j : Int) = i) (u : ∀ k, k < j → nth ns (k : Int) ≠ i) (k : Q (.int (j : Int)) H) : rIndex K (.ref p) [.int i] H Q :=
  idx_ints (.of (W.at n h)) hj e u k
theorem x_idxL {ns : List Int} {i : Int} {j : Nat} (W : Wd K S H O) (h : Dp K S x (.list (ns.map PyData.int))) (hj : j < ns.length) (e : nth ns (j : Int) = i) (u : ∀ k, k < j → nth ns (k : Int) ≠ i) (k : Q (.int (j : Int)) H) : rIndex K x [.int i] H Q := by
  obtain ⟨a, us, rfl, hq, ha⟩ := dp_lst_ex h
  rw [ints_of ha] at hq
  exact idx_ints (W.lst hq) hj e u k
/-- the first of ints -/
theorem x_hd {c : Int} {r : List Int} (W : Wd K S H O) (h : Dp K S x (.list ((c :: r).map PyData.int))) (k : Q (.int c) H) : rIx K x (.int 0) H Q :=
  x_ixL W h (d := .int c) (atI_of (by decide) rfl) (kn_int k)
theorem x_eqv {b c : Bool} {P : V → Prop} (e : b = c) (h : P (.bl c)) : P (.bl b) := by rw [e]; exact h
end
/-! ### rules with the fragment named -/
theorem idxa {X : Cx} {K : PySem.W.Frag} (e : X.K = K) : MtR X "list.index" (rIndex K) := e ▸ mt_index
theorem flda {X : Cx} {K : PySem.W.Frag} {e : Expr} {ta : TE} {f : Str} {pos : Pos} (ek : X.K = K) (he : PE X e ta) (hb : attributeBase e f X.env (eval e X.env) = eval e X.env) : PE X (.Attribute e f pos) (tFld K ta f) := ek ▸ pe_fld he hb
/-- the fields of a sheet -/
abbrev sFs (l b : Addr) (w : Int) : List (Str × V) := [("lines", .ref l), ("basis", .ref b), ("wide", .int w)]
section
variable {K : PySem.W.Frag} {S H : Hp} {O : List (Addr × HO)} {Q : VK} {C p dx l b : Addr} {w : Int}
theorem svL (n : Nat) (h1 : Wd K S H O) (h : O[n]? = some (p, .ins C dx (sFs l b w))) (c : Cls K C) (na : NoAttr K C "lines") (z : Q (.ref l) H) : FldR K "lines" Q (.ref p) H := x_fldrO n h1 h c na (by rfl) z
theorem svB (n : Nat) (h1 : Wd K S H O) (h : O[n]? = some (p, .ins C dx (sFs l b w))) (c : Cls K C) (na : NoAttr K C "basis") (z : Q (.ref b) H) : FldR K "basis" Q (.ref p) H := x_fldrO n h1 h c na (by rfl) z
theorem svW (n : Nat) (h1 : Wd K S H O) (h : O[n]? = some (p, .ins C dx (sFs l b w))) (c : Cls K C) (na : NoAttr K C "wide") (z : Q (.int w) H) : FldR K "wide" Q (.ref p) H := x_fldrO n h1 h c na (by rfl) z
end
/-- what a sheet owns -/
abbrev shO (C p dx l b : Addr) (w : Int) (bs : List Int) (vs : List V) (O : List (Addr × HO)) : List (Addr × HO) := (p, .ins C dx (sFs l b w)) :: (dx, .own p) :: (b, .lst (bs.map V.int)) :: (l, .lst vs) :: O
/-- what solved tells, as data -/
def resD : Res → PyData
  | .none y => .tuple [.str "none", rowQ y]
  | .best x y => .tuple [.str "best", rowQ x, rowQ y]
  | .endless x d => .tuple [.str "endless", rowQ x, rowQ d]
theorem dpAll_dropLast {K : PySem.W.Frag} {S : Hp} {vs : List V} {ds : List PyData} (h : DpAll K S vs ds) : DpAll K S vs.dropLast ds.dropLast := by
  rw [List.dropLast_eq_take, List.dropLast_eq_take, dpAll_len h]
  exact dpAll_take _ h
section
variable {K : PySem.W.Frag} {S H : Hp} {O : List (Addr × HO)} {C p dx l b : Addr} {w : Int} {bs : List Int} {vs : List V}
/-- the sheet is let go -/
theorem sh_drop (W : Wd K S H (shO C p dx l b w bs vs O)) : ∃ S', Wd K S' H O ∧ Same S S' := by
  have W1 := W.give 0 rfl
  have h1 := same_new (W.atS 0 rfl) (o := .ins C dx (sFs l b w))
  have W2 := W1.give 0 rfl
  have h2 := same_new (W1.atS 0 rfl) (o := .own p)
  have W3 := W2.give 0 rfl
  have h3 := same_new (W2.atS 0 rfl) (o := .lst (bs.map V.int))
  have W4 := W3.give 0 rfl
  have h4 := same_new (W3.atS 0 rfl) (o := .lst vs)
  exact ⟨_, W4, h1.trans (h2.trans (h3.trans h4))⟩
end
end SB
namespace SB
open PySem PySem.Spec PyProof.Rows L2
abbrev veT : List Value := [.type "ValueError", .type "Exception", .type "BaseException", .type "object"]
/-! ### the text by places -/
def top (i : Nat) : Stmt := PySem.Challenge.pw_surebest_k71_reasons_looked_at.main.body.getD i (.Pass ⟨0, 0, 0, 0⟩)
abbrev s_common : Stmt := top 5
abbrev s_ratio : Stmt := top 6
abbrev s_plus : Stmt := top 7
abbrev s_minus : Stmt := top 8
abbrev s_times : Stmt := top 9
abbrev s_over : Stmt := top 10
abbrev s_is_less : Stmt := top 11
abbrev s_dot : Stmt := top 12
abbrev s_look_program : Stmt := top 17
abbrev s_first_sheet : Stmt := top 19
abbrev s_with_goal : Stmt := top 20
abbrev s_clear_helpers : Stmt := top 21
abbrev s_solved : Stmt := top 22
abbrev s_ray : Stmt := top 23
abbrev s_keeps : Stmt := top 24
abbrev s_turned : Stmt := top 25
abbrev s_are_prices_of : Stmt := top 26
abbrev s_law_cell : Stmt := top 28
abbrev s_law_mix : Stmt := top 29
abbrev s_law_ratio : Stmt := top 32
abbrev s_law_sum : Stmt := top 33
abbrev s_law_order : Stmt := top 34
abbrev s_law_program : Stmt := top 35
abbrev s_law_kept : Stmt := top 36
abbrev s_law_column : Stmt := top 37
abbrev s_law_pays : Stmt := top 38
abbrev s_law_refused : Stmt := top 41
abbrev s_law_turned : Stmt := top 42
abbrev s_law : Stmt := top 43
abbrev s_Sheet_init : Stmt := inClass (top 18) 0
abbrev s_Sheet_turn : Stmt := inClass (top 18) 1
abbrev s_Sheet_leaving : Stmt := inClass (top 18) 2
abbrev s_Sheet_climb : Stmt := inClass (top 18) 3
abbrev s_Sheet_worth : Stmt := inClass (top 18) 4
theorem sc_common : FnScope ["one", "other", "rest"] ["one", "other"] (defScope s_common) := ⟨rfl, rfl, rfl, by decide +kernel, rfl, by decide +kernel, by decide +kernel⟩
theorem sc_ratio : FnScope ["top", "under", "share"] ["top", "under"] (defScope s_ratio) := ⟨rfl, rfl, rfl, by decide +kernel, rfl, by decide +kernel, by decide +kernel⟩
theorem sc_plus : FnScope ["one", "other"] ["one", "other"] (defScope s_plus) := ⟨rfl, rfl, rfl, by decide +kernel, rfl, by decide +kernel, by decide +kernel⟩
theorem sc_minus : FnScope ["one", "other"] ["one", "other"] (defScope s_minus) := ⟨rfl, rfl, rfl, by decide +kernel, rfl, by decide +kernel, by decide +kernel⟩
theorem sc_times : FnScope ["one", "other"] ["one", "other"] (defScope s_times) := ⟨rfl, rfl, rfl, by decide +kernel, rfl, by decide +kernel, by decide +kernel⟩
theorem sc_over : FnScope ["one", "other"] ["one", "other"] (defScope s_over) := ⟨rfl, rfl, rfl, by decide +kernel, rfl, by decide +kernel, by decide +kernel⟩
theorem sc_is_less : FnScope ["one", "other"] ["one", "other"] (defScope s_is_less) := ⟨rfl, rfl, rfl, by decide +kernel, rfl, by decide +kernel, by decide +kernel⟩
theorem sc_dot : FnScope ["row", "other", "found", "a", "b"] ["row", "other"] (defScope s_dot) := ⟨rfl, rfl, rfl, by decide +kernel, rfl, by decide +kernel, by decide +kernel⟩
theorem sc_look_program : FnScope ["rows", "limits", "goal", "row"] ["rows", "limits", "goal"] (defScope s_look_program) := ⟨rfl, rfl, rfl, by decide +kernel, rfl, by decide +kernel, by decide +kernel⟩
theorem sc_first_sheet : FnScope ["rows", "limits", "goal", "many", "helped", "wide", "lines", "basis", "k", "line", "number"] ["rows", "limits", "goal"] (defScope s_first_sheet) := ⟨rfl, rfl, rfl, by decide +kernel, rfl, by decide +kernel, by decide +kernel⟩
theorem sc_with_goal : FnScope ["sheet", "goal", "first", "line", "k", "share", "number", "j"] ["sheet", "goal", "first"] (defScope s_with_goal) := ⟨rfl, rfl, rfl, by decide +kernel, rfl, by decide +kernel, by decide +kernel⟩
theorem sc_clear_helpers : FnScope ["sheet", "most", "k", "parts", "j"] ["sheet", "most"] (defScope s_clear_helpers) := ⟨rfl, rfl, rfl, by decide +kernel, rfl, by decide +kernel, by decide +kernel⟩
theorem sc_solved : FnScope ["rows", "limits", "goal", "many", "most", "sheet", "part", "parts", "k"] ["rows", "limits", "goal"] (defScope s_solved) := ⟨rfl, rfl, rfl, by decide +kernel, rfl, by decide +kernel, by decide +kernel⟩
theorem sc_ray : FnScope ["sheet", "part", "many", "found", "k"] ["sheet", "part", "many"] (defScope s_ray) := ⟨rfl, rfl, rfl, by decide +kernel, rfl, by decide +kernel, by decide +kernel⟩
theorem sc_keeps : FnScope ["rows", "limits", "parts", "number", "k"] ["rows", "limits", "parts"] (defScope s_keeps) := ⟨rfl, rfl, rfl, by decide +kernel, rfl, by decide +kernel, by decide +kernel⟩
theorem sc_turned : FnScope ["rows", "wide", "k", "row"] ["rows", "wide"] (defScope s_turned) := ⟨rfl, rfl, rfl, by decide +kernel, rfl, by decide +kernel, by decide +kernel⟩
theorem sc_are_prices_of : FnScope ["rows", "goal", "prices", "columns", "price", "k"] ["rows", "goal", "prices"] (defScope s_are_prices_of) := ⟨rfl, rfl, rfl, by decide +kernel, rfl, by decide +kernel, by decide +kernel⟩
theorem sc_law_cell : FnScope ["_law_script", "_law_k"] ["_law_script", "_law_k"] (defScope s_law_cell) := ⟨rfl, rfl, rfl, by decide +kernel, rfl, by decide +kernel, by decide +kernel⟩
theorem sc_law_mix : FnScope ["_law_script", "_law_k", "_law_number"] ["_law_script", "_law_k"] (defScope s_law_mix) := ⟨rfl, rfl, rfl, by decide +kernel, rfl, by decide +kernel, by decide +kernel⟩
theorem sc_law_ratio : FnScope ["_law_number", "_law_some"] ["_law_number"] (defScope s_law_ratio) := ⟨rfl, rfl, rfl, by decide +kernel, rfl, by decide +kernel, by decide +kernel⟩
theorem sc_law_sum : FnScope ["_law_row", "_law_other", "_law_top", "_law_under", "_law_a", "_law_b"] ["_law_row", "_law_other"] (defScope s_law_sum) := ⟨rfl, rfl, rfl, by decide +kernel, rfl, by decide +kernel, by decide +kernel⟩
theorem sc_law_order : FnScope ["_law_one", "_law_other", "_law_far"] ["_law_one", "_law_other"] (defScope s_law_order) := ⟨rfl, rfl, rfl, by decide +kernel, rfl, by decide +kernel, by decide +kernel⟩
theorem sc_law_program : FnScope ["_law_script", "_law_wide", "_law_high", "_law_rows", "_law_limits", "_law_k", "_law_j", "_law_one"] ["_law_script"] (defScope s_law_program) := ⟨rfl, rfl, rfl, by decide +kernel, rfl, by decide +kernel, by decide +kernel⟩
theorem sc_law_kept : FnScope ["_law_rows", "_law_limits", "_law_parts", "_law_part", "_law_k"] ["_law_rows", "_law_limits", "_law_parts"] (defScope s_law_kept) := ⟨rfl, rfl, rfl, by decide +kernel, rfl, by decide +kernel, by decide +kernel⟩
theorem sc_law_column : FnScope ["_law_rows", "_law_k", "_law_row"] ["_law_rows", "_law_k"] (defScope s_law_column) := ⟨rfl, rfl, rfl, by decide +kernel, rfl, by decide +kernel, by decide +kernel⟩
theorem sc_law_pays : FnScope ["_law_rows", "_law_goal", "_law_prices", "_law_price", "_law_k"] ["_law_rows", "_law_goal", "_law_prices"] (defScope s_law_pays) := ⟨rfl, rfl, rfl, by decide +kernel, rfl, by decide +kernel, by decide +kernel⟩
theorem sc_law_refused : FnScope ["_law_rows", "_law_limits", "_law_goal", "_law_refused_here", "e"] ["_law_rows", "_law_limits", "_law_goal"] (defScope s_law_refused) := ⟨rfl, rfl, rfl, by decide +kernel, rfl, by decide +kernel, by decide +kernel⟩
theorem sc_law_turned : FnScope ["_law_script", "_law_base", "_law_row", "_law_found"] ["_law_script", "_law_base", "_law_row"] (defScope s_law_turned) := ⟨rfl, rfl, rfl, by decide +kernel, rfl, by decide +kernel, by decide +kernel⟩
theorem sc_law : FnScope ["_law_script", "_law_made", "_law_rows", "_law_limits", "_law_goal", "_law_one", "_law_way", "_law_longer", "_law_wrong", "_law_found", "_law_parts", "_law_prices", "_law_some", "_law_answer", "_law_k", "_law_row"] ["_law_script"] (defScope s_law) := ⟨rfl, rfl, rfl, by decide +kernel, rfl, by decide +kernel, by decide +kernel⟩
theorem sc_Sheet_init : FnScope ["self", "lines", "basis", "wide"] ["self", "lines", "basis", "wide"] (defScope s_Sheet_init) := ⟨rfl, rfl, rfl, by decide +kernel, rfl, by decide +kernel, by decide +kernel⟩
theorem sc_Sheet_turn : FnScope ["self", "at", "part", "lead", "main", "k", "share", "number", "j"] ["self", "at", "part"] (defScope s_Sheet_turn) := ⟨rfl, rfl, rfl, by decide +kernel, rfl, by decide +kernel, by decide +kernel⟩
theorem sc_Sheet_leaving : FnScope ["self", "part", "found", "k", "share", "much", "like"] ["self", "part"] (defScope s_Sheet_leaving) := ⟨rfl, rfl, rfl, by decide +kernel, rfl, by decide +kernel, by decide +kernel⟩
theorem sc_Sheet_climb : FnScope ["self", "most", "parts", "at", "k"] ["self", "most"] (defScope s_Sheet_climb) := ⟨rfl, rfl, rfl, by decide +kernel, rfl, by decide +kernel, by decide +kernel⟩
theorem sc_Sheet_worth : FnScope ["self", "part"] ["self", "part"] (defScope s_Sheet_worth) := ⟨rfl, rfl, rfl, by decide +kernel, rfl, by decide +kernel, by decide +kernel⟩
/-! ### where all stands, and what the top has left -/
structure Ad where
  (a_common a_ratio a_plus a_minus a_times a_over a_is_less a_dot a_look_program a_first_sheet a_with_goal a_clear_helpers a_solved a_ray a_keeps a_turned a_are_prices_of a_law_cell a_law_mix a_law_ratio a_law_sum a_law_order a_law_program a_law_kept a_law_column a_law_pays a_law_refused a_law_turned a_law a_Sheet_init a_Sheet_turn a_Sheet_leaving a_Sheet_climb a_Sheet_worth c_Sheet c_BestError c_NoTable c_NoRatio o_NOUGHT : Addr)
  (f_common f_ratio f_plus f_minus f_times f_over f_is_less f_dot f_look_program f_first_sheet f_with_goal f_clear_helpers f_solved f_ray f_keeps f_turned f_are_prices_of f_law_cell f_law_mix f_law_ratio f_law_sum f_law_order f_law_program f_law_kept f_law_column f_law_pays f_law_refused f_law_turned f_law f_Sheet_init f_Sheet_turn f_Sheet_leaving f_Sheet_climb f_Sheet_worth : FuncData)
  (t_MOST_BOUNDS t_MOST_PARTS : Tok)
structure Txt (K : PySem.W.Frag) (mg : Str → Option Value) (d : Ad) : Prop where
  F_common : Fun K "common" "common" s_common d.a_common d.f_common
  p_common : Binds K d.f_common ["one", "other"] []
  g_common : mg "common" = some (.ref d.a_common)
  k_common : PySem.W.keepIn K (.ref d.a_common) = true
  F_ratio : Fun K "ratio" "ratio" s_ratio d.a_ratio d.f_ratio
  p_ratio : Binds K d.f_ratio ["top", "under"] []
  g_ratio : mg "ratio" = some (.ref d.a_ratio)
  k_ratio : PySem.W.keepIn K (.ref d.a_ratio) = true
  F_plus : Fun K "plus" "plus" s_plus d.a_plus d.f_plus
  p_plus : Binds K d.f_plus ["one", "other"] []
  g_plus : mg "plus" = some (.ref d.a_plus)
  k_plus : PySem.W.keepIn K (.ref d.a_plus) = true
  F_minus : Fun K "minus" "minus" s_minus d.a_minus d.f_minus
  p_minus : Binds K d.f_minus ["one", "other"] []
  g_minus : mg "minus" = some (.ref d.a_minus)
  k_minus : PySem.W.keepIn K (.ref d.a_minus) = true
  F_times : Fun K "times" "times" s_times d.a_times d.f_times
  p_times : Binds K d.f_times ["one", "other"] []
  g_times : mg "times" = some (.ref d.a_times)
  k_times : PySem.W.keepIn K (.ref d.a_times) = true
  F_over : Fun K "over" "over" s_over d.a_over d.f_over
  p_over : Binds K d.f_over ["one", "other"] []
  g_over : mg "over" = some (.ref d.a_over)
  k_over : PySem.W.keepIn K (.ref d.a_over) = true
  F_is_less : Fun K "is_less" "is_less" s_is_less d.a_is_less d.f_is_less
  p_is_less : Binds K d.f_is_less ["one", "other"] []
  g_is_less : mg "is_less" = some (.ref d.a_is_less)
  k_is_less : PySem.W.keepIn K (.ref d.a_is_less) = true
  F_dot : Fun K "dot" "dot" s_dot d.a_dot d.f_dot
  p_dot : Binds K d.f_dot ["row", "other"] []
  g_dot : mg "dot" = some (.ref d.a_dot)
  k_dot : PySem.W.keepIn K (.ref d.a_dot) = true
  F_look_program : Fun K "look_program" "look_program" s_look_program d.a_look_program d.f_look_program
  p_look_program : Binds K d.f_look_program ["rows", "limits", "goal"] []
  g_look_program : mg "look_program" = some (.ref d.a_look_program)
  k_look_program : PySem.W.keepIn K (.ref d.a_look_program) = true
  F_first_sheet : Fun K "first_sheet" "first_sheet" s_first_sheet d.a_first_sheet d.f_first_sheet
  p_first_sheet : Binds K d.f_first_sheet ["rows", "limits", "goal"] []
  g_first_sheet : mg "first_sheet" = some (.ref d.a_first_sheet)
  k_first_sheet : PySem.W.keepIn K (.ref d.a_first_sheet) = true
  F_with_goal : Fun K "with_goal" "with_goal" s_with_goal d.a_with_goal d.f_with_goal
  p_with_goal : Binds K d.f_with_goal ["sheet", "goal", "first"] []
  g_with_goal : mg "with_goal" = some (.ref d.a_with_goal)
  k_with_goal : PySem.W.keepIn K (.ref d.a_with_goal) = true
  F_clear_helpers : Fun K "clear_helpers" "clear_helpers" s_clear_helpers d.a_clear_helpers d.f_clear_helpers
  p_clear_helpers : Binds K d.f_clear_helpers ["sheet", "most"] []
  g_clear_helpers : mg "clear_helpers" = some (.ref d.a_clear_helpers)
  k_clear_helpers : PySem.W.keepIn K (.ref d.a_clear_helpers) = true
  F_solved : Fun K "solved" "solved" s_solved d.a_solved d.f_solved
  p_solved : Binds K d.f_solved ["rows", "limits", "goal"] []
  g_solved : mg "solved" = some (.ref d.a_solved)
  k_solved : PySem.W.keepIn K (.ref d.a_solved) = true
  F_ray : Fun K "ray" "ray" s_ray d.a_ray d.f_ray
  p_ray : Binds K d.f_ray ["sheet", "part", "many"] []
  g_ray : mg "ray" = some (.ref d.a_ray)
  k_ray : PySem.W.keepIn K (.ref d.a_ray) = true
  F_keeps : Fun K "keeps" "keeps" s_keeps d.a_keeps d.f_keeps
  p_keeps : Binds K d.f_keeps ["rows", "limits", "parts"] []
  g_keeps : mg "keeps" = some (.ref d.a_keeps)
  k_keeps : PySem.W.keepIn K (.ref d.a_keeps) = true
  F_turned : Fun K "turned" "turned" s_turned d.a_turned d.f_turned
  p_turned : Binds K d.f_turned ["rows", "wide"] []
  g_turned : mg "turned" = some (.ref d.a_turned)
  k_turned : PySem.W.keepIn K (.ref d.a_turned) = true
  F_are_prices_of : Fun K "are_prices_of" "are_prices_of" s_are_prices_of d.a_are_prices_of d.f_are_prices_of
  p_are_prices_of : Binds K d.f_are_prices_of ["rows", "goal", "prices"] []
  g_are_prices_of : mg "are_prices_of" = some (.ref d.a_are_prices_of)
  k_are_prices_of : PySem.W.keepIn K (.ref d.a_are_prices_of) = true
  F_law_cell : Fun K "_law_cell" "_law_cell" s_law_cell d.a_law_cell d.f_law_cell
  p_law_cell : Binds K d.f_law_cell ["_law_script", "_law_k"] []
  g_law_cell : mg "_law_cell" = some (.ref d.a_law_cell)
  k_law_cell : PySem.W.keepIn K (.ref d.a_law_cell) = true
  F_law_mix : Fun K "_law_mix" "_law_mix" s_law_mix d.a_law_mix d.f_law_mix
  p_law_mix : Binds K d.f_law_mix ["_law_script", "_law_k"] []
  g_law_mix : mg "_law_mix" = some (.ref d.a_law_mix)
  k_law_mix : PySem.W.keepIn K (.ref d.a_law_mix) = true
  F_law_ratio : Fun K "_law_ratio" "_law_ratio" s_law_ratio d.a_law_ratio d.f_law_ratio
  p_law_ratio : Binds K d.f_law_ratio ["_law_number"] []
  g_law_ratio : mg "_law_ratio" = some (.ref d.a_law_ratio)
  k_law_ratio : PySem.W.keepIn K (.ref d.a_law_ratio) = true
  F_law_sum : Fun K "_law_sum" "_law_sum" s_law_sum d.a_law_sum d.f_law_sum
  p_law_sum : Binds K d.f_law_sum ["_law_row", "_law_other"] []
  g_law_sum : mg "_law_sum" = some (.ref d.a_law_sum)
  k_law_sum : PySem.W.keepIn K (.ref d.a_law_sum) = true
  F_law_order : Fun K "_law_order" "_law_order" s_law_order d.a_law_order d.f_law_order
  p_law_order : Binds K d.f_law_order ["_law_one", "_law_other"] []
  g_law_order : mg "_law_order" = some (.ref d.a_law_order)
  k_law_order : PySem.W.keepIn K (.ref d.a_law_order) = true
  F_law_program : Fun K "_law_program" "_law_program" s_law_program d.a_law_program d.f_law_program
  p_law_program : Binds K d.f_law_program ["_law_script"] []
  g_law_program : mg "_law_program" = some (.ref d.a_law_program)
  k_law_program : PySem.W.keepIn K (.ref d.a_law_program) = true
  F_law_kept : Fun K "_law_kept" "_law_kept" s_law_kept d.a_law_kept d.f_law_kept
  p_law_kept : Binds K d.f_law_kept ["_law_rows", "_law_limits", "_law_parts"] []
  g_law_kept : mg "_law_kept" = some (.ref d.a_law_kept)
  k_law_kept : PySem.W.keepIn K (.ref d.a_law_kept) = true
  F_law_column : Fun K "_law_column" "_law_column" s_law_column d.a_law_column d.f_law_column
  p_law_column : Binds K d.f_law_column ["_law_rows", "_law_k"] []
  g_law_column : mg "_law_column" = some (.ref d.a_law_column)
  k_law_column : PySem.W.keepIn K (.ref d.a_law_column) = true
  F_law_pays : Fun K "_law_pays" "_law_pays" s_law_pays d.a_law_pays d.f_law_pays
  p_law_pays : Binds K d.f_law_pays ["_law_rows", "_law_goal", "_law_prices"] []
  g_law_pays : mg "_law_pays" = some (.ref d.a_law_pays)
  k_law_pays : PySem.W.keepIn K (.ref d.a_law_pays) = true
  F_law_refused : Fun K "_law_refused" "_law_refused" s_law_refused d.a_law_refused d.f_law_refused
  p_law_refused : Binds K d.f_law_refused ["_law_rows", "_law_limits", "_law_goal"] []
  g_law_refused : mg "_law_refused" = some (.ref d.a_law_refused)
  k_law_refused : PySem.W.keepIn K (.ref d.a_law_refused) = true
  F_law_turned : Fun K "_law_turned" "_law_turned" s_law_turned d.a_law_turned d.f_law_turned
  p_law_turned : Binds K d.f_law_turned ["_law_script", "_law_base", "_law_row"] []
  g_law_turned : mg "_law_turned" = some (.ref d.a_law_turned)
  k_law_turned : PySem.W.keepIn K (.ref d.a_law_turned) = true
  F_law : Fun K "law" "law" s_law d.a_law d.f_law
  p_law : Binds K d.f_law ["_law_script"] []
  g_law : mg "law" = some (.ref d.a_law)
  k_law : PySem.W.keepIn K (.ref d.a_law) = true
  F_Sheet_init : Fun K "__init__" "Sheet.__init__" s_Sheet_init d.a_Sheet_init d.f_Sheet_init
  p_Sheet_init : Binds K d.f_Sheet_init ["self", "lines", "basis", "wide"] []
  F_Sheet_turn : Fun K "turn" "Sheet.turn" s_Sheet_turn d.a_Sheet_turn d.f_Sheet_turn
  p_Sheet_turn : Binds K d.f_Sheet_turn ["self", "at", "part"] []
  h_Sheet_turn : Meth K d.c_Sheet "turn" d.a_Sheet_turn
  F_Sheet_leaving : Fun K "leaving" "Sheet.leaving" s_Sheet_leaving d.a_Sheet_leaving d.f_Sheet_leaving
  p_Sheet_leaving : Binds K d.f_Sheet_leaving ["self", "part"] []
  h_Sheet_leaving : Meth K d.c_Sheet "leaving" d.a_Sheet_leaving
  F_Sheet_climb : Fun K "climb" "Sheet.climb" s_Sheet_climb d.a_Sheet_climb d.f_Sheet_climb
  p_Sheet_climb : Binds K d.f_Sheet_climb ["self", "most"] []
  h_Sheet_climb : Meth K d.c_Sheet "climb" d.a_Sheet_climb
  F_Sheet_worth : Fun K "worth" "Sheet.worth" s_Sheet_worth d.a_Sheet_worth d.f_Sheet_worth
  p_Sheet_worth : Binds K d.f_Sheet_worth ["self", "part"] []
  h_Sheet_worth : Meth K d.c_Sheet "worth" d.a_Sheet_worth
  g_Sheet : mg "Sheet" = some (.ref d.c_Sheet)
  c_Sheet : Cls K d.c_Sheet
  m_Sheet : Mk K d.c_Sheet d.a_Sheet_init
  n_Sheet_lines : NoAttr K d.c_Sheet "lines"
  n_Sheet_basis : NoAttr K d.c_Sheet "basis"
  n_Sheet_wide : NoAttr K d.c_Sheet "wide"
  g_BestError : mg "BestError" = some (.ref d.c_BestError)
  k_BestError : PySem.W.keepIn K (.ref d.c_BestError) = true
  x_BestError : PySem.W.excIn K d.c_BestError veT "ValueError.__new__" = true
  s_BestError : PySem.W.subIn K (.ref d.c_BestError) (.type "BaseException") = some true
  t_BestError : PySem.W.typeIn K (.ref d.c_BestError) = some (.type "type")
  i_BestError : PySem.W.isClsIn K d.c_BestError = true
  g_NoTable : mg "NoTable" = some (.ref d.c_NoTable)
  k_NoTable : PySem.W.keepIn K (.ref d.c_NoTable) = true
  x_NoTable : PySem.W.excIn K d.c_NoTable veT "ValueError.__new__" = true
  s_NoTable : PySem.W.subIn K (.ref d.c_NoTable) (.type "BaseException") = some true
  t_NoTable : PySem.W.typeIn K (.ref d.c_NoTable) = some (.type "type")
  i_NoTable : PySem.W.isClsIn K d.c_NoTable = true
  g_NoRatio : mg "NoRatio" = some (.ref d.c_NoRatio)
  k_NoRatio : PySem.W.keepIn K (.ref d.c_NoRatio) = true
  x_NoRatio : PySem.W.excIn K d.c_NoRatio veT "ValueError.__new__" = true
  s_NoRatio : PySem.W.subIn K (.ref d.c_NoRatio) (.type "BaseException") = some true
  t_NoRatio : PySem.W.typeIn K (.ref d.c_NoRatio) = some (.type "type")
  i_NoRatio : PySem.W.isClsIn K d.c_NoRatio = true
  e_NoTable_BestError : PySem.W.exmOne K (.ref d.c_NoTable) (.ref d.c_BestError) = some true
  y_NoTable : ExcC K d.c_NoTable
  q_NoTable_NoTable : PySem.W.kitOne K (.ref d.c_NoTable) (.ref d.c_NoTable) = some true
  q_NoTable_ValueError : PySem.W.kitOne K (.ref d.c_NoTable) (.type "ValueError") = some true
  g_MOST_BOUNDS : mg "MOST_BOUNDS" = some (.int 6 d.t_MOST_BOUNDS)
  g_MOST_PARTS : mg "MOST_PARTS" = some (.int 6 d.t_MOST_PARTS)
  g_NOUGHT : mg "NOUGHT" = some (.ref d.o_NOUGHT)
  l_NOUGHT : SqT K (fun _ => none) d.o_NOUGHT [.int 0, .int 1]
  b_ValueError : mg "ValueError" = none
  b_abs : mg "abs" = none
  b_all : mg "all" = none
  b_any : mg "any" = none
  b_bool : mg "bool" = none
  b_int : mg "int" = none
  b_isinstance : mg "isinstance" = none
  b_len : mg "len" = none
  b_list : mg "list" = none
  b_range : mg "range" = none
  b_zip : mg "zip" = none
end SB
namespace SB
open PySem PySem.Spec PyProof.Rows L2
local macro_rules | `(tactic| walk_at "same") => `(tactic| first
  | exact Same.refl _
  | assumption
  | (refine Same.trans ?_ (by assumption); walk_at "same"))
local macro_rules | `(tactic| walk_at "is") => `(tactic| first
  | assumption
  | exact Dp.int _
  | exact Dp.bl _
  | exact Dp.non
  | exact Dp.str _
  | (refine' dp_mono ?_ (by assumption); walk_at "same"))
local macro_rules | `(tactic| walk_at "dpa") => `(tactic| first
  | exact DpAll.nil
  | (refine' DpAll.cons ?h1 ?h2; (case h1 => walk_at "is"); (case h2 => walk_at "dpa"))
  | exact dpAll_ints _
  | exact dpAll_bools _
  | assumption
  | (refine' dpAll_mono ?_ (by assumption); walk_at "same"))
local macro_rules | `(tactic| walk_at "bd") => `(tactic| first | omega | assumption | (simp only [List.length_map, List.length_range, List.length_replicate] at *; omega))
local macro_rules | `(tactic| walk_at "ati") => `(tactic| first
  | rfl
  | exact atI_map (by walk_at "bd") (by walk_at "bd"))
local macro_rules | `(tactic| walk_at "kn") => `(tactic| first
  | (with_reducible refine kn_int ?_)
  | (with_reducible refine kn_bl ?_)
  | (with_reducible refine kn_non ?_)
  | (with_reducible refine kn_str ?_)
  | ((with_reducible refine kn_tup ?_); intro u hu)
  | ((with_reducible refine kn_lst ?_); intro u hu))
local macro_rules | `(tactic| walk_at "wm") => `(tactic| first
  | exact .inl ⟨by decide, by decide⟩
  | exact .inr ⟨by decide, by decide⟩)
local macro_rules | `(tactic| walk_at "st") => `(tactic| first
  | ((with_reducible refine' x_var ?h ?_); (case h => with_unfolding_all rfl))
  | (with_reducible refine x_c ?_)
  | (with_reducible refine x_op ?_)
  | (with_reducible refine x_I0 ?_)
  | (with_reducible refine x_cons ?_)
  | (with_reducible refine x_nil ?_)
  | (with_reducible refine x_seq ?_)
  | (with_reducible refine x_asg ?_)
  | (with_reducible refine x_gname ?_)
  | (with_reducible refine x_test ?_)
  | (with_reducible refine x_tB ?_)
  | (with_reducible refine x_k ?_)
  | (with_reducible refine x_kx ?_)
  | (with_reducible refine x_if ?_)
  | (with_reducible refine x_ret ?_)
  | (with_reducible refine x_next ?_)
  | (with_reducible refine x_iteT ?_)
  | (with_reducible refine x_iteF ?_)
  | (with_reducible refine x_nT ?_)
  | (with_reducible refine x_dNN ?_)
  | (with_reducible refine x_dNI ?_)
  | (with_reducible refine x_dNR ?_)
  | (with_reducible refine x_nNN ?_)
  | (with_reducible refine x_nNI ?_)
  | (with_reducible refine x_nNR ?_)
  | (with_reducible refine x_nF ?_)
  | (with_reducible refine x_eqI ?_)
  | (with_reducible refine x_neI ?_)
  | (with_reducible refine x_eqB ?_)
  | (with_reducible refine x_eqS ?_)
  | (with_reducible refine x_neS ?_)
  | (with_reducible refine x_isB ?_)
  | (with_reducible refine x_notB ?_)
  | (with_reducible refine x_neB ?_)
  | (with_reducible refine x_cb ?_)
  | (with_reducible refine x_call0 ?_)
  | (with_reducible refine x_callS ?_)
  | ((with_reducible refine x_I (C := CMul) ?h ?_); (case h => walk_at "wm"))
  | ((with_reducible refine x_I (C := CDiv) ?h ?_); (case h => exact ⟨by decide, by decide⟩))
  | ((with_reducible refine x_I (C := CPow) ?h ?_); (case h => exact ⟨by decide, by decide, by decide⟩))
  | ((with_reducible refine x_I ?h ?_); (case h => walk_at "side"))
  | (with_reducible refine x_U ?_)
  | (with_reducible refine x_un ?_)
  | (with_reducible refine x_and ?_)
  | (with_reducible refine x_or ?_)
  | (with_reducible refine x_not ?_)
  | (with_reducible refine x_andV ?_)
  | (with_reducible refine x_orV ?_)
  | (with_reducible refine x_notV ?_)
  | (with_reducible refine x_ifE ?_)
  | (with_reducible refine x_chain ?_)
  | (with_reducible refine x_ttup ?_)
  | (with_reducible refine x_tlst ?_)
  | (with_reducible refine x_gsub ?_)
  | (with_reducible refine x_drop ?_)
  | (with_reducible refine x_retN ?_)
  | (with_reducible refine x_brk ?_)
  | (with_reducible refine x_fld ?_)
  | (with_reducible refine x_fldr ?_)
  | (with_reducible refine x_meth ?_)
  | (with_reducible refine x_gnil ?_)
  | (with_reducible refine x_for ?_)
  | (with_reducible refine x_forr ?_)
  | (with_reducible refine x_forz ?_)
  | (with_reducible refine x_fort ?_)
  | (with_reducible refine x_lcl ?_)
  | (with_reducible refine x_lcr ?_)
  | (with_reducible refine x_lcz ?_)
  | (with_reducible refine x_lcen ?_)
  | (with_reducible refine x_lcb ?_ (by with_unfolding_all rfl))
  | (with_reducible refine x_yes ?_)
  | (with_reducible refine x_bm ?_)
  | (with_reducible refine x_bm0 ?_)
  | (with_reducible refine x_bmo 0 (by assumption) rfl ?_)
  | (with_reducible refine x_bmo 1 (by assumption) rfl ?_)
  | (with_reducible refine x_bmo 2 (by assumption) rfl ?_)
  | (with_reducible refine x_gcons ?_)
  | (with_reducible refine x_isN ?_)
  | (with_reducible refine x_notN ?_)
  | (with_reducible refine x_abs ?_)
  | (with_reducible refine x_max2 ?_)
  | (with_reducible refine x_intB ?_)
  | (with_reducible refine' x_all (by assumption) (by walk_at "is") ?_)
  | (with_reducible refine' x_any (by assumption) (by walk_at "is") ?_)
  | (with_reducible refine' x_sum (by assumption) (by walk_at "is") ?_)
  | ((with_reducible refine' x_listS (by assumption) (by walk_at "is") ?_); intro S' H' v W' hS hv)
  | (with_reducible refine x_isX (by assumption) (by assumption) ?_)
  | (with_reducible refine x_isXT (by assumption) (by assumption) ?_)
  | (with_reducible refine x_isiI kb_int_int ?_)
  | (with_reducible refine x_isiI kb_int_bool ?_)
  | (with_reducible refine x_isiB kb_bool_bool ?_)
  | (with_reducible refine x_isiB kb_bool_int ?_)
  | (with_reducible refine' x_isiL (by assumption) (by walk_at "is") kb_list_list ?_)
  | (with_reducible refine' x_isiT (by assumption) (by walk_at "is") kb_tuple_tuple ?_)
  | (with_reducible refine x_isiN kb_NoneType_int ?_)
  | (with_reducible refine' x_isiT (by assumption) (by walk_at "is") kb_tuple_list ?_)
  | (with_reducible refine' x_isiL (by assumption) (by walk_at "is") kb_list_tuple ?_)
  | (with_reducible refine x_isiS kb_str_int ?_)
  | (with_reducible refine' x_isiT (by assumption) (by walk_at "is") kb_tuple_int ?_)
  | (with_reducible refine' x_isiL (by assumption) (by walk_at "is") kb_list_int ?_)
  | ((with_reducible refine' x_ixT (by assumption) (by walk_at "is") ?h ?_); (case h => walk_at "ati"); (walk_at "kn"))
  | ((with_reducible refine' x_ixL (by assumption) (by walk_at "is") ?h ?_); (case h => walk_at "ati"); (walk_at "kn"))
  | ((with_reducible refine x_ixM 0 (by assumption) rfl ?h0 ?h1 ?_); (case h0 => walk_at "bd"); (case h1 => walk_at "bd"))
  | ((with_reducible refine x_ixM 1 (by assumption) rfl ?h0 ?h1 ?_); (case h0 => walk_at "bd"); (case h1 => walk_at "bd"))
  | ((with_reducible refine x_ixM1 (by assumption) (by assumption) ?h0 ?h1 ?_); (case h0 => walk_at "bd"); (case h1 => walk_at "bd"))
  | ((with_reducible refine x_ixM2 (by assumption) (by assumption) ?h0 ?h1 ?_); (case h0 => walk_at "bd"); (case h1 => walk_at "bd"))
  | ((with_reducible refine x_ixM0 (by assumption) (by assumption) ?h0 ?h1 ?_); (case h0 => walk_at "bd"); (case h1 => walk_at "bd"))
  | (with_reducible refine wsA 2 (by assumption) rfl (by assumption) (by assumption) ?_)
  | (with_reducible refine wsL 2 (by assumption) rfl (by assumption) (by assumption) ?_)
  | (with_reducible refine wsM 2 (by assumption) rfl (by assumption) (by assumption) ?_)
  | (with_reducible refine wsA 3 (by assumption) rfl (by assumption) (by assumption) ?_)
  | (with_reducible refine wsL 3 (by assumption) rfl (by assumption) (by assumption) ?_)
  | (with_reducible refine wsM 3 (by assumption) rfl (by assumption) (by assumption) ?_)
  | (with_reducible refine x_sl ?_)
  | (with_reducible refine x_poN ?_)
  | (with_reducible refine x_poS ?_)
  | (with_reducible refine x_poI ?_)
  | (with_reducible refine x_get ?_)
  | (with_reducible refine x_lrg ?_)
  | (with_reducible refine x_din ?_)
  | (with_reducible refine x_dnin ?_)
  | (with_reducible refine x_dget ?_)
  | (with_reducible refine x_dput ?_)
  | (with_reducible refine x_lenO 0 (by assumption) rfl ?_)
  | (with_reducible refine x_lenO 1 (by assumption) rfl ?_)
  | (with_reducible refine' x_lenT (by assumption) (by walk_at "is") ?_)
  | (with_reducible refine' x_len (by assumption) (by walk_at "is") ?_)
  | (with_reducible refine x_tr ?_)
  | (with_reducible refine x_truB ?_)
  | (with_reducible refine x_truO 0 (by assumption) rfl ?_)
  | (with_reducible refine' x_truL (by assumption) (by walk_at "is") ?_)
  | ((with_reducible refine' x_tup (by assumption) (by walk_at "dpa") (by simp) ?_); intro S' H' v W' hS hv))
local macro_rules | `(tactic| walk_at "go") => `(tactic| repeat (walk_at "st"))
local macro_rules | `(tactic| walk_at "stop") => `(tactic| ((fail_if_success (with_reducible refine x_if ?_)); (fail_if_success (with_reducible refine x_andV ?_)); (fail_if_success (with_reducible refine x_orV ?_)); (fail_if_success (with_reducible refine x_ifE ?_))))
local macro_rules | `(tactic| walk_at "g") => `(tactic| repeat (walk_at "stop"; walk_at "st"))
local macro_rules | `(tactic| walk_at "side") => `(tactic| first | omega | assumption | exact cdivw_any (by assumption) | decide)
local macro_rules | `(tactic| walk_at "own") => `(tactic| ((with_reducible refine x_own (by assumption) (by simp) ?_); intro p H' W'))
local macro_rules | `(tactic| walk_at "lst") => `(tactic| ((with_reducible refine' x_lst (by assumption) (by walk_at "dpa") (by simp) ?_); intro S' H' v W' hS hv))
local macro_rules | `(tactic| walk_at "ly") => `(tactic| exact lce_y (by assumption) (by assumption) (by walk_at "same") (by walk_at "is") rfl)
local macro_rules | `(tactic| walk_at "ln") => `(tactic| exact lce_n (by assumption) (by assumption) (by walk_at "same") rfl)
local macro_rules | `(tactic| walk_at "lyp") => `(tactic| exact lce_y (by assumption) (by assumption) (by walk_at "same") (by walk_at "is") (if_pos (by assumption)))
local macro_rules | `(tactic| walk_at "lnp") => `(tactic| exact lce_n (by assumption) (by assumption) (by walk_at "same") (if_neg (ne_true (by assumption))))
section
variable {P : Program} {w : World} {K : PySem.W.Frag} {mg : Str → Option Value} {base : Heap} {d : Ad}
inductive Sp_law_cell (K : PySem.W.Frag) : List V → Hp → VK → XK → Prop
  | mk {S : Hp} {O : List (Addr × HO)} {ns : List Int} {i : Int} {x : V} {H : Hp} {Q : VK} {E : XK} (W : Wd K S H O) (h : Dp K S x (.list (ns.map PyData.int)))
    (k : Q (.int (cell ns i)) H) : Sp_law_cell K [x, .int i] H Q E
theorem ok_law_cell (T : Txt K mg d) : FnOk P w K mg base CX0 1 d.a_law_cell d.f_law_cell ["_law_script", "_law_k"] (Sp_law_cell K) := by
  refine T.F_law_cell.ok sc_law_cell (fun vs H Q E h => ?_) (fun cdv A outer s H vs Q E hr h => ?_)
  · cases h; rfl
  · have hu := hu_of hr
    obtain ⟨W, h, k⟩ := h
    rename_i S O ns i x
    refine ⟨_, (pss_cons (ps_if (trutha (K := K) (by rfl) (pv 0) (by intro _; rfl)) (pss_one (ps_ret (pe_ix (ixa (K := K) (by rfl)) (pv 0) (pe_op op_mod (pv 1) (pe_callB (lena (K := K) (by rfl)) (by rfl) T.b_len (by decide +kernel) (pa_cons (pv 0) pa_nil))) (fun _ _ => rfl)))) pss_nil)
      (pss_one (ps_ret pe_int))), ?_⟩
    try dsimp only [cxK, cxw, cxprog]
    walk_at "go"
    refine x_iteN (fun he => ?_) (fun he => ?_)
    · have hl : (0 : Int) < (ns.map PyData.int).length := by
        cases ns with
        | nil => simp at he
        | cons a r => simp only [List.length_map, List.length_cons]; omega
      walk_at "go"
      have h0 := Int.emod_nonneg i (show ((ns.map PyData.int).length : Int) ≠ 0 by omega)
      have h2 := Int.emod_lt_of_pos i hl
      simp only [List.length_map] at h0 h2 hl
      rw [List.length_map]
      refine x_ixL W h (atI_map (f := PyData.int) h0 h2) (kn_int ?_)
      have e : cell ns i = nth ns (i % (ns.length : Int)) := by
        unfold cell
        rw [if_neg]
        · intro z
          rw [z] at hl
          simp at hl
      rw [← e]
      exact k
    · walk_at "go"
      have e : cell ns i = 0 := by
        unfold cell
        rw [if_pos]
        cases ns with
        | nil => rfl
        | cons a r => simp at he
      rw [← e]
      exact k
end
section
variable {P : Program} {w : World} {K : PySem.W.Frag} {mg : Str → Option Value} {base : Heap} {d : Ad}
inductive Sp_law_mix (K : PySem.W.Frag) : List V → Hp → VK → XK → Prop
  | mk {S : Hp} {O : List (Addr × HO)} {ns : List Int} {i : Int} {x : V} {H : Hp} {Q : VK} {E : XK} (W : Wd K S H O) (h : Dp K S x (.list (ns.map PyData.int)))
    (k : Q (.int (mix ns i)) H) : Sp_law_mix K [x, .int i] H Q E
theorem ok_law_mix (T : Txt K mg d) : FnOk P w K mg base CX0 2 d.a_law_mix d.f_law_mix ["_law_script", "_law_k"] (Sp_law_mix K) := by
  refine T.F_law_mix.ok sc_law_mix (fun vs H Q E h => ?_) (fun cdv A outer s H vs Q E hr h => ?_)
  · cases h; rfl
  · have hu := hu_of hr
    obtain ⟨W, h, k⟩ := h
    rename_i S O ns i x
    refine ⟨_, (pss_cons (ps_set (i := 2) sc_law_mix.nd rfl (by first | exact Or.inl rfl | exact Or.inr rfl) (pe_op op_mod (pe_op op_add (pe_call (ok_law_cell T) (hr.mono (by decide)) (by rfl) T.g_law_cell T.k_law_cell T.p_law_cell .nil pass0 (pa_cons (pv 0) (pa_cons (pv 1) pa_nil))) (pe_op op_mul pe_int (pe_op op_add (pv 1) pe_int))) pe_int))
      (pss_cons (ps_set (i := 2) sc_law_mix.nd rfl (by first | exact Or.inl rfl | exact Or.inr rfl) (pe_op op_mod (pe_op op_mul (pv 2) pe_int) pe_int))
      (pss_one (ps_ret (pe_op op_mod (pe_op op_add (pe_op op_mul (pe_op op_fdiv (pv 2) pe_int) pe_int) (pv 2)) pe_int))))), ?_⟩
    try dsimp only [cxK, cxw, cxprog]
    walk_at "go"
    refine .mk W h ?_
    walk_at "go"
    exact k
end
local macro_rules | `(tactic| walk_at "st") => `(tactic| (with_reducible refine Sp_law_mix.mk (by assumption) (by walk_at "is") ?_))
section
variable {P : Program} {w : World} {K : PySem.W.Frag} {mg : Str → Option Value} {base : Heap} {d : Ad}
inductive Sp_law_ratio (K : PySem.W.Frag) : List V → Hp → VK → XK → Prop
  | mk {S : Hp} {O : List (Addr × HO)} {i : Int} {H : Hp} {Q : VK} {E : XK} (W : Wd K S H O) (k : ∀ S' H' v, Wd K S' H' O → Same S S' → Dp K S' v (qD (lawRat i)) → Q v H') : Sp_law_ratio K [.int i] H Q E
theorem ok_law_ratio (T : Txt K mg d) : FnOk P w K mg base CX0 1 d.a_law_ratio d.f_law_ratio ["_law_number"] (Sp_law_ratio K) := by
  refine T.F_law_ratio.ok sc_law_ratio (fun vs H Q E h => ?_) (fun cdv A outer s H vs Q E hr h => ?_)
  · cases h; rfl
  · have hu := hu_of hr
    obtain ⟨W, k⟩ := h
    rename_i S O i
    refine ⟨_, (pss_cons (ps_set (i := 1) sc_law_ratio.nd rfl (by first | exact Or.inl rfl | exact Or.inr rfl) (pe_lst (pa_cons (pe_tup (pa_cons pe_int (pa_cons pe_int pa_nil))) (pa_cons (pe_tup (pa_cons pe_int (pa_cons pe_int pa_nil))) (pa_cons (pe_tup (pa_cons (pe_un un_neg pe_int) (pa_cons pe_int pa_nil))) (pa_cons (pe_tup (pa_cons pe_int (pa_cons pe_int pa_nil))) (pa_cons (pe_tup (pa_cons pe_int (pa_cons pe_int pa_nil))) (pa_cons (pe_tup (pa_cons (pe_un un_neg pe_int) (pa_cons pe_int pa_nil))) (pa_cons (pe_tup (pa_cons pe_int (pa_cons pe_int pa_nil))) (pa_cons (pe_tup (pa_cons (pe_un un_neg pe_int) (pa_cons pe_int pa_nil))) (pa_cons (pe_tup (pa_cons pe_int (pa_cons pe_int pa_nil))) (pa_cons (pe_tup (pa_cons (pe_op op_pow pe_int pe_int) (pa_cons pe_int pa_nil))) (pa_cons (pe_tup (pa_cons pe_int (pa_cons pe_int pa_nil))) (pa_cons (pe_tup (pa_cons pe_int (pa_cons pe_int pa_nil))) pa_nil))))))))))))))
      (pss_one (ps_ret (pe_ix (ixa (K := K) (by rfl)) (pv 1) (pe_op op_mod (pv 0) pe_int) (fun _ _ => rfl))))), ?_⟩
    try dsimp only [cxK, cxw, cxprog]
    walk_at "go"
    refine x_lst (by assumption) (ds := lawTbl.map qD) (.cons (by walk_at "is") (.cons (by walk_at "is") (.cons (by walk_at "is") (.cons (by walk_at "is") (.cons (by walk_at "is") (.cons (by walk_at "is") (.cons (by walk_at "is") (.cons (by walk_at "is") (.cons (by walk_at "is") (.cons (by walk_at "is") (.cons (by walk_at "is") (.cons (by walk_at "is") .nil)))))))))))) (by simp) (fun S' H' v W' hS hv => ?_)
    walk_at "go"
    refine x_ixL W' hv (atI_map (f := qD) (Int.emod_nonneg _ (by decide)) (Int.emod_lt_of_pos _ (by decide))) (kn_tup fun u hu => ?_)
    exact k _ _ _ W' (by walk_at "same") hu
end
local macro_rules | `(tactic| walk_at "st") => `(tactic| ((with_reducible refine Sp_law_ratio.mk (by assumption) ?_); intro S' H' v W' hS hv))
section
variable {P : Program} {w : World} {K : PySem.W.Frag} {mg : Str → Option Value} {base : Heap} {d : Ad}
inductive Sp_law_program (K : PySem.W.Frag) : List V → Hp → VK → XK → Prop
  | mk {S : Hp} {O : List (Addr × HO)} {ns : List Int} {x : V} {H : Hp} {Q : VK} {E : XK} (W : Wd K S H O) (h : Dp K S x (.list (ns.map PyData.int)))
    (k : ∀ S' H' v, Wd K S' H' O → Same S S' → Dp K S' v (.tuple [tabQ (pA ns), rowQ (pLim ns), rowQ (pG ns)]) → Q v H') : Sp_law_program K [x] H Q E
theorem ok_law_program (T : Txt K mg d) : FnOk P w K mg base CX0 3 d.a_law_program d.f_law_program ["_law_script"] (Sp_law_program K) := by
  refine T.F_law_program.ok sc_law_program (fun vs H Q E h => ?_) (fun cdv A outer s H vs Q E hr h => ?_)
  · cases h; rfl
  · have hu := hu_of hr
    obtain ⟨W, h, k⟩ := h
    rename_i S O ns x
    obtain ⟨w1, w2, ew⟩ := pWide_bd ns
    obtain ⟨g1, eg⟩ := pHigh_bd ns
    refine ⟨_, (pss_cons (ps_set (i := 1) sc_law_program.nd rfl (by first | exact Or.inl rfl | exact Or.inr rfl) (pe_op op_add pe_int (pe_op op_mod (pe_call (ok_law_mix T) (hr.mono (by decide)) (by rfl) T.g_law_mix T.k_law_mix T.p_law_mix .nil pass0 (pa_cons (pv 0) (pa_cons pe_int pa_nil))) pe_int)))
      (pss_cons (ps_set (i := 2) sc_law_program.nd rfl (by first | exact Or.inl rfl | exact Or.inr rfl) (pe_op op_mod (pe_call (ok_law_mix T) (hr.mono (by decide)) (by rfl) T.g_law_mix T.k_law_mix T.p_law_mix .nil pass0 (pa_cons (pv 0) (pa_cons pe_int pa_nil))) pe_int))
      (pss_cons (ps_setLc (i := 3) (own := [("_law_k", 5)]) rfl sc_law_program.nd rfl rfl (sw_true rfl rfl rfl (by decide +kernel)) (pi_range1 (by rfl) T.b_range (pa_cons (pv 2) pa_nil)) (blkOk_by (by first | decide +kernel | exact Eq.refl true)) (fun _ _ _ _ _ => pg_name (i := 5) sc_law_program.nd rfl (by first | exact Or.inl rfl | exact Or.inr rfl)) (fun _ _ _ _ _ => pts_nil) (fun _ _ _ _ _ => (pe_lc (own := [("_law_j", 6)]) rfl sc_law_program.nd (pi_range1 (by rfl) T.b_range (pa_cons (pv 1) pa_nil)) (blkOk_by (by first | decide +kernel | exact Eq.refl true)) (fun _ _ _ _ _ => pg_name (i := 6) sc_law_program.nd rfl (by first | exact Or.inl rfl | exact Or.inr rfl)) (fun _ _ _ _ _ => pts_nil) (fun _ _ _ _ _ => (pe_call (ok_law_ratio T) (hr.mono (by decide)) (by rfl) T.g_law_ratio T.k_law_ratio T.p_law_ratio .nil pass0 (pa_cons (pe_op op_fdiv (pe_call (ok_law_mix T) (hr.mono (by decide)) (by rfl) T.g_law_mix T.k_law_mix T.p_law_mix .nil pass0 (pa_cons (pv 0) (pa_cons (pe_op op_add (pe_op op_add pe_int (pe_op op_mul pe_int (pv 5))) (pv 6)) pa_nil))) pe_int) pa_nil))))))
      (pss_cons (ps_setLc (i := 4) (own := [("_law_k", 5)]) rfl sc_law_program.nd rfl rfl (sw_true rfl rfl rfl (by decide +kernel)) (pi_range1 (by rfl) T.b_range (pa_cons (pv 2) pa_nil)) (blkOk_by (by first | decide +kernel | exact Eq.refl true)) (fun _ _ _ _ _ => pg_name (i := 5) sc_law_program.nd rfl (by first | exact Or.inl rfl | exact Or.inr rfl)) (fun _ _ _ _ _ => pts_nil) (fun _ _ _ _ _ => (pe_call (ok_law_ratio T) (hr.mono (by decide)) (by rfl) T.g_law_ratio T.k_law_ratio T.p_law_ratio .nil pass0 (pa_cons (pe_op op_fdiv (pe_call (ok_law_mix T) (hr.mono (by decide)) (by rfl) T.g_law_mix T.k_law_mix T.p_law_mix .nil pass0 (pa_cons (pv 0) (pa_cons (pe_op op_add pe_int (pv 5)) pa_nil))) pe_int) pa_nil))))
      (pss_cons (ps_if (pt_cmpR op_eq (pe_op op_mod (pe_call (ok_law_mix T) (hr.mono (by decide)) (by rfl) T.g_law_mix T.k_law_mix T.p_law_mix .nil pass0 (pa_cons (pv 0) (pa_cons pe_int pa_nil))) pe_int) pe_int (nomark _)) (pss_one (ps_setLc (i := 4) (own := [("_law_one", 7)]) rfl sc_law_program.nd rfl rfl (sw_true rfl rfl rfl (by decide +kernel)) (pi_list (pv 4)) (blkOk_by (by first | decide +kernel | exact Eq.refl true)) (fun _ _ _ _ _ => pg_name (i := 7) sc_law_program.nd rfl (by first | exact Or.inl rfl | exact Or.inr rfl)) (fun _ _ _ _ _ => pts_nil) (fun _ _ _ _ _ => (pe_tup (pa_cons (pe_callB cl_abs (by rfl) T.b_abs (by decide +kernel) (pa_cons (pe_ix (ixa (K := K) (by rfl)) (pv 7) pe_int (fun _ _ => rfl)) pa_nil)) (pa_cons (pe_ix (ixa (K := K) (by rfl)) (pv 7) pe_int (fun _ _ => rfl)) pa_nil)))))) pss_nil)
      (pss_one (ps_ret (pe_tup (pa_cons (pv 3) (pa_cons (pv 4) (pa_cons (pe_lc (own := [("_law_j", 6)]) rfl sc_law_program.nd (pi_range1 (by rfl) T.b_range (pa_cons (pv 1) pa_nil)) (blkOk_by (by first | decide +kernel | exact Eq.refl true)) (fun _ _ _ _ _ => pg_name (i := 6) sc_law_program.nd rfl (by first | exact Or.inl rfl | exact Or.inr rfl)) (fun _ _ _ _ _ => pts_nil) (fun _ _ _ _ _ => (pe_call (ok_law_ratio T) (hr.mono (by decide)) (by rfl) T.g_law_ratio T.k_law_ratio T.p_law_ratio .nil pass0 (pa_cons (pe_op op_fdiv (pe_call (ok_law_mix T) (hr.mono (by decide)) (by rfl) T.g_law_mix T.k_law_mix T.p_law_mix .nil pass0 (pa_cons (pv 0) (pa_cons (pe_op op_add pe_int (pv 6)) pa_nil))) pe_int) pa_nil)))) pa_nil))))))))))), ?_⟩
    try dsimp only [cxK, cxw, cxprog]
    walk_at "go"
    rw [← ew, ← eg]
    walk_at "go"
    refine lcr_map rowQ (fun k : Nat => (List.range (pWide ns)).map fun j : Nat => lawRat (mix ns (2 + 5 * (k : Int) + (j : Int)) / 3)) W ⟨by omega, by omega⟩ (fun i S' H' R acc N hi W' hS E => ?_) (fun S1 H1 v1 W1 hS1 hv1 => ?_)
    · walk_at "go"
      refine lcr_map qD (fun j : Nat => lawRat (mix ns (2 + 5 * (i : Int) + (j : Int)) / 3)) W' ⟨by omega, by omega⟩ (fun j S2 H2 R2 acc2 N2 hj W2 hS2 E2 => ?_) (fun S2 H2 v2 W2 hS2 hv2 => ?_)
      · have hx' : Dp K S2 x (.list (ns.map PyData.int)) := dp_mono hS2 (dp_mono hS h)
        walk_at "go"
        walk_at "ly"
      · walk_at "go"
        walk_at "ly"
    rw [Int.toNat_natCast] at hv1
    change Dp K S1 v1 (tabQ (pA ns)) at hv1
    have hx1 : Dp K S1 x (.list (ns.map PyData.int)) := dp_mono hS1 h
    walk_at "go"
    refine lcr_map qD (fun k : Nat => lawRat (mix ns (30 + (k : Int)) / 5)) W1 ⟨by omega, by omega⟩ (fun j S2 H2 R2 acc2 N2 hj W2 hS2 E2 => ?_) (fun S2 H2 v2 W2 hS2 hv2 => ?_)
    · have hx' : Dp K S2 x (.list (ns.map PyData.int)) := dp_mono hS2 hx1
      walk_at "go"
      walk_at "ly"
    rw [Int.toNat_natCast] at hv2
    change Dp K S2 v2 (rowQ (pL0 ns)) at hv2
    have hx2 : Dp K S2 x (.list (ns.map PyData.int)) := dp_mono hS2 hx1
    refine x_ifJ (fun σ' H' => ∃ (S' : Hp) (v4 : V) (z7 : Option V), σ' = [some x, some (.int (pWide ns)), some (.int (pHigh ns)), some v1, some v4, none, none, none] ∧ Wd K S' H' O ∧ Same S2 S' ∧ Dp K S' v4 (rowQ (pLim ns))) (fun nx' hnx => ?_) ?_
    · walk_at "go"
      refine x_iteD (fun h3 => ?_) (fun h3 => ?_)
      · walk_at "go"
        refine lc_map qD qabs W2 hv2 (by unfold pL0; rw [List.length_map, List.length_range]; omega) (fun q S' H' R acc N hq W' hS E => kn_tup fun u hu => ?_) (fun S3 H3 v3 W3 hS3 hv3 => ?_)
        · walk_at "go"
          rename_i S9 H9 v9 W9 hS9 hv9
          have eq9 : (if q.num < 0 then -q.num else q.num) = (qabs q).num := by
            show _ = ((q.num.natAbs : Nat) : Int)
            split <;> omega
          rw [eq9] at hv9
          walk_at "ly"
        · walk_at "go"
          refine hnx _ _ ⟨S3, v3, none, rfl, W3, hS3, ?_⟩
          unfold pLim
          rw [if_pos h3]
          exact hv3
      · walk_at "go"
        refine hnx _ _ ⟨S2, v2, none, rfl, W2, Same.refl _, ?_⟩
        unfold pLim
        rw [if_neg h3]
        exact hv2
    rintro σ' H3 ⟨S3, v3, z7, rfl, W3, hS3, hv3⟩
    have hx3 : Dp K S3 x (.list (ns.map PyData.int)) := dp_mono hS3 hx2
    walk_at "go"
    refine lcr_map qD (fun j : Nat => lawRat (mix ns (41 + (j : Int)) / 7)) W3 ⟨by omega, by omega⟩ (fun j S4 H4 R4 acc4 N4 hj W4 hS4 E4 => ?_) (fun S4 H4 v4 W4 hS4 hv4 => ?_)
    · have hx' : Dp K S4 x (.list (ns.map PyData.int)) := dp_mono hS4 hx3
      walk_at "go"
      walk_at "ly"
    rw [Int.toNat_natCast] at hv4
    change Dp K S4 v4 (rowQ (pG ns)) at hv4
    have q1 : Dp K S4 v1 (tabQ (pA ns)) := dp_mono (hS2.trans (hS3.trans hS4)) hv1
    have q3 := dp_mono hS4 hv3
    walk_at "go"
    rename_i S5 H5 v5 W5 hS5 hv5
    exact k S5 H5 v5 W5 (hS1.trans (hS2.trans (hS3.trans (hS4.trans hS5)))) hv5
end
section
variable {P : Program} {w : World} {K : PySem.W.Frag} {mg : Str → Option Value} {base : Heap} {d : Ad}
inductive Sp_look_program (K : PySem.W.Frag) (C : Addr) : List V → Hp → VK → XK → Prop
  | mk {S : Hp} {O : List (Addr × HO)} {A : List (List Rat)} {lim g : List Rat} {x y z : V} {H : Hp} {Q : VK} {E : XK} (W : Wd K S H O) (h1 : Dp K S x (tabQ A)) (h2 : Dp K S y (rowQ lim)) (h3 : Dp K S z (rowQ g)) (hl : A.length ≤ 1000)
    (e : ¬ ProgOk A lim g → ∀ S' H', Wd K S' H' O → Same S S' → E (.ref C) none H') (k : ProgOk A lim g → ∀ S' H', Wd K S' H' O → Same S S' → Q .non H') : Sp_look_program K C [x, y, z] H Q E
theorem ok_look_program (T : Txt K mg d) : FnOk P w K mg base (L2.CX P w) 3 d.a_look_program d.f_look_program ["rows", "limits", "goal"] (Sp_look_program K d.c_NoTable) := by
  refine T.F_look_program.okX sc_look_program (fun vs H Q E h => ?_) (fun cdv A outer s H vs Q E hr h => ?_)
  · cases h; rfl
  · have hu := hu_of hr
    obtain ⟨W, h1, h2, h3, hl, e, k⟩ := h
    rename_i S O A lim g x y z
    refine ⟨_, (pss_cons (ps_if (PW.pt (pw_or (pt_not (pt_chain op_le op_le pe_int (pe_callB (lena (K := K) (by rfl)) (by rfl) T.b_len (by decide +kernel) (pa_cons (pv 2) pa_nil)) (pe_globI (by rfl) T.g_MOST_PARTS))) (pw_or (pt_cmpR op_gt (pe_callB (lena (K := K) (by rfl)) (by rfl) T.b_len (by decide +kernel) (pa_cons (pv 0) pa_nil)) (pe_globI (by rfl) T.g_MOST_BOUNDS) (nomark _)) (pw_or1 (pt_cmpR op_ne (pe_callB (lena (K := K) (by rfl)) (by rfl) T.b_len (by decide +kernel) (pa_cons (pv 0) pa_nil)) (pe_callB (lena (K := K) (by rfl)) (by rfl) T.b_len (by decide +kernel) (pa_cons (pv 1) pa_nil)) (nomark _)))))) (pss_one (ps_raise rfl (takes_of rfl rfl rfl rfl) (pmk_own PySem.F.excBase_ValueError T.x_NoTable T.g_NoTable T.k_NoTable (raises_own T.s_NoTable T.t_NoTable) (by exact rfl)))) pss_nil)
      (pss_one (ps_if (pt_val (pe_callB (anya (K := K) (by rfl) rfl) (by rfl) T.b_any (by decide +kernel) (pa_cons (pe_lc (own := [("row", 3)]) rfl sc_look_program.nd (pi_list (pv 0)) (blkOk_by (by first | decide +kernel | exact Eq.refl true)) (fun _ _ _ _ _ => pg_name (i := 3) sc_look_program.nd rfl (by first | exact Or.inl rfl | exact Or.inr rfl)) (fun _ _ _ _ _ => pts_nil) (fun _ _ _ _ _ => (pe_cmpR op_ne (pe_callB (lena (K := K) (by rfl)) (by rfl) T.b_len (by decide +kernel) (pa_cons (pv 3) pa_nil)) (pe_callB (lena (K := K) (by rfl)) (by rfl) T.b_len (by decide +kernel) (pa_cons (pv 2) pa_nil)) (nomark _)))) pa_nil))) (pss_one (ps_raise rfl (takes_of rfl rfl rfl rfl) (pmk_own PySem.F.excBase_ValueError T.x_NoTable T.g_NoTable T.k_NoTable (raises_own T.s_NoTable T.t_NoTable) (by exact rfl)))) pss_nil))), ?_⟩
    try dsimp only [cxK, cxw, cxprog]
    have no : ∀ {z : Prop}, (ProgOk A lim g → z) → ¬ z → ∀ {S' H' : Hp}, Wd K S' H' O → Same S S' → E (.ref d.c_NoTable) none H' := fun {z} h n {S' H'} W hS => e (fun l => n (h l)) S' H' W hS
    have lg : ((g.map qD).length : Int) = g.length := by rw [List.length_map]
    have lA : ((A.map rowQ).length : Int) = A.length := by rw [List.length_map]
    have ll : ((lim.map qD).length : Int) = lim.length := by rw [List.length_map]
    walk_at "go"
    rw [lg]
    refine x_iteD (fun g1 => ?_) (fun g1 => ?_)
    rotate_left
    · walk_at "go"
      exact no (fun l => l.g1) (by omega) W (Same.refl _)
    walk_at "go"
    refine x_iteND (fun g6 => ?_) (fun g6 => ?_)
    · exact no (fun l => l.g6) (by omega) W (Same.refl _)
    walk_at "go"
    rw [lA]
    refine x_iteD (fun a6 => ?_) (fun a6 => ?_)
    · walk_at "go"
      exact no (fun l => l.a6) (by omega) W (Same.refl _)
    walk_at "go"
    rw [ll]
    refine x_iteND (fun al => ?_) (fun al => ?_)
    · exact no (fun l => l.al) (by omega) W (Same.refl _)
    walk_at "go"
    refine lc_map PyData.bool (fun r : List Rat => !decide ((r.length : Int) = g.length)) W h1 (by omega) (fun r S' H' R acc N hr W' hS E => kn_lst fun u hu => ?_) (fun S1 H1 v1 W1 hS1 hv1 => ?_)
    · walk_at "go"
      rw [lg, List.length_map]
      walk_at "ly"
    walk_at "go"
    refine x_ite (fun hb => ?_) (fun hb => ?_)
    · walk_at "go"
      refine no (fun l => l.rows) (fun hl => ?_) W1 hS1
      rw [List.any_map, List.any_eq_true] at hb
      obtain ⟨r, hr, hb⟩ := hb
      simp only [Function.comp, id, Bool.not_eq_true', decide_eq_false_iff_not] at hb
      exact hb (by rw [hl r hr])
    · walk_at "go"
      refine k ⟨by omega, by omega, by omega, by omega, fun r hr => ?_⟩ S1 H1 W1 hS1
      rw [List.any_map, List.any_eq_false] at hb
      have := hb r hr
      simp only [Function.comp, id, Bool.not_eq_true', decide_eq_false_iff_not, Classical.not_not] at this
      omega
end
section
variable {P : Program} {w : World} {K : PySem.W.Frag} {mg : Str → Option Value} {base : Heap} {d : Ad}
inductive Sp_Sheet_init (K : PySem.W.Frag) (C : Addr) : List V → Hp → VK → XK → Prop
  | mk {S : Hp} {O : List (Addr × HO)} {p dx l b : Addr} {w : Int} {H : Hp} {Q : VK} {E : XK} (W : Wd K S H ((p, .ins C dx []) :: (dx, .own p) :: O))
    (k : ∀ H', Wd K S H' ((p, .ins C dx (sFs l b w)) :: (dx, .own p) :: O) → Q .non H') : Sp_Sheet_init K C [.ref p, .ref l, .ref b, .int w] H Q E
theorem ok_Sheet_init (T : Txt K mg d) : FnOk P w K mg base CX0 1 d.a_Sheet_init d.f_Sheet_init ["self", "lines", "basis", "wide"] (Sp_Sheet_init K d.c_Sheet) := by
  refine T.F_Sheet_init.ok sc_Sheet_init (fun vs H Q E h => ?_) (fun cdv A outer s H vs Q E hr h => ?_)
  · cases h; rfl
  · have hu := hu_of hr
    obtain ⟨W, k⟩ := h
    rename_i S O p dx l b z
    refine ⟨_, (pss_cons (ps_fld (pv 0) (pv 1) rfl)
      (pss_cons (ps_fld (pv 0) (pv 2) rfl)
      (pss_one (ps_fld (pv 0) (pv 3) rfl)))), ?_⟩
    try dsimp only [cxK, cxw, cxprog]
    walk_at "go"
    refine x_fldO 0 W rfl T.c_Sheet T.n_Sheet_lines (by decide) (fun H1 W1 => ?_)
    walk_at "go"
    have e1 : putF (Str.ofString "basis") (.ref b) (putF (Str.ofString "lines") (.ref l) []) = ([("lines", .ref l), ("basis", .ref b)] : List (Str × V)) := putF_at (f := Str.ofString "basis") (g := Str.ofString "lines") (by decide)
    refine x_fldO 0 W1 rfl T.c_Sheet T.n_Sheet_basis (by simp [putF]) (fun H2 W2 => ?_)
    rw [e1] at W2
    walk_at "go"
    have e2 : putF (Str.ofString "wide") (.int z) ([("lines", .ref l), ("basis", .ref b)] : List (Str × V)) = sFs l b z := (putF_at (f := Str.ofString "wide") (g := Str.ofString "lines") (by decide)).trans (by rw [putF_at (f := Str.ofString "wide") (g := Str.ofString "basis") (by decide)]; rfl)
    refine x_fldO 0 W2 rfl T.c_Sheet T.n_Sheet_wide (by simp) (fun H3 W3 => ?_)
    rw [e2] at W3
    exact k _ W3
end
section
variable {P : Program} {w : World} {K : PySem.W.Frag} {mg : Str → Option Value} {base : Heap} {d : Ad}
inductive Sp_is_less (K : PySem.W.Frag) : List V → Hp → VK → XK → Prop
  | mk {S : Hp} {O : List (Addr × HO)} {a b : Rat} {x y : V} {H : Hp} {Q : VK} {E : XK} (W : Wd K S H O) (h1 : Dp K S x (qD a)) (h2 : Dp K S y (qD b)) (r1 : Bq 4000 a) (r2 : Bq 4000 b)
    (k : Q (.bl (decide (a < b))) H) : Sp_is_less K [x, y] H Q E
theorem ok_is_less (T : Txt K mg d) : FnOk P w K mg base CX0 1 d.a_is_less d.f_is_less ["one", "other"] (Sp_is_less K) := by
  refine T.F_is_less.ok sc_is_less (fun vs H Q E h => ?_) (fun cdv A outer s H vs Q E hr h => ?_)
  · cases h; rfl
  · have hu := hu_of hr
    obtain ⟨W, h1, h2, r1, r2, k⟩ := h
    rename_i S O a b x y
    obtain ⟨n1, m1⟩ := r1
    obtain ⟨n2, m2⟩ := r2
    replace m1 : (a.den : Int).natAbs < 2 ^ 4000 := by rw [Int.natAbs_natCast]; exact m1
    replace m2 : (b.den : Int).natAbs < 2 ^ 4000 := by rw [Int.natAbs_natCast]; exact m2
    have c1 : CMulW a.num b.den := cmulw_of n1 m2
    have c2 : CMulW b.num a.den := cmulw_of n2 m1
    refine ⟨_, (pss_one (ps_ret (pe_cmpR op_lt (pe_op op_mulW (pe_ix (ixa (K := K) (by rfl)) (pv 0) pe_int (fun _ _ => rfl)) (pe_ix (ixa (K := K) (by rfl)) (pv 1) pe_int (fun _ _ => rfl))) (pe_op op_mulW (pe_ix (ixa (K := K) (by rfl)) (pv 1) pe_int (fun _ _ => rfl)) (pe_ix (ixa (K := K) (by rfl)) (pv 0) pe_int (fun _ _ => rfl))) (nomark _)))), ?_⟩
    try dsimp only [cxK, cxw, cxprog]
    walk_at "go"
    rw [q_less]
    exact k
end
section
variable {P : Program} {w : World} {K : PySem.W.Frag} {mg : Str → Option Value} {base : Heap} {d : Ad}
inductive Sp_common : List V → Hp → VK → XK → Prop
  | mk {a b : Int} {H : Hp} {Q : VK} {E : XK} (hb : 0 ≤ b) (k : Q (.int (Int.gcd a b)) H) : Sp_common [.int a, .int b] H Q E
theorem ok_common (T : Txt K mg d) : FnOk P w K mg base CX0 1 d.a_common d.f_common ["one", "other"] (Sp_common) := by
  refine T.F_common.ok sc_common (fun vs H Q E h => ?_) (fun cdv A outer s H vs Q E hr h => ?_)
  · cases h; rfl
  · have hu := hu_of hr
    obtain ⟨hb, k⟩ := h
    rename_i a b
    refine ⟨_, (pss_cons (ps_while PassesOwn.never (pt_cmpR op_ne (pv 1) pe_int (nomark _)) (pss_cons (ps_set (i := 2) sc_common.nd rfl (by first | exact Or.inl rfl | exact Or.inr rfl) (pe_op op_mod (pv 0) (pv 1)))
      (pss_cons (ps_set (i := 0) sc_common.nd rfl (by first | exact Or.inl rfl | exact Or.inr rfl) (pv 1))
      (pss_one (ps_set (i := 1) sc_common.nd rfl (by first | exact Or.inl rfl | exact Or.inr rfl) (pv 2))))))
      (pss_one (ps_ret (pe_callB cl_abs (by rfl) T.b_abs (by decide +kernel) (pa_cons (pv 0) pa_nil))))), ?_⟩
    try dsimp only [cxK, cxw, cxprog]
    walk_at "go"
    refine x_while (fun n σ' H' => ∃ x y : Int, ∃ r : Option V, σ' = [some (.int x), some (.int y), r] ∧ H' = H ∧ 0 ≤ y ∧ y.toNat = n ∧ Int.gcd x y = Int.gcd a b) _ ⟨a, b, _, rfl, rfl, hb, rfl, rfl⟩ ?_
    rintro n σ' H' ⟨x, y, r, rfl, rfl, h0, rfl, hg⟩
    walk_at "go"
    refine x_iteND (fun hy => ?_) (fun hy => ?_)
    · refine x_again ?_
      walk_at "go"
      have h1 := Int.emod_nonneg x hy
      have h2 := Int.emod_lt_of_pos x (show 0 < y by omega)
      exact ⟨(x % y).toNat, by omega, y, x % y, _, rfl, rfl, h1, rfl, by rw [gcd_step]; exact hg⟩
    · walk_at "go"
      subst hy
      rw [Int.gcd_zero_right] at hg
      have e : (if x < 0 then -x else x) = ((Int.gcd a b : Nat) : Int) := by
        rw [← hg]
        split <;> omega
      rw [e]
      exact k
end
section
variable {P : Program} {w : World} {K : PySem.W.Frag} {mg : Str → Option Value} {base : Heap} {d : Ad}
abbrev ratD (r : Int × Int) : PyData := .tuple [.int r.1, .int r.2]
inductive Sp_ratio (K : PySem.W.Frag) (C : Addr) : List V → Hp → VK → XK → Prop
  | mk {S : Hp} {O : List (Addr × HO)} {t u : Int} {H : Hp} {Q : VK} {E : XK} (W : Wd K S H O) (hb : u.natAbs < 2 ^ 8000) (e : u = 0 → E (.ref C) none H)
    (k : u ≠ 0 → ∀ S' H' v, Wd K S' H' O → Same S S' → Dp K S' v (ratD (rat t u)) → Q v H') : Sp_ratio K C [.int t, .int u] H Q E
theorem ok_ratio (T : Txt K mg d) : FnOk P w K mg base (L2.CX P w) 3 d.a_ratio d.f_ratio ["top", "under"] (Sp_ratio K d.c_NoRatio) := by
  refine T.F_ratio.okX sc_ratio (fun vs H Q E h => ?_) (fun cdv A outer s H vs Q E hr h => ?_)
  · cases h; rfl
  · have hu := hu_of hr
    obtain ⟨W, hb, e, k⟩ := h
    rename_i S O t u
    refine ⟨_, (pss_cons (ps_if (pt_cmpR op_eq (pv 1) pe_int (nomark _)) (pss_one (ps_raise rfl (takes_of rfl rfl rfl rfl) (pmk_own PySem.F.excBase_ValueError T.x_NoRatio T.g_NoRatio T.k_NoRatio (raises_own T.s_NoRatio T.t_NoRatio) (by exact rfl)))) pss_nil)
      (pss_cons (ps_if (pt_cmpR op_lt (pv 1) pe_int (nomark _)) (pss_cons (ps_set (i := 0) sc_ratio.nd rfl (by first | exact Or.inl rfl | exact Or.inr rfl) (pe_un un_neg (pv 0)))
      (pss_one (ps_set (i := 1) sc_ratio.nd rfl (by first | exact Or.inl rfl | exact Or.inr rfl) (pe_un un_neg (pv 1))))) pss_nil)
      (pss_cons (ps_set (i := 2) sc_ratio.nd rfl (by first | exact Or.inl rfl | exact Or.inr rfl) (pe_call (ok_common T) (hr.mono (by decide)) (by rfl) T.g_common T.k_common T.p_common .nil pass0 (pa_cons (pv 0) (pa_cons (pv 1) pa_nil))))
      (pss_one (ps_ret (pe_tup (pa_cons (pe_op op_fdivW (pv 0) (pv 2)) (pa_cons (pe_op op_fdivW (pv 1) (pv 2)) pa_nil)))))))), ?_⟩
    try dsimp only [cxK, cxw, cxprog]
    walk_at "go"
    refine x_iteD (fun hu0 => e hu0) (fun hu0 => ?_)
    walk_at "go"
    have hle := Int.gcd_le_natAbs_right t hu0
    have hgp := gcd_pos' t hu0
    have hdv : CDivW t (Int.gcd t u : Int) := wide_div (b := 8000) hgp (by omega) (by decide) (by decide)
    refine x_iteD (fun hn => ?_) (fun hn => ?_)
    · walk_at "go"
      refine .mk (by omega) ?_
      rw [Int.neg_gcd, Int.gcd_neg]
      walk_at "go"
      refine k hu0 _ _ _ (by assumption) (by assumption) ?_
      have e1 : ratD (rat t u) = .tuple [.int (-t / (Int.gcd t u : Int)), .int (-u / (Int.gcd t u : Int))] := by
        unfold rat
        rw [if_pos hn]
      rw [e1]
      assumption
    · walk_at "go"
      refine .mk (by omega) ?_
      walk_at "go"
      refine k hu0 _ _ _ (by assumption) (by assumption) ?_
      have e1 : ratD (rat t u) = .tuple [.int (t / (Int.gcd t u : Int)), .int (u / (Int.gcd t u : Int))] := by
        unfold rat
        rw [if_neg hn]
      rw [e1]
      assumption
end
section
variable {P : Program} {w : World} {K : PySem.W.Frag} {mg : Str → Option Value} {base : Heap} {d : Ad}
inductive Sp_minus (K : PySem.W.Frag) : List V → Hp → VK → XK → Prop
  | mk {S : Hp} {O : List (Addr × HO)} {a b : Rat} {x y : V} {H : Hp} {Q : VK} {E : XK} (W : Wd K S H O) (h1 : Dp K S x (qD a)) (h2 : Dp K S y (qD b)) (r1 : Bq 4000 a) (r2 : Bq 4000 b)
    (k : ∀ S' H' v, Wd K S' H' O → Same S S' → Dp K S' v (qD (a - b)) → Q v H') : Sp_minus K [x, y] H Q E
theorem ok_minus (T : Txt K mg d) : FnOk P w K mg base CX0 4 d.a_minus d.f_minus ["one", "other"] (Sp_minus K) := by
  refine T.F_minus.ok sc_minus (fun vs H Q E h => ?_) (fun cdv A outer s H vs Q E hr h => ?_)
  · cases h; rfl
  · have hu := hu_of hr
    obtain ⟨W, h1, h2, r1, r2, k⟩ := h
    rename_i S O a b x y
    obtain ⟨n1, m1⟩ := r1
    obtain ⟨n2, m2⟩ := r2
    replace m1 : (a.den : Int).natAbs < 2 ^ 4000 := by rw [Int.natAbs_natCast]; exact m1
    replace m2 : (b.den : Int).natAbs < 2 ^ 4000 := by rw [Int.natAbs_natCast]; exact m2
    have c1 : CMulW a.num b.den := cmulw_of n1 m2
    have c2 : CMulW b.num a.den := cmulw_of n2 m1
    have c3 : CMulW a.den b.den := cmulw_of m1 m2
    have c4 : CMulW a.num b.num := cmulw_of n1 n2
    have hb : ((a.den : Int) * (b.den : Int)).natAbs < 2 ^ 8000 := wide_lt m1 m2
    have hn := den_ne a b
    refine ⟨_, (pss_one (ps_ret (pe_call (ok_ratio T) (hr.mono (by decide)) (by rfl) T.g_ratio T.k_ratio T.p_ratio .nil passL (pa_cons (pe_op op_sub (pe_op op_mulW (pe_ix (ixa (K := K) (by rfl)) (pv 0) pe_int (fun _ _ => rfl)) (pe_ix (ixa (K := K) (by rfl)) (pv 1) pe_int (fun _ _ => rfl))) (pe_op op_mulW (pe_ix (ixa (K := K) (by rfl)) (pv 1) pe_int (fun _ _ => rfl)) (pe_ix (ixa (K := K) (by rfl)) (pv 0) pe_int (fun _ _ => rfl)))) (pa_cons (pe_op op_mulW (pe_ix (ixa (K := K) (by rfl)) (pv 0) pe_int (fun _ _ => rfl)) (pe_ix (ixa (K := K) (by rfl)) (pv 1) pe_int (fun _ _ => rfl))) pa_nil))))), ?_⟩
    try dsimp only [cxK, cxw, cxprog]
    walk_at "go"
    refine .mk W hb (fun e => absurd e hn) (fun _ S' H' v W' hS hv => k S' H' v W' hS ?_)
    rw [rat_q hn, ← q_sub] at hv
    exact hv
end
section
variable {P : Program} {w : World} {K : PySem.W.Frag} {mg : Str → Option Value} {base : Heap} {d : Ad}
inductive Sp_first_sheet (K : PySem.W.Frag) (C : Addr) : List V → Hp → VK → XK → Prop
  | mk {S : Hp} {O : List (Addr × HO)} {A : List (List Rat)} {lim g : List Rat} {x y z : V} {H : Hp} {Q : VK} {E : XK} (W : Wd K S H O) (hx : Dp K S x (tabQ A)) (hy : Dp K S y (rowQ lim)) (hz : Dp K S z (rowQ g)) (P : ProgOk A lim g)
    (bA : ∀ r ∈ A, ∀ q ∈ r, Bq 1300 q) (bl : ∀ q ∈ lim, Bq 1300 q)
    (k : ∀ S' H' p dx l b vs bs M, Wd K S' H' (shO C p dx l b (wideN g.length A.length (atN lim) : Nat) bs vs O) → Same S S' → DpAll K S' vs (M.map rowQ) →
      Holds0 A.length (wideN g.length A.length (atN lim)) (T0f g.length A.length (ent A) (atN lim)) (b0f g.length A.length (atN lim)) M bs → Q (.ref p) H') : Sp_first_sheet K C [x, y, z] H Q E
theorem ok_first_sheet (T : Txt K mg d) : FnOk P w K mg base CX0 5 d.a_first_sheet d.f_first_sheet ["rows", "limits", "goal"] (Sp_first_sheet K d.c_Sheet) := by
  refine T.F_first_sheet.ok sc_first_sheet (fun vs H Q E h => ?_) (fun cdv A outer s H vs Q E hr h => ?_)
  · cases h; rfl
  · have hu := hu_of hr
    obtain ⟨W, hx, hy, hz, P, bA, bl, k⟩ := h
    rename_i S O A lim g x y z
    have hN0 : Dp K S (.ref d.o_NOUGHT) (qD 0) := dp_const T.l_NOUGHT
    have g1 := P.g1
    have g6 := P.g6
    have a6 := P.a6
    have al := P.al
    refine ⟨_, (pss_cons (ps_set (i := 3) sc_first_sheet.nd rfl (by first | exact Or.inl rfl | exact Or.inr rfl) (pe_callB (lena (K := K) (by rfl)) (by rfl) T.b_len (by decide +kernel) (pa_cons (pv 2) pa_nil)))
      (pss_cons (ps_setLc (i := 4) (own := [("k", 8)]) rfl sc_first_sheet.nd rfl rfl (sw_true rfl rfl rfl (by decide +kernel)) (pi_range1 (by rfl) T.b_range (pa_cons (pe_callB (lena (K := K) (by rfl)) (by rfl) T.b_len (by decide +kernel) (pa_cons (pv 0) pa_nil)) pa_nil)) (blkOk_by (by first | decide +kernel | exact Eq.refl true)) (fun _ _ _ _ _ => pg_name (i := 8) sc_first_sheet.nd rfl (by first | exact Or.inl rfl | exact Or.inr rfl)) (fun _ _ _ _ _ => pts_one (pt_val (pe_call (ok_is_less T) (hr.mono (by decide)) (by rfl) T.g_is_less T.k_is_less T.p_is_less .nil pass0 (pa_cons (pe_ix (ixa (K := K) (by rfl)) (pv 1) (pv 8) (fun _ _ => rfl)) (pa_cons (pe_glob (v := .ref d.o_NOUGHT) (by rfl) T.g_NOUGHT rfl) pa_nil))))) (fun _ _ _ _ _ => (pv 8)))
      (pss_cons (ps_set (i := 5) sc_first_sheet.nd rfl (by first | exact Or.inl rfl | exact Or.inr rfl) (pe_op op_add (pe_op op_add (pv 3) (pe_callB (lena (K := K) (by rfl)) (by rfl) T.b_len (by decide +kernel) (pa_cons (pv 0) pa_nil))) (pe_callB (lena (K := K) (by rfl)) (by rfl) T.b_len (by decide +kernel) (pa_cons (pv 4) pa_nil))))
      (pss_cons (ps_set (i := 6) sc_first_sheet.nd rfl (by first | exact Or.inl rfl | exact Or.inr rfl) (pe_lst pa_nil))
      (pss_cons (ps_set (i := 7) sc_first_sheet.nd rfl (by first | exact Or.inl rfl | exact Or.inr rfl) (pe_lst pa_nil))
      (pss_cons (ps_for PassesOwn.never rfl (pi_range1 (by rfl) T.b_range (pa_cons (pe_callB (lena (K := K) (by rfl)) (by rfl) T.b_len (by decide +kernel) (pa_cons (pv 0) pa_nil)) pa_nil)) (pg_name (i := 8) sc_first_sheet.nd rfl (by first | exact Or.inl rfl | exact Or.inr rfl)) (pss_cons (ps_set (i := 9) sc_first_sheet.nd rfl (by first | exact Or.inl rfl | exact Or.inr rfl) (pe_op op_catS (pe_op op_catS (pe_callTy (lista (K := K) (by rfl)) (by rfl) T.b_list (by decide +kernel) (pa_cons (pe_ix (ixa (K := K) (by rfl)) (pv 0) (pv 8) (fun _ _ => rfl)) pa_nil)) (pe_op op_rep (pe_lst (pa_cons (pe_glob (v := .ref d.o_NOUGHT) (by rfl) T.g_NOUGHT rfl) pa_nil)) (pe_op op_sub (pv 5) (pv 3)))) (pe_lst (pa_cons (pe_ix (ixa (K := K) (by rfl)) (pv 1) (pv 8) (fun _ _ => rfl)) pa_nil))))
      (pss_cons (ps_asg (pe_tup (pa_cons pe_int (pa_cons pe_int pa_nil))) (pg_sub (pv 9) (pe_op op_add (pv 3) (pv 8)) set_list))
      (pss_cons (ps_expr (pe_bm PySem.F.plainAttrs_list PySem.F.slot_list_append PySem.F.type_list_append mt_append (pv 7) (pa_cons (pe_op op_add (pv 3) (pv 8)) pa_nil)))
      (pss_cons (ps_if (pt_cmpR (ina (K := K) (by rfl)) (pv 8) (pv 4) (by rfl)) (pss_cons (ps_setLc (i := 9) (own := [("number", 10)]) rfl sc_first_sheet.nd rfl rfl (sw_true rfl rfl rfl (by decide +kernel)) (pi_list (pv 9)) (blkOk_by (by first | decide +kernel | exact Eq.refl true)) (fun _ _ _ _ _ => pg_name (i := 10) sc_first_sheet.nd rfl (by first | exact Or.inl rfl | exact Or.inr rfl)) (fun _ _ _ _ _ => pts_nil) (fun _ _ _ _ _ => (pe_call (ok_minus T) (hr.mono (by decide)) (by rfl) T.g_minus T.k_minus T.p_minus .nil pass0 (pa_cons (pe_glob (v := .ref d.o_NOUGHT) (by rfl) T.g_NOUGHT rfl) (pa_cons (pv 10) pa_nil)))))
      (pss_cons (ps_asg (pe_tup (pa_cons pe_int (pa_cons pe_int pa_nil))) (pg_sub (pv 9) (pe_op op_add (pe_op op_add (pv 3) (pe_callB (lena (K := K) (by rfl)) (by rfl) T.b_len (by decide +kernel) (pa_cons (pv 0) pa_nil))) (pe_bm PySem.F.plainAttrs_list PySem.F.slot_list_index PySem.F.type_list_index mt_index (pv 4) (pa_cons (pv 8) pa_nil))) set_list))
      (pss_one (ps_asg (pe_op op_add (pe_op op_add (pv 3) (pe_callB (lena (K := K) (by rfl)) (by rfl) T.b_len (by decide +kernel) (pa_cons (pv 0) pa_nil))) (pe_bm PySem.F.plainAttrs_list PySem.F.slot_list_index PySem.F.type_list_index mt_index (pv 4) (pa_cons (pv 8) pa_nil))) (pg_sub (pv 7) (pv 8) set_list))))) pss_nil)
      (pss_one (ps_expr (pe_bm PySem.F.plainAttrs_list PySem.F.slot_list_append PySem.F.type_list_append mt_append (pv 6) (pa_cons (pv 9) pa_nil)))))))))
      (pss_one (ps_ret (pe_make T.m_Sheet (ok_Sheet_init T) (hr.mono (by decide)) (by rfl) T.g_Sheet T.p_Sheet_init .nil pass0 (pa_cons (pv 6) (pa_cons (pv 7) (pa_cons (pv 5) pa_nil)))))))))))), ?_⟩
    try dsimp only [cxK, cxw, cxprog]
    walk_at "go"
    have lg : ((g.map qD).length : Int) = (g.length : Nat) := by rw [List.length_map]
    have lA : ((A.map rowQ).length : Int) = (A.length : Nat) := by rw [List.length_map]
    rw [lg]
    refine lcr_filt PyData.int (fun k : Nat => decide (atN lim k < 0)) (fun k : Nat => (k : Int)) W ⟨by omega, by omega⟩ (fun i S1 H1 R acc N hi W1 hS1 E => ?_) (fun S1 H1 hv W1 hS1 hhv => ?_)
    · have hiA : i < A.length := by simp only [List.length_map, Int.toNat_natCast] at hi; exact hi
      walk_at "go"
      refine .mk (a := atN lim i) (b := 0) W1 (by walk_at "is") (by walk_at "is") ((bl _ (nthN_mem (by omega))).mono (by decide)) (bq_zero (by decide)) ?_
      walk_at "go"
      refine x_ite (fun hc => ?_) (fun hc => ?_)
      · walk_at "go"
        walk_at "lyp"
      · walk_at "lnp"
    rw [lA, Int.toNat_natCast] at hhv
    replace hhv : Dp K S1 hv (.list ((nsI (negs A.length (atN lim))).map PyData.int)) := hhv
    have hnl : (negs A.length (atN lim)).length ≤ A.length := by
      have := List.length_filter_le (fun k => decide (atN lim k < 0)) (List.range A.length)
      rw [List.length_range] at this
      exact this
    have en : wideN g.length A.length (atN lim) = g.length + A.length + (negs A.length (atN lim)).length := rfl
    walk_at "go"
    have e0 : ((g.length : Nat) : Int) + ((A.map rowQ).length : Nat) + (((nsI (negs A.length (atN lim))).map PyData.int).length : Nat) = ((wideN g.length A.length (atN lim) : Nat) : Int) := by
      rw [List.length_map, List.length_map, List.length_map, en]; omega
    rw [e0]
    clear e0
    refine x_own W1 (by simp) (fun l H2 W2 => ?_)
    walk_at "go"
    refine x_own W2 (by simp) (fun b H3 W3 => ?_)
    walk_at "go"
    have mm : ∀ {i : Nat}, i < A.length → (nth A (i : Int)).length = g.length := fun {i} hi => P.rows _ (nthN_mem hi)
    generalize hwn : wideN g.length A.length (atN lim) = wn at *
    refine x_forNL (fun i σ' H' => ∃ (S' : Hp) (vs : List V) (bs : List Int) (M : List (List Rat)) (z8 z9 : Option V), σ' = [some x, some y, some z, some (.int (g.length : Int)), some hv, some (.int (wn : Int)), some (.ref l), some (.ref b), z8, z9, none] ∧
      Wd K S' H' ((b, .lst (bs.map V.int)) :: (l, .lst vs) :: O) ∧ Same S1 S' ∧ DpAll K S' vs (M.map rowQ) ∧ Mat M i (wn + 1) ∧ (∀ k j, k < i → j < wn + 1 → ent M k j = T0f g.length A.length (ent A) (atN lim) k j) ∧ bs.length = i ∧ ∀ k : Nat, k < i → nth bs (k : Int) = (b0f g.length A.length (atN lim) k : Int)) (by omega)
      ⟨S1, [], [], [], _, _, rfl, W3, Same.refl _, .nil, ⟨rfl, fun k hk => absurd hk (Nat.not_lt_zero _)⟩, fun k j hk => absurd hk (Nat.not_lt_zero _), rfl, fun k hk => absurd hk (Nat.not_lt_zero _)⟩ ?_ ?_
    · rintro i σ' H' hi ⟨S', vs, bs, M, z8, z9, rfl, W', hS', hd, mt, he, hbl, hbe⟩
      have hri := mm hi
      have bAi : ∀ q ∈ nth A (i : Int), Bq 1300 q := bA _ (nthN_mem hi)
      have hvl : vs.length = i := by rw [dpAll_len hd, List.length_map, mt.h]
      have hil : i < lim.length := by omega
      walk_at "go"
      rename_i u1 hu1 S4 H4 v4 W4 hS4 hv4
      refine x_own W4 (by simp) (fun g5 H5 W5 => ?_)
      walk_at "go"
      refine x_repS W5 (by walk_at "is") (by omega) (by omega) (fun S6 H6 v6 W6 hS6 hv6 => ?_)
      have er : ((wn : Int) - (g.length : Int)).toNat = wn - g.length := by omega
      rw [er] at hv6
      walk_at "go"
      refine x_catS W6 (dp_mono hS6 hv4) hv6 (by simp only [List.length_map, List.length_replicate]; omega) (fun S7 H7 v7 W7 hS7 hv7 => ?_)
      walk_at "go"
      rename_i u8 hu8
      refine x_lst W7 (ds := [qD (atN lim i)]) (.cons (by walk_at "is") .nil) (by simp) (fun S8 H8 v8 W8 hS8 hv8 => ?_)
      walk_at "go"
      refine x_catO W8 (dp_mono hS8 hv7) hv8 (by simp only [List.length_append, List.length_map, List.length_replicate, List.length_cons, List.length_nil]; omega) (fun ln us H9 hus W9 => ?_)
      have hus' : DpAll K S8 us (((nth A (i : Int) ++ List.replicate (wn - g.length) 0) ++ [atN lim i]).map qD) := by
        simp only [List.map_append, List.map_replicate, List.map_cons, List.map_nil]
        exact hus
      have hrl : ((nth A (i : Int) ++ List.replicate (wn - g.length) 0) ++ [atN lim i]).length = wn + 1 := by
        simp only [List.length_append, List.length_replicate, List.length_cons, List.length_nil]; omega
      have hre : ∀ j : Nat, j < wn + 1 → nth ((nth A (i : Int) ++ List.replicate (wn - g.length) 0) ++ [atN lim i]) (j : Int) = if j < g.length then ent A i j else if j = wn then atN lim i else 0 := fun j hj => by
        by_cases c1 : j < g.length
        · rw [if_pos c1, nthN_app1 (by rw [List.length_append]; omega), nthN_app1 (by omega)]
        · rw [if_neg c1]
          by_cases c2 : j = wn
          · have e : j = (nth A (i : Int) ++ List.replicate (wn - g.length) (0 : Rat)).length + 0 := by rw [List.length_append, List.length_replicate]; omega
            rw [if_pos c2, e, nthN_app2 (by simp)]
            rfl
          · have e : j = (nth A (i : Int)).length + (j - g.length) := by omega
            rw [if_neg c2, nthN_app1 (by rw [List.length_append, List.length_replicate]; omega), e, nthN_app2 (by rw [List.length_replicate]; omega), nthN_rep (by omega)]
      generalize (nth A (i : Int) ++ List.replicate (wn - g.length) 0) ++ [atN lim i] = r at *
      clear hus hv4 hv6 hv7 hv8
      walk_at "go"
      rename_i S10 H10 v10 W10 hS10 hv10
      have hv10' : Dp K S10 v10 (qD 1) := hv10
      refine x_setD (d := qD 1) 0 W10 rfl (dpAll_mono hS10 hus') (j := g.length + i) (by omega) (by rw [List.length_map]; omega) hv10' (fun H11 hd11 W11 => ?_)
      rw [← List.map_set] at hd11
      have hre2 : ∀ j : Nat, j < wn + 1 → nth (r.set (g.length + i) 1) (j : Int) = base0 g.length wn (ent A) (atN lim) i j := fun j hj => by
        rw [nthN_set (by omega)]
        unfold base0
        by_cases c : j = g.length + i
        · rw [if_pos c, if_pos c]
        · rw [if_neg c, if_neg c, hre j hj]
      have hrl2 : (r.set (g.length + i) 1).length = wn + 1 := by rw [List.length_set]; exact hrl
      generalize r.set (g.length + i) 1 = r2 at *
      clear hre hrl hus'
      walk_at "g"
      refine x_app 1 W11 rfl (by rw [List.length_map]; omega) (fun H12 W12 => ?_)
      have eb : bs.map V.int ++ [V.int ((g.length : Int) + (i : Int))] = (bs ++ [(g.length : Int) + (i : Int)]).map V.int := by rw [List.map_append]; rfl
      have hS12 : Same S1 S10 := by walk_at "same"
      walk_at "g"
      refine x_ifJ (fun σ' H' => ∃ (S' : Hp) (ln : Addr) (us : List V) (r : List Rat) (bs' : List Int), σ' = [some x, some y, some z, some (.int (g.length : Int)), some hv, some (.int (wn : Int)), some (.ref l), some (.ref b), some (.int (i : Int)), some (.ref ln), none] ∧
        Wd K S' H' ((ln, .lst us) :: (b, .lst (bs'.map V.int)) :: (l, .lst vs) :: O) ∧ Same S10 S' ∧ DpAll K S' us (r.map qD) ∧ r.length = wn + 1 ∧ (∀ j : Nat, j < wn + 1 → nth r (j : Int) = T0f g.length A.length (ent A) (atN lim) i j) ∧ bs'.length = i + 1 ∧ ∀ k : Nat, k < i + 1 → nth bs' (k : Int) = (b0f g.length A.length (atN lim) k : Int)) (fun nx' hnx => ?_) ?_
      · have W13 : Wd K S10 H12 ((ln, .lst (us.set (g.length + i) v10)) :: (b, .lst ((bs ++ [(g.length : Int) + (i : Int)]).map V.int)) :: (l, .lst vs) :: O) := by rw [← eb]; exact W12
        have hb2 : ∀ k : Nat, k < i + 1 → k ≠ i → nth (bs ++ [(g.length : Int) + (i : Int)]) (k : Int) = (b0f g.length A.length (atN lim) k : Int) := fun k hk hne => by
          rw [nth_snoc hbl hk, if_neg hne]
          exact hbe k (by omega)
        have hb3 : nth (bs ++ [(g.length : Int) + (i : Int)]) (i : Int) = (g.length : Int) + (i : Int) := by rw [nth_snoc hbl (by omega), if_pos rfl]
        have hbl2 : (bs ++ [(g.length : Int) + (i : Int)]).length = i + 1 := by rw [List.length_append, hbl]; rfl
        generalize bs ++ [(g.length : Int) + (i : Int)] = bs2 at *
        have bb : ∀ j : Nat, j < wn + 1 → Bq 1300 (base0 g.length wn (ent A) (atN lim) i j) := fun j hj => by
          unfold base0
          split
          · exact bq_one (by decide)
          · split
            · exact bAi _ (nthN_mem (by omega))
            · split
              · exact bl _ (nthN_mem hil)
              · exact bq_zero (by decide)
        walk_at "go"
        refine x_inL (neg := false) W13 (dp_mono hS12 hhv) ?_
        refine x_kx ?_
        refine x_iteTo (if_neg Bool.false_ne_true) ?_
        rw [in_nsI hi]
        refine x_iteD (fun hn => ?_) (fun hn => ?_)
        · obtain ⟨ix1, ix2, ix3⟩ := idx_negs hi hn
          have hcb := hcol_bd (p := g.length) hi hn
          have ehc : hcol g.length A.length (atN lim) i = g.length + A.length + (negs A.length (atN lim)).idxOf i := rfl
          rw [hwn] at hcb
          walk_at "go"
          refine x_give W13 hd11 (fun S14 W14 hS14 hv14 => ?_)
          refine lc_listO (xs := r2) (f := qD) (fun q => some (qD (0 - q))) W14 hv14 (by omega) (fun q S' H' R acc N hq W' hS E => kn_tup fun u hu => ?_) (fun S15 H15 R us15 W15 hS15 hus15 => ?_)
          · obtain ⟨j, hj, ej⟩ := mem_nthN hq
            have bq : Bq 1300 q := by rw [← ej, hre2 j (by omega)]; exact bb j (by omega)
            walk_at "go"
            refine .mk (a := 0) (b := q) W' (by walk_at "is") hu (bq_zero (by decide)) (bq.mono (by decide)) (fun S4 H4 v4 W4 hS4 hv4 => ?_)
            walk_at "ly"
          rw [fm_map] at hus15
          have hus16 : DpAll K S15 us15 ((r2.map fun q => 0 - q).map qD) := by rw [List.map_map]; exact hus15
          walk_at "go"
          rename_i S17 H17 v17 W17 hS17 hv17
          have hv17' : Dp K S17 v17 (qD 1) := hv17
          have hhv17 : Dp K S17 hv (.list ((nsI (negs A.length (atN lim))).map PyData.int)) := by walk_at "is"
          refine x_bmd W17 hhv17 ?_
          walk_at "go"
          refine x_idxL W17 hhv17 ix1 ix2 ix3 ?_
          walk_at "go"
          refine x_setD (d := qD 1) 0 W17 rfl (dpAll_mono hS17 hus16) (j := hcol g.length A.length (atN lim) i) (by rw [ehc, List.length_map]; omega) (by simp only [List.length_map]; omega) hv17' (fun H18 hd18 W18 => ?_)
          walk_at "go"
          refine x_bmd W18 hhv17 ?_
          walk_at "go"
          refine x_idxL W18 hhv17 ix1 ix2 ix3 ?_
          walk_at "go"
          refine x_setM 1 W18 rfl (by omega) (by omega) (fun H19 W19 => ?_)
          walk_at "go"
          rw [Int.toNat_natCast] at W19
          refine hnx _ _ ⟨S17, R, _, (r2.map fun q => 0 - q).set (hcol g.length A.length (atN lim) i) 1, bs2.set i _, rfl, W19, by walk_at "same", by rw [List.map_set]; exact hd18, by rw [List.length_set, List.length_map]; exact hrl2, fun j hj => ?_, by rw [List.length_set]; exact hbl2, fun k hk => ?_⟩
          · rw [nthN_set (by rw [List.length_map]; omega)]
            unfold T0f
            rw [if_pos hn, hwn]
            by_cases c : j = hcol g.length A.length (atN lim) i
            · rw [if_pos c, if_pos c]
            · rw [if_neg c, if_neg c, nthN_map (by omega), hre2 j hj]
          · rw [nth_setI (by omega)]
            by_cases c : k = i
            · subst c
              rw [if_pos rfl]
              unfold b0f
              rw [if_pos hn, ehc, List.length_map]
              omega
            · rw [if_neg c]
              exact hb2 k hk c
        · walk_at "go"
          refine hnx _ _ ⟨S10, ln, _, r2, bs2, rfl, W13, Same.refl _, hd11, hrl2, fun j hj => ?_, hbl2, fun k hk => ?_⟩
          · unfold T0f
            rw [if_neg hn, hwn, hre2 j hj]
          · by_cases c : k = i
            · subst c
              rw [hb3]
              unfold b0f
              rw [if_neg hn]
              omega
            · exact hb2 k hk c
      · rintro σ' H' ⟨S20, ln', us', r', bs', rfl, W20, hS20, hus, hrl', hre', hbl', hbe'⟩
        walk_at "go"
        refine x_give W20 hus (fun S13 W13 hS13 hv13 => ?_)
        refine x_app 1 W13 rfl (by omega) (fun H14 W14 => ?_)
        walk_at "go"
        have hS14 : Same S1 S13 := by walk_at "same"
        refine ⟨S13, _, bs', M ++ [r'], _, _, rfl, W14, hS14, ?_, mt.app hrl', fun k j hk hj => ?_, hbl', hbe'⟩
        · rw [List.map_append]
          have hSs : Same S' S13 := (hS4.trans (hS6.trans (hS7.trans (hS8.trans hS10)))).trans (hS20.trans hS13)
          exact dpAll_app (dpAll_mono hSs hd) hv13
        · by_cases c : k = i
          · subst c
            rw [ent_app2 mt]
            exact hre' j hj
          · rw [ent_app1 mt (by omega)]
            exact he k j (by omega) hj
    · rintro σ' H' ⟨S', vs, bs, M, z8, z9, rfl, W', hS', hd, mt, he, hbl, hbe⟩
      walk_at "go"
      refine x_make ?_
      walk_at "go"
      refine x_mak W' (fun p dx H2 W2 => ?_)
      refine .mk W2 (fun H3 W3 => ?_)
      refine ⟨rfl, ?_⟩
      exact k S' H3 p dx l b vs bs M W3 (by walk_at "same") hd ⟨mt, he, hbl, hbe⟩
end
section
variable {P : Program} {w : World} {K : PySem.W.Frag} {mg : Str → Option Value} {base : Heap} {d : Ad}
inductive Sp_times (K : PySem.W.Frag) : List V → Hp → VK → XK → Prop
  | mk {S : Hp} {O : List (Addr × HO)} {a b : Rat} {x y : V} {H : Hp} {Q : VK} {E : XK} (W : Wd K S H O) (h1 : Dp K S x (qD a)) (h2 : Dp K S y (qD b)) (r1 : Bq 4000 a) (r2 : Bq 4000 b)
    (k : ∀ S' H' v, Wd K S' H' O → Same S S' → Dp K S' v (qD (a * b)) → Q v H') : Sp_times K [x, y] H Q E
theorem ok_times (T : Txt K mg d) : FnOk P w K mg base CX0 4 d.a_times d.f_times ["one", "other"] (Sp_times K) := by
  refine T.F_times.ok sc_times (fun vs H Q E h => ?_) (fun cdv A outer s H vs Q E hr h => ?_)
  · cases h; rfl
  · have hu := hu_of hr
    obtain ⟨W, h1, h2, r1, r2, k⟩ := h
    rename_i S O a b x y
    obtain ⟨n1, m1⟩ := r1
    obtain ⟨n2, m2⟩ := r2
    replace m1 : (a.den : Int).natAbs < 2 ^ 4000 := by rw [Int.natAbs_natCast]; exact m1
    replace m2 : (b.den : Int).natAbs < 2 ^ 4000 := by rw [Int.natAbs_natCast]; exact m2
    have c1 : CMulW a.num b.den := cmulw_of n1 m2
    have c2 : CMulW b.num a.den := cmulw_of n2 m1
    have c3 : CMulW a.den b.den := cmulw_of m1 m2
    have c4 : CMulW a.num b.num := cmulw_of n1 n2
    have hb : ((a.den : Int) * (b.den : Int)).natAbs < 2 ^ 8000 := wide_lt m1 m2
    have hn := den_ne a b
    refine ⟨_, (pss_one (ps_ret (pe_call (ok_ratio T) (hr.mono (by decide)) (by rfl) T.g_ratio T.k_ratio T.p_ratio .nil passL (pa_cons (pe_op op_mulW (pe_ix (ixa (K := K) (by rfl)) (pv 0) pe_int (fun _ _ => rfl)) (pe_ix (ixa (K := K) (by rfl)) (pv 1) pe_int (fun _ _ => rfl))) (pa_cons (pe_op op_mulW (pe_ix (ixa (K := K) (by rfl)) (pv 0) pe_int (fun _ _ => rfl)) (pe_ix (ixa (K := K) (by rfl)) (pv 1) pe_int (fun _ _ => rfl))) pa_nil))))), ?_⟩
    try dsimp only [cxK, cxw, cxprog]
    walk_at "go"
    refine .mk W hb (fun e => absurd e hn) (fun _ S' H' v W' hS hv => k S' H' v W' hS ?_)
    rw [rat_q hn, ← q_mul] at hv
    exact hv
end
section
variable {P : Program} {w : World} {K : PySem.W.Frag} {mg : Str → Option Value} {base : Heap} {d : Ad}
inductive Sp_with_goal (K : PySem.W.Frag) (C : Addr) : List V → Hp → VK → XK → Prop
  | mk {S : Hp} {O : List (Addr × HO)} {p dx l b : Addr} {z a : Int} {bs : List Int} {vs : List V} {M : List (List Rat)} {T1 : Nat → Nat → Rat} {bf : Nat → Nat} {o0 : Nat → Rat} {g : List Rat} {x : V} {m n q : Nat} {H : Hp} {Q : VK} {E : XK} (W : Wd K S H (shO C p dx l b z bs vs O))
    (hd : DpAll K S vs (M.map rowQ)) (hh : Holds0 m n T1 bf M bs) (hB : IsBas m n T1 bf) (hx : Dp K S x (rowQ g)) (ea : a = (q : Int)) (ez : z = (n : Int)) (hq : q + g.length ≤ n + 1) (hm : m ≤ 50) (hn : n ≤ 50)
    (ho : ∀ j, j < n + 1 → o0 j = if q ≤ j ∧ j < q + g.length then 0 - nth g ((j - q : Nat) : Int) else 0) (bg : ∀ y ∈ g, Bq 1300 y) (bT : ∀ i j, i < m → j < n + 1 → Bq 1300 (T1 i j)) (bo : ∀ t j, t ≤ m → j < n + 1 → Bq 1300 (offRow m T1 bf o0 t j))
    (k : ∀ S' H' vs' M', Wd K S' H' (shO C p dx l b z bs vs' O) → Same S S' → DpAll K S' vs' (M'.map rowQ) → Holds m n ⟨T1, bf, offRow m T1 bf o0 m⟩ M' bs → Q .non H') : Sp_with_goal K C [.ref p, x, .int a] H Q E
theorem ok_with_goal (T : Txt K mg d) : FnOk P w K mg base CX0 5 d.a_with_goal d.f_with_goal ["sheet", "goal", "first"] (Sp_with_goal K d.c_Sheet) := by
  refine T.F_with_goal.ok sc_with_goal (fun vs H Q E h => ?_) (fun cdv A outer s H vs Q E hr h => ?_)
  · cases h; rfl
  · have hu := hu_of hr
    obtain ⟨W, hd, hh, hB, hx, ea, ez, hq, hm, hn, ho, bg, bT, bo, k⟩ := h
    rename_i S O p dx l b z a bs vs M T1 bf o0 g x m n q
    subst ea ez
    have cS := T.c_Sheet
    have n1 := T.n_Sheet_lines
    have n2 := T.n_Sheet_basis
    have n3 := T.n_Sheet_wide
    have hN0 : Dp K S (.ref d.o_NOUGHT) (qD 0) := dp_const T.l_NOUGHT
    have hbl := hh.bl
    have mt := hh.mat
    have hM := mt.h
    have hvl : vs.length = m := by rw [dpAll_len hd, List.length_map, hM]
    refine ⟨_, (pss_cons (ps_set (i := 3) sc_with_goal.nd rfl (by first | exact Or.inl rfl | exact Or.inr rfl) (pe_op op_catS (pe_op op_rep (pe_lst (pa_cons (pe_glob (v := .ref d.o_NOUGHT) (by rfl) T.g_NOUGHT rfl) pa_nil)) (pv 2)) (pe_lc (own := [("number", 6)]) rfl sc_with_goal.nd (pi_list (pv 1)) (blkOk_by (by first | decide +kernel | exact Eq.refl true)) (fun _ _ _ _ _ => pg_name (i := 6) sc_with_goal.nd rfl (by first | exact Or.inl rfl | exact Or.inr rfl)) (fun _ _ _ _ _ => pts_nil) (fun _ _ _ _ _ => (pe_call (ok_minus T) (hr.mono (by decide)) (by rfl) T.g_minus T.k_minus T.p_minus .nil pass0 (pa_cons (pe_glob (v := .ref d.o_NOUGHT) (by rfl) T.g_NOUGHT rfl) (pa_cons (pv 6) pa_nil)))))))
      (pss_cons (ps_set (i := 3) sc_with_goal.nd rfl (by first | exact Or.inl rfl | exact Or.inr rfl) (pe_op op_catS (pv 3) (pe_op op_rep (pe_lst (pa_cons (pe_glob (v := .ref d.o_NOUGHT) (by rfl) T.g_NOUGHT rfl) pa_nil)) (pe_op op_sub (pe_op op_add (pe_fld (pv 0) rfl) pe_int) (pe_callB (lena (K := K) (by rfl)) (by rfl) T.b_len (by decide +kernel) (pa_cons (pv 3) pa_nil))))))
      (pss_cons (ps_for PassesOwn.never rfl (pi_range1 (by rfl) T.b_range (pa_cons (pe_callB (lena (K := K) (by rfl)) (by rfl) T.b_len (by decide +kernel) (pa_cons (pe_fld (pv 0) rfl) pa_nil)) pa_nil)) (pg_name (i := 4) sc_with_goal.nd rfl (by first | exact Or.inl rfl | exact Or.inr rfl)) (pss_cons (ps_set (i := 5) sc_with_goal.nd rfl (by first | exact Or.inl rfl | exact Or.inr rfl) (pe_ix (ixa (K := K) (by rfl)) (pv 3) (pe_ix (ixa (K := K) (by rfl)) (pe_fld (pv 0) rfl) (pv 4) (fun _ _ => rfl)) (fun _ _ => rfl)))
      (pss_one (ps_set (i := 3) sc_with_goal.nd rfl (by first | exact Or.inl rfl | exact Or.inr rfl) (pe_lc (own := [("j", 7)]) rfl sc_with_goal.nd (pi_range1 (by rfl) T.b_range (pa_cons (pe_callB (lena (K := K) (by rfl)) (by rfl) T.b_len (by decide +kernel) (pa_cons (pv 3) pa_nil)) pa_nil)) (blkOk_by (by first | decide +kernel | exact Eq.refl true)) (fun _ _ _ _ _ => pg_name (i := 7) sc_with_goal.nd rfl (by first | exact Or.inl rfl | exact Or.inr rfl)) (fun _ _ _ _ _ => pts_nil) (fun _ _ _ _ _ => (pe_call (ok_minus T) (hr.mono (by decide)) (by rfl) T.g_minus T.k_minus T.p_minus .nil pass0 (pa_cons (pe_ix (ixa (K := K) (by rfl)) (pv 3) (pv 7) (fun _ _ => rfl)) (pa_cons (pe_call (ok_times T) (hr.mono (by decide)) (by rfl) T.g_times T.k_times T.p_times .nil pass0 (pa_cons (pv 5) (pa_cons (pe_ix (ixa (K := K) (by rfl)) (pe_ix (ixa (K := K) (by rfl)) (flda (K := K) (by rfl) (pv 0) rfl) (pv 4) (fun _ _ => rfl)) (pv 7) (fun _ _ => rfl)) pa_nil))) pa_nil)))))))))
      (pss_one (ps_expr (pe_bm PySem.F.plainAttrs_list PySem.F.slot_list_append PySem.F.type_list_append mt_append (flda (K := K) (by rfl) (pv 0) rfl) (pa_cons (pv 3) pa_nil))))))), ?_⟩
    try dsimp only [cxK, cxw, cxprog]
    walk_at "go"
    refine x_own W (by simp) (fun g0 H1 W1 => ?_)
    walk_at "go"
    refine x_repS W1 hN0 (by omega) (by omega) (fun S2 H2 v2 W2 hS2 hv2 => ?_)
    walk_at "go"
    refine lc_map qD (fun y : Rat => 0 - y) W2 (dp_mono hS2 hx) (by omega) (fun y S' H' R acc N hy W' hS E => kn_tup fun u hu => ?_) (fun S3 H3 v3 W3 hS3 hv3 => ?_)
    · walk_at "go"
      refine .mk (a := 0) (b := y) W' (by walk_at "is") hu (bq_zero (by decide)) ((bg y hy).mono (by decide)) (fun S4 H4 v4 W4 hS4 hv4 => ?_)
      walk_at "ly"
    walk_at "go"
    refine x_catS W3 (dp_mono hS3 hv2) hv3 (by simp only [List.length_map, List.length_replicate]; omega) (fun S4 H4 v4 W4 hS4 hv4 => ?_)
    walk_at "go"
    refine x_own W4 (by simp) (fun g5 H5 W5 => ?_)
    walk_at "go"
    refine svW 1 W5 rfl cS n3 ?_
    walk_at "go"
    rw [Int.toNat_natCast]
    have el : (List.replicate q (qD 0) ++ List.map qD (List.map (fun y => 0 - y) g)).length = q + g.length := by simp only [List.length_append, List.length_replicate, List.length_map]
    rw [Int.toNat_natCast] at hv4
    rw [el]
    refine x_repS W5 (by walk_at "is") (by omega) (by omega) (fun S6 H6 v6 W6 hS6 hv6 => ?_)
    walk_at "go"
    have en : ((n : Int) + 1 - ((q + g.length : Nat) : Int)).toNat = n + 1 - (q + g.length) := by omega
    rw [en] at hv6
    refine x_catS W6 (dp_mono hS6 hv4) hv6 (by simp only [List.length_append, List.length_map, List.length_replicate]; omega) (fun S7 H7 v7 W7 hS7 hv7 => ?_)
    have hr0 : Dp K S7 v7 (rowQ ((List.replicate q 0 ++ g.map (fun y => 0 - y)) ++ List.replicate (n + 1 - (q + g.length)) 0)) := by
      simp only [rowQ, List.map_append, List.map_replicate]
      exact hv7
    have hl0 : ((List.replicate q (0 : Rat) ++ g.map (fun y => 0 - y)) ++ List.replicate (n + 1 - (q + g.length)) 0).length = n + 1 := by
      simp only [List.length_append, List.length_map, List.length_replicate]; omega
    have he0 : ∀ j : Nat, j < n + 1 → nth ((List.replicate q (0 : Rat) ++ g.map (fun y => 0 - y)) ++ List.replicate (n + 1 - (q + g.length)) 0) (j : Int) = offRow m T1 bf o0 0 j := fun j hj => by
      rw [off_zero, ho j hj]
      by_cases c1 : j < q
      · rw [if_neg (by omega), nthN_app1 (by simp only [List.length_append, List.length_map, List.length_replicate]; omega), nthN_app1 (by rw [List.length_replicate]; exact c1), nthN_rep c1]
      · by_cases c2 : j < q + g.length
        · rw [if_pos ⟨by omega, c2⟩, nthN_app1 (by simp only [List.length_append, List.length_map, List.length_replicate]; omega)]
          have e : j = (List.replicate q (0 : Rat)).length + (j - q) := by rw [List.length_replicate]; omega
          rw [e, nthN_app2 (by rw [List.length_map]; omega), nthN_map (by omega), List.length_replicate, Nat.add_sub_cancel_left]
        · rw [if_neg (by omega)]
          have e : j = (List.replicate q (0 : Rat) ++ g.map (fun y => 0 - y)).length + (j - (q + g.length)) := by simp only [List.length_append, List.length_map, List.length_replicate]; omega
          rw [e, nthN_app2 (by rw [List.length_replicate]; omega), nthN_rep (by omega)]
    generalize (List.replicate q (0 : Rat) ++ g.map (fun y => 0 - y)) ++ List.replicate (n + 1 - (q + g.length)) 0 = r0 at *
    clear hv7 hv6 hv4 hv3 hv2 el en
    walk_at "go"
    refine svB 0 W7 rfl cS n2 ?_
    walk_at "go"
    refine x_lenO 2 W7 rfl ?_
    walk_at "go"
    refine x_forNL (fun i σ' H' => ∃ (S' : Hp) (ln : V) (r : List Rat) (z4 z5 : Option V), σ' = [some (.ref p), some x, some (.int (q : Int)), some ln, z4, z5, none, none] ∧ Wd K S' H' (shO d.c_Sheet p dx l b (n : Int) bs vs O) ∧ Same S7 S' ∧ Dp K S' ln (rowQ r) ∧ r.length = n + 1 ∧
      ∀ j : Nat, j < n + 1 → nth r (j : Int) = offRow m T1 bf o0 i j) (by omega) ⟨S7, v7, r0, _, _, rfl, W7, Same.refl _, hr0, hl0, he0⟩ ?_ ?_
    · rintro i σ' H' hi ⟨S', ln, r, z4, z5, rfl, W', hS', hln, hrl, hre⟩
      have him : i < m := by omega
      have hS0 : Same S S' := by walk_at "same"
      have hd' := dpAll_mono hS0 hd
      have hbi := hh.b i him
      have hblt := hB.lt i him
      have hri := mt.w i him
      have hesh : nth r ((bf i : Nat) : Int) = offRow m T1 bf o0 i (bf i) := hre (bf i) (by omega)
      rw [off_share hB him] at hesh
      have bsh : Bq 1300 (o0 (bf i)) := by
        have := bo 0 (bf i) (by omega) (by omega)
        rw [off_zero] at this
        exact this
      walk_at "go"
      refine svB 0 W' rfl cS n2 ?_
      walk_at "go"
      refine x_ixIO 2 W' rfl rfl (by omega) ?_
      walk_at "go"
      rename_i sh hsh
      rw [hbi, hesh] at hsh
      refine lcr_map qD (fun j : Nat => offRow m T1 bf o0 i j - o0 (bf i) * T1 i j) W' ⟨by omega, by simp only [List.length_map]; omega⟩ (fun j S1 H1 R acc N hj W1 hS1 E => ?_) (fun S1 H1 v1 W1 hS1 hv1 => ?_)
      · have hjn : j < n + 1 := by simp only [List.length_map, hrl, Int.toNat_natCast] at hj; exact hj
        walk_at "go"
        rename_i x1 hx1
        rw [hre j hjn] at hx1
        refine svL 1 W1 rfl cS n1 ?_
        walk_at "go"
        refine x_rowO 4 W1 rfl (dpAll_mono hS1 hd') rfl (by omega) (fun u1 hu1 => ?_)
        walk_at "go"
        rename_i x2 hx2
        have hx2' : Dp K S1 x2 (qD (T1 i j)) := by rw [← hh.T i j him hjn]; exact hx2
        refine .mk (a := o0 (bf i)) (b := T1 i j) W1 (dp_mono hS1 hsh) hx2' (bsh.mono (by decide)) ((bT i j him hjn).mono (by decide)) (fun S2 H2 v2 W2 hS2 hv2 => ?_)
        walk_at "go"
        refine .mk (a := offRow m T1 bf o0 i j) (b := o0 (bf i) * T1 i j) W2 (dp_mono hS2 hx1) hv2 ((bo i j (by omega) hjn).mono (by decide)) ((bq_mul bsh (bT i j him hjn)).mono (by decide)) (fun S3 H3 v3 W3 hS3 hv3 => ?_)
        walk_at "ly"
      rw [Int.toNat_natCast, List.length_map, hrl] at hv1
      walk_at "go"
      refine ⟨S1, v1, _, _, _, rfl, W1, by walk_at "same", hv1, by simp only [List.length_map, List.length_range], fun j hj => ?_⟩
      rw [nthN_range hj, off_step]
    · rintro σ' H' ⟨S', ln, r, z4, z5, rfl, W', hS', hln, hrl, hre⟩
      rw [hbl] at hre
      have hS0 : Same S S' := by walk_at "same"
      walk_at "go"
      refine svL 0 W' rfl cS n1 ?_
      refine x_bmo 3 W' rfl ?_
      walk_at "go"
      refine x_app 3 W' rfl (by omega) (fun H8 W8 => ?_)
      walk_at "go"
      refine k S' _ _ (M ++ [r]) W8 hS0 ?_ (holds_app hh hrl hre)
      rw [List.map_append]
      exact dpAll_app (dpAll_mono hS0 hd) hln
end
section
variable {P : Program} {w : World} {K : PySem.W.Frag} {mg : Str → Option Value} {base : Heap} {d : Ad}
inductive Sp_over (K : PySem.W.Frag) : List V → Hp → VK → XK → Prop
  | mk {S : Hp} {O : List (Addr × HO)} {a b : Rat} {x y : V} {H : Hp} {Q : VK} {E : XK} (W : Wd K S H O) (h1 : Dp K S x (qD a)) (h2 : Dp K S y (qD b)) (r1 : Bq 4000 a) (r2 : Bq 4000 b) (h0 : b ≠ 0)
    (k : ∀ S' H' v, Wd K S' H' O → Same S S' → Dp K S' v (qD (a / b)) → Q v H') : Sp_over K [x, y] H Q E
theorem ok_over (T : Txt K mg d) : FnOk P w K mg base CX0 4 d.a_over d.f_over ["one", "other"] (Sp_over K) := by
  refine T.F_over.ok sc_over (fun vs H Q E h => ?_) (fun cdv A outer s H vs Q E hr h => ?_)
  · cases h; rfl
  · have hu := hu_of hr
    obtain ⟨W, h1, h2, r1, r2, h0, k⟩ := h
    rename_i S O a b x y
    obtain ⟨n1, m1⟩ := r1
    obtain ⟨n2, m2⟩ := r2
    replace m1 : (a.den : Int).natAbs < 2 ^ 4000 := by rw [Int.natAbs_natCast]; exact m1
    replace m2 : (b.den : Int).natAbs < 2 ^ 4000 := by rw [Int.natAbs_natCast]; exact m2
    have c1 : CMulW a.num b.den := cmulw_of n1 m2
    have c3 : CMulW a.den b.num := cmulw_of m1 n2
    have hb : ((a.den : Int) * b.num).natAbs < 2 ^ 8000 := wide_lt m1 n2
    have hn : (a.den : Int) * b.num ≠ 0 := Int.mul_ne_zero (by have := den_pos' a; omega) (num_ne h0)
    refine ⟨_, (pss_one (ps_ret (pe_call (ok_ratio T) (hr.mono (by decide)) (by rfl) T.g_ratio T.k_ratio T.p_ratio .nil passL (pa_cons (pe_op op_mulW (pe_ix (ixa (K := K) (by rfl)) (pv 0) pe_int (fun _ _ => rfl)) (pe_ix (ixa (K := K) (by rfl)) (pv 1) pe_int (fun _ _ => rfl))) (pa_cons (pe_op op_mulW (pe_ix (ixa (K := K) (by rfl)) (pv 0) pe_int (fun _ _ => rfl)) (pe_ix (ixa (K := K) (by rfl)) (pv 1) pe_int (fun _ _ => rfl))) pa_nil))))), ?_⟩
    try dsimp only [cxK, cxw, cxprog]
    walk_at "go"
    refine .mk W hb (fun e => absurd e hn) (fun _ S' H' v W' hS hv => k S' H' v W' hS ?_)
    rw [rat_q hn, ← q_div] at hv
    exact hv
end
section
variable {P : Program} {w : World} {K : PySem.W.Frag} {mg : Str → Option Value} {base : Heap} {d : Ad}
/-- None, or the quotient and the row -/
def FndV (K : PySem.W.Frag) (S : Hp) (M : List (List Rat)) (q n : Nat) (v : V) : Option Nat → Prop
  | none => v = .non
  | some r => ∃ a, v = .ref a ∧ Dp K S v (.tuple [qD (ent M r n / ent M r q), .int (r : Int)])
inductive Sp_Sheet_leaving (K : PySem.W.Frag) (C : Addr) : List V → Hp → VK → XK → Prop
  | mk {S : Hp} {O : List (Addr × HO)} {p dx l b : Addr} {z c : Int} {bs : List Int} {vs : List V} {M : List (List Rat)} {q n R : Nat} {H : Hp} {Q : VK} {E : XK} (W : Wd K S H (shO C p dx l b z bs vs O)) (hd : DpAll K S vs (M.map rowQ)) (mt : Mat M R (n + 1))
    (ec : c = (q : Int)) (hq : q < n + 1) (hR : R ≤ 1000) (hb : bs.length ≤ R) (hs : ∀ i j, i < R → j < n + 1 → Bq 1300 (ent M i j))
    (k : ∀ S' H', Wd K S' H' (shO C p dx l b z bs vs O) → Same S S' → ((∀ i, i < bs.length → ¬ 0 < ent M i q) → Q .non H') ∧ ∀ r, LeaveI M bs q n bs.length (some r) → Q (.int (r : Int)) H') :
    Sp_Sheet_leaving K C [.ref p, .int c] H Q E
theorem ok_Sheet_leaving (T : Txt K mg d) : FnOk P w K mg base CX0 5 d.a_Sheet_leaving d.f_Sheet_leaving ["self", "part"] (Sp_Sheet_leaving K d.c_Sheet) := by
  refine T.F_Sheet_leaving.ok sc_Sheet_leaving (fun vs H Q E h => ?_) (fun cdv A outer s H vs Q E hr h => ?_)
  · cases h; rfl
  · have hu := hu_of hr
    obtain ⟨W, hd, mt, ec, hq, hR, hb, hs, k⟩ := h
    rename_i S O p dx l b z c bs vs M q n R
    subst ec
    have cS := T.c_Sheet
    have n1 := T.n_Sheet_lines
    have n2 := T.n_Sheet_basis
    have hM := mt.h
    have hN0 : Dp K S (.ref d.o_NOUGHT) (qD 0) := dp_const T.l_NOUGHT
    refine ⟨_, (pss_cons (ps_set (i := 2) sc_Sheet_leaving.nd rfl (by first | exact Or.inl rfl | exact Or.inr rfl) pe_non)
      (pss_cons (ps_for PassesOwn.never rfl (pi_range1 (by rfl) T.b_range (pa_cons (pe_callB (lena (K := K) (by rfl)) (by rfl) T.b_len (by decide +kernel) (pa_cons (pe_fld (pv 0) rfl) pa_nil)) pa_nil)) (pg_name (i := 3) sc_Sheet_leaving.nd rfl (by first | exact Or.inl rfl | exact Or.inr rfl)) (pss_cons (ps_set (i := 4) sc_Sheet_leaving.nd rfl (by first | exact Or.inl rfl | exact Or.inr rfl) (pe_ix (ixa (K := K) (by rfl)) (pe_ix (ixa (K := K) (by rfl)) (flda (K := K) (by rfl) (pv 0) rfl) (pv 3) (fun _ _ => rfl)) (pv 1) (fun _ _ => rfl)))
      (pss_one (ps_if (pt_val (pe_call (ok_is_less T) (hr.mono (by decide)) (by rfl) T.g_is_less T.k_is_less T.p_is_less .nil pass0 (pa_cons (pe_glob (v := .ref d.o_NOUGHT) (by rfl) T.g_NOUGHT rfl) (pa_cons (pv 4) pa_nil)))) (pss_cons (ps_set (i := 5) sc_Sheet_leaving.nd rfl (by first | exact Or.inl rfl | exact Or.inr rfl) (pe_call (ok_over T) (hr.mono (by decide)) (by rfl) T.g_over T.k_over T.p_over .nil pass0 (pa_cons (pe_ix (ixa (K := K) (by rfl)) (pe_ix (ixa (K := K) (by rfl)) (flda (K := K) (by rfl) (pv 0) rfl) (pv 3) (fun _ _ => rfl)) (pe_un un_neg pe_int) (fun _ _ => rfl)) (pa_cons (pv 4) pa_nil))))
      (pss_cons (ps_set (i := 6) sc_Sheet_leaving.nd rfl (by first | exact Or.inl rfl | exact Or.inr rfl) (pe_and (pe_cmpR ol_notN (pv 2) pe_non (nomark _)) (pe_one (pe_cmpR (eqDa (K := K) (by rfl) hr.units) (pv 5) (pe_ix (ixa (K := K) (by rfl)) (pv 2) pe_int (fun _ _ => rfl)) (nomark _)))))
      (pss_one (ps_if (PW.pt (pw_or (pt_cmpR ol_isN (pv 2) pe_non (nomark _)) (pw_or (pt_val (pe_call (ok_is_less T) (hr.mono (by decide)) (by rfl) T.g_is_less T.k_is_less T.p_is_less .nil pass0 (pa_cons (pv 5) (pa_cons (pe_ix (ixa (K := K) (by rfl)) (pv 2) pe_int (fun _ _ => rfl)) pa_nil)))) (pw_or1 (PW.pt (pw_and (trutha (K := K) (by rfl) (pv 6) (by intro _; rfl)) (pw_and1 (pt_cmpR op_lt (pe_ix (ixa (K := K) (by rfl)) (pe_fld (pv 0) rfl) (pv 3) (fun _ _ => rfl)) (pe_ix (ixa (K := K) (by rfl)) (pe_fld (pv 0) rfl) (pe_ix (ixa (K := K) (by rfl)) (pv 2) pe_int (fun _ _ => rfl)) (fun _ _ => rfl)) (nomark _))))))))) (pss_one (ps_set (i := 2) sc_Sheet_leaving.nd rfl (by first | exact Or.inl rfl | exact Or.inr rfl) (pe_tup (pa_cons (pv 5) (pa_cons (pv 3) pa_nil))))) pss_nil)))) pss_nil))))
      (pss_cons (ps_if (pt_cmpR ol_isN (pv 2) pe_non (nomark _)) (pss_one (ps_ret pe_non)) pss_nil)
      (pss_one (ps_ret (pe_ix (ixa (K := K) (by rfl)) (pv 2) pe_int (fun _ _ => rfl))))))), ?_⟩
    try dsimp only [cxK, cxw, cxprog]
    walk_at "go"
    refine svB 0 W rfl cS n2 ?_
    walk_at "go"
    refine x_lenO 2 W rfl ?_
    walk_at "go"
    refine x_forNL (fun i σ' H' => ∃ (S' : Hp) (f : V) (o : Option Nat) (z3 z4 z5 z6 : Option V), σ' = [some (.ref p), some (.int (q : Int)), some f, z3, z4, z5, z6] ∧ Wd K S' H' (shO d.c_Sheet p dx l b z bs vs O) ∧ Same S S' ∧ FndV K S' M q n f o ∧ LeaveI M bs q n i o) (by omega)
      ⟨S, _, none, _, _, _, _, rfl, W, Same.refl _, rfl, fun k hk => absurd hk (Nat.not_lt_zero _)⟩ ?_ ?_
    · rintro i σ' H' hi ⟨S', f, o, z3, z4, z5, z6, rfl, W', hS', hf, hL⟩
      have hri := mt.w i (by omega)
      have hd' := dpAll_mono hS' hd
      walk_at "go"
      refine svL 0 W' rfl cS n1 ?_
      walk_at "go"
      refine x_rowO 3 W' rfl hd' rfl (by omega) (fun u1 hu1 => ?_)
      walk_at "go"
      rename_i sh hsh
      have bsh := hs i q (by omega) hq
      refine .mk W' (by walk_at "is") (by walk_at "is") (bq_zero (by decide)) (bsh.mono (by decide)) ?_
      walk_at "go"
      refine x_iteD (fun hpos => ?_) (fun hpos => ?_)
      rotate_left
      · walk_at "go"
        exact ⟨S', f, o, _, _, _, _, rfl, W', hS', hf, leave_skip hL hpos⟩
      have hne : ent M i q ≠ 0 := by grind
      walk_at "go"
      refine svL 0 W' rfl cS n1 ?_
      walk_at "go"
      refine x_rowO 3 W' rfl hd' rfl (by omega) (fun u2 hu2 => ?_)
      walk_at "go"
      refine x_ratL W' hu2 hri (fun u3 hu3 => ?_)
      walk_at "go"
      have bn := hs i n (by omega) (by omega)
      refine .mk W' hu3 (by walk_at "is") (bn.mono (by decide)) (bsh.mono (by decide)) hne (fun S2 H2 mu W2 hS2 hmu => ?_)
      have bmu : Bq 2600 (ent M i n / ent M i q) := (bq_div bn bsh hne).mono (by decide)
      walk_at "go"
      cases o with
      | none =>
        have hf0 : f = .non := hf
        subst hf0
        walk_at "go"
        rename_i S3 H3 v3 W3 hS3 hv3
        obtain ⟨a3, _, rfl, _, _⟩ := dp_tup_ex hv3
        exact ⟨S3, .ref a3, some i, _, _, _, _, rfl, W3, by walk_at "same", ⟨a3, rfl, hv3⟩, leave_new hL hpos⟩
      | some r =>
        obtain ⟨a, rfl, hf⟩ := hf
        have hr := hL.1
        have bnr := hs r n (by omega) (by omega)
        have bsr := hs r q (by omega) hq
        have hner : ent M r q ≠ 0 := by have := hL.2.1; grind
        have bmr : Bq 2600 (ent M r n / ent M r q) := (bq_div bnr bsr hner).mono (by decide)
        walk_at "go"
        rename_i u4 hu4
        refine x_eqQ (a := ent M i n / ent M i q) (b := ent M r n / ent M r q) W2 (by walk_at "is") (by walk_at "is") ?_
        walk_at "g"
        refine x_if ?_
        refine x_cutT (decide (ent M i n / ent M i q < ent M r n / ent M r q) || (decide (ent M i n / ent M i q = ent M r n / ent M r q) && decide (nth bs (i : Int) < nth bs (r : Int)))) (fun Q' hQ => ?_) ?_
        · walk_at "go"
          refine .mk (a := ent M i n / ent M i q) (b := ent M r n / ent M r q) W2 (by walk_at "is") (by walk_at "is") (bmu.mono (by decide)) (bmr.mono (by decide)) ?_
          walk_at "go"
          by_cases hlt : ent M i n / ent M i q < ent M r n / ent M r q
          · rw [decide_eq_true hlt] at hQ ⊢
            walk_at "go"
            exact hQ
          · rw [decide_eq_false hlt, Bool.false_or] at hQ
            rw [decide_eq_false hlt]
            walk_at "go"
            by_cases heq : ent M i n / ent M i q = ent M r n / ent M r q
            · rw [decide_eq_true heq, Bool.true_and] at hQ
              rw [decide_eq_true heq]
              walk_at "go"
              refine svB 0 W2 rfl cS n2 ?_
              walk_at "go"
              refine x_ixIO 2 W2 rfl rfl (by omega) ?_
              walk_at "go"
              refine svB 0 W2 rfl cS n2 ?_
              walk_at "go"
              refine x_ixIO 2 W2 rfl rfl (by omega) ?_
              walk_at "go"
              exact hQ
            · rw [decide_eq_false heq, Bool.false_and] at hQ
              rw [decide_eq_false heq]
              walk_at "go"
              exact hQ
        · refine x_ite (fun ht => ?_) (fun hf' => ?_)
          · walk_at "go"
            rename_i S3 H3 v3 W3 hS3 hv3
            obtain ⟨a3, _, rfl, _, _⟩ := dp_tup_ex hv3
            refine ⟨S3, .ref a3, some i, _, _, _, _, rfl, W3, by walk_at "same", ⟨a3, rfl, hv3⟩, leave_less hL hpos ?_⟩
            simpa using ht
          · walk_at "go"
            refine ⟨S2, .ref a, some r, _, _, _, _, rfl, W2, by walk_at "same", ⟨a, rfl, by walk_at "is"⟩, ?_⟩
            have hf2 : ¬ ent M i n / ent M i q < ent M r n / ent M r q ∧ (ent M i n / ent M i q = ent M r n / ent M r q → ¬ nth bs (i : Int) < nth bs (r : Int)) := by simpa using hf'
            exact leave_keep hL hf2.1 hf2.2
    · rintro σ' H' ⟨S', f, o, z3, z4, z5, z6, rfl, W', hS', hf, hL⟩
      obtain ⟨k1, k2⟩ := k S' H' W' hS'
      walk_at "go"
      cases o with
      | none =>
        have hf0 : f = .non := hf
        subst hf0
        walk_at "go"
        exact k1 hL
      | some r =>
        obtain ⟨a, rfl, hf⟩ := hf
        walk_at "go"
        exact k2 r hL
end
section
variable {P : Program} {w : World} {K : PySem.W.Frag} {mg : Str → Option Value} {base : Heap} {d : Ad}
inductive Sp_Sheet_turn (K : PySem.W.Frag) (C : Addr) : List V → Hp → VK → XK → Prop
  | mk {S : Hp} {O : List (Addr × HO)} {p dx l b : Addr} {z a c : Int} {bs : List Int} {vs : List V} {M : List (List Rat)} {r q R N : Nat} {H : Hp} {Q : VK} {E : XK} (W : Wd K S H (shO C p dx l b z bs vs O)) (hd : DpAll K S vs (M.map rowQ)) (mt : Mat M R N)
    (ea : a = (r : Int)) (ec : c = (q : Int)) (hrr : r < R) (hq : q < N) (hR : R ≤ 1000) (hN : N ≤ 1000) (hb : r < bs.length) (h0 : ent M r q ≠ 0) (hs : ∀ i j, i < R → j < N → Bq 1300 (ent M i j))
    (k : ∀ S' H' vs' M', Wd K S' H' (shO C p dx l b z (bs.set r (q : Int)) vs' O) → Same S S' → DpAll K S' vs' (M'.map rowQ) → Mat M' R N → (∀ i j, i < R → j < N → ent M' i j = piv (ent M) r q i j) → Q .non H') :
    Sp_Sheet_turn K C [.ref p, .int a, .int c] H Q E
theorem ok_Sheet_turn (T : Txt K mg d) : FnOk P w K mg base CX0 5 d.a_Sheet_turn d.f_Sheet_turn ["self", "at", "part"] (Sp_Sheet_turn K d.c_Sheet) := by
  refine T.F_Sheet_turn.ok sc_Sheet_turn (fun vs H Q E h => ?_) (fun cdv A outer s H vs Q E hr h => ?_)
  · cases h; rfl
  · have hu := hu_of hr
    obtain ⟨W, hd, mt, ea, ec, hrr, hq, hR, hN, hb, h0, hs, k⟩ := h
    rename_i S O p dx l b z a c bs vs M r q R N
    subst ea ec
    have cS := T.c_Sheet
    have n1 := T.n_Sheet_lines
    have n2 := T.n_Sheet_basis
    have hM := mt.h
    have hr1 := mt.w r hrr
    have hN0 : Dp K S (.ref d.o_NOUGHT) (qD 0) := dp_const T.l_NOUGHT
    refine ⟨_, (pss_cons (ps_set (i := 3) sc_Sheet_turn.nd rfl (by first | exact Or.inl rfl | exact Or.inr rfl) (pe_ix (ixa (K := K) (by rfl)) (pe_ix (ixa (K := K) (by rfl)) (flda (K := K) (by rfl) (pv 0) rfl) (pv 1) (fun _ _ => rfl)) (pv 2) (fun _ _ => rfl)))
      (pss_cons (ps_set (i := 4) sc_Sheet_turn.nd rfl (by first | exact Or.inl rfl | exact Or.inr rfl) (pe_lc (own := [("number", 7)]) rfl sc_Sheet_turn.nd (pi_list (pe_ix (ixa (K := K) (by rfl)) (flda (K := K) (by rfl) (pv 0) rfl) (pv 1) (fun _ _ => rfl))) (blkOk_by (by first | decide +kernel | exact Eq.refl true)) (fun _ _ _ _ _ => pg_name (i := 7) sc_Sheet_turn.nd rfl (by first | exact Or.inl rfl | exact Or.inr rfl)) (fun _ _ _ _ _ => pts_nil) (fun _ _ _ _ _ => (pe_call (ok_over T) (hr.mono (by decide)) (by rfl) T.g_over T.k_over T.p_over .nil pass0 (pa_cons (pv 7) (pa_cons (pv 3) pa_nil))))))
      (pss_cons (ps_for PassesOwn.never rfl (pi_range1 (by rfl) T.b_range (pa_cons (pe_callB (lena (K := K) (by rfl)) (by rfl) T.b_len (by decide +kernel) (pa_cons (flda (K := K) (by rfl) (pv 0) rfl) pa_nil)) pa_nil)) (pg_name (i := 5) sc_Sheet_turn.nd rfl (by first | exact Or.inl rfl | exact Or.inr rfl)) (pss_cons (ps_set (i := 6) sc_Sheet_turn.nd rfl (by first | exact Or.inl rfl | exact Or.inr rfl) (pe_ix (ixa (K := K) (by rfl)) (pe_ix (ixa (K := K) (by rfl)) (flda (K := K) (by rfl) (pv 0) rfl) (pv 5) (fun _ _ => rfl)) (pv 2) (fun _ _ => rfl)))
      (pss_one (ps_if (PW.pt (pw_and (pt_cmpR op_ne (pv 5) (pv 1) (nomark _)) (pw_and1 (pt_cmpR (neDa (K := K) (by rfl) hr.units) (pv 6) (pe_glob (v := .ref d.o_NOUGHT) (by rfl) T.g_NOUGHT rfl) (nomark _))))) (pss_one (ps_asg (pe_lc (own := [("j", 8)]) rfl sc_Sheet_turn.nd (pi_range1 (by rfl) T.b_range (pa_cons (pe_callB (lena (K := K) (by rfl)) (by rfl) T.b_len (by decide +kernel) (pa_cons (pv 4) pa_nil)) pa_nil)) (blkOk_by (by first | decide +kernel | exact Eq.refl true)) (fun _ _ _ _ _ => pg_name (i := 8) sc_Sheet_turn.nd rfl (by first | exact Or.inl rfl | exact Or.inr rfl)) (fun _ _ _ _ _ => pts_nil) (fun _ _ _ _ _ => (pe_call (ok_minus T) (hr.mono (by decide)) (by rfl) T.g_minus T.k_minus T.p_minus .nil pass0 (pa_cons (pe_ix (ixa (K := K) (by rfl)) (pe_ix (ixa (K := K) (by rfl)) (flda (K := K) (by rfl) (pv 0) rfl) (pv 5) (fun _ _ => rfl)) (pv 8) (fun _ _ => rfl)) (pa_cons (pe_call (ok_times T) (hr.mono (by decide)) (by rfl) T.g_times T.k_times T.p_times .nil pass0 (pa_cons (pv 6) (pa_cons (pe_ix (ixa (K := K) (by rfl)) (pv 4) (pv 8) (fun _ _ => rfl)) pa_nil))) pa_nil))))) (pg_sub (flda (K := K) (by rfl) (pv 0) rfl) (pv 5) set_list))) pss_nil))))
      (pss_cons (ps_asg (pv 4) (pg_sub (flda (K := K) (by rfl) (pv 0) rfl) (pv 1) set_list))
      (pss_one (ps_asg (pv 2) (pg_sub (pe_fld (pv 0) rfl) (pv 1) set_list))))))), ?_⟩
    try dsimp only [cxK, cxw, cxprog]
    walk_at "go"
    refine svL 0 W rfl cS n1 ?_
    walk_at "go"
    refine x_rowO 3 W rfl hd rfl (by omega) (fun u1 hu1 => ?_)
    walk_at "go"
    refine svL 0 W rfl cS n1 ?_
    walk_at "go"
    refine x_rowO 3 W rfl hd rfl (by omega) (fun u2 hu2 => ?_)
    walk_at "go"
    refine lc_map qD (fun y : Rat => y / ent M r q) W hu2 (by omega) (fun y S' H' R0 acc N0 hy W' hS E => kn_tup fun u hu => ?_) (fun S1 H1 mn W1 hS1 hmn => ?_)
    · obtain ⟨j, hj, ej⟩ := mem_nthN hy
      have by1 : Bq 1300 y := by rw [← ej]; exact hs r j hrr (by omega)
      walk_at "go"
      refine .mk W' (by walk_at "is") (by walk_at "is") (by1.mono (by decide)) ((hs r q hrr hq).mono (by decide)) h0 (fun S2 H2 v2 W2 hS2 hv2 => ?_)
      walk_at "ly"
    walk_at "go"
    rename_i ld hld
    refine svL 0 W1 rfl cS n1 ?_
    walk_at "go"
    refine x_lenO 3 W1 rfl ?_
    walk_at "go"
    have hvl : vs.length = R := by rw [dpAll_len hd, List.length_map, hM]
    refine x_forN (fun i σ' H' => ∃ (S' : Hp) (vs' : List V) (M' : List (List Rat)) (z5 z6 : Option V), σ' = [some (.ref p), some (.int (r : Int)), some (.int (q : Int)), some ld, some mn, z5, z6, none, none] ∧
      Wd K S' H' (shO d.c_Sheet p dx l b z bs vs' O) ∧ Same S1 S' ∧ DpAll K S' vs' (M'.map rowQ) ∧ Mat M' R N ∧ ∀ k' j, k' < R → j < N → ent M' k' j = if k' < i ∧ k' ≠ r then piv (ent M) r q k' j else ent M k' j) ⟨by omega, by omega⟩
      ⟨S1, vs, M, _, _, rfl, W1, Same.refl _, dpAll_mono hS1 hd, mt, fun k' j _ _ => (if_neg (by omega)).symm⟩ ?_ ?_
    · rintro i σ' H' hi ⟨S', vs', M', z5, z6, rfl, W', hS', hd', mt', he⟩
      have hiR : i < R := by omega
      have hM' := mt'.h
      have hri := mt'.w i hiR
      walk_at "go"
      refine svL 0 W' rfl cS n1 ?_
      walk_at "go"
      refine x_rowO 3 W' rfl hd' rfl (by omega) (fun u3 hu3 => ?_)
      walk_at "go"
      rename_i sh hsh
      have esh : nth (nth M' (i : Int)) (q : Int) = ent M i q := by
        have := he i q hiR hq
        rw [if_neg (by omega)] at this
        exact this
      have hsh' : Dp K S' sh (qD (ent M i q)) := by rw [← esh]; exact hsh
      refine x_iteND (fun hne => ?_) (fun heq => ?_)
      rotate_left
      · walk_at "go"
        refine ⟨S', vs', M', _, _, rfl, W', hS', hd', mt', fun k' j hk hj => ?_⟩
        rw [he k' j hk hj]
        by_cases c : k' = r
        · rw [if_neg (by omega), if_neg (by omega)]
        · by_cases c2 : k' < i
          · rw [if_pos ⟨c2, c⟩, if_pos ⟨by omega, c⟩]
          · rw [if_neg (by omega), if_neg (by omega)]
      walk_at "go"
      refine x_neQ W' hsh' (by walk_at "is") ?_
      walk_at "go"
      refine x_iteND (fun hz => ?_) (fun hz => ?_)
      rotate_left
      · walk_at "go"
        refine ⟨S', vs', M', _, _, rfl, W', hS', hd', mt', fun k' j hk hj => ?_⟩
        rw [he k' j hk hj]
        by_cases c : k' = i
        · subst c
          rw [if_neg (by omega), if_pos (by omega), piv_i (by omega), hz]
          grind
        · by_cases c2 : k' < i ∧ k' ≠ r
          · rw [if_pos c2, if_pos (by omega)]
          · rw [if_neg c2, if_neg (by omega)]
      walk_at "go"
      have hml : ((nth M (r : Int)).map (fun y => y / ent M r q)).length = N := by rw [List.length_map]; exact hr1
      refine lcr_map qD (fun j : Nat => ent M i j - ent M i q * (ent M r j / ent M r q)) W' ⟨by omega, by simp only [List.length_map]; omega⟩ (fun j S3 H3 R0 acc N0 hj W3 hS3 E => ?_) (fun S3 H3 v3 W3 hS3 hv3 => ?_)
      · have hjN : j < N := by simp only [List.length_map, hr1, Int.toNat_natCast] at hj; exact hj
        have eij : nth (nth M' (i : Int)) (j : Int) = ent M i j := by
          have := he i j hiR hjN
          rw [if_neg (by omega)] at this
          exact this
        walk_at "go"
        refine svL 1 W3 rfl cS n1 ?_
        walk_at "go"
        refine x_rowO 4 W3 rfl (dpAll_mono hS3 hd') rfl (by omega) (fun u4 hu4 => ?_)
        walk_at "go"
        rename_i x1 hx1 x2 hx2
        have hx1' : Dp K S3 x1 (qD (ent M i j)) := by rw [← eij]; exact hx1
        have hx2' : Dp K S3 x2 (qD (ent M r j / ent M r q)) := by
          have e2 : nth ((nth M (r : Int)).map (fun y => y / ent M r q)) (j : Int) = ent M r j / ent M r q := nthN_map (by omega)
          rw [← e2]; exact hx2
        have b1 : Bq 2600 (ent M r j / ent M r q) := (bq_div (hs r j hrr hjN) (hs r q hrr hq) h0).mono (by decide)
        refine .mk W3 (by walk_at "is") hx2' ((hs i q hiR hq).mono (by decide)) (b1.mono (by decide)) (fun S4 H4 v4 W4 hS4 hv4 => ?_)
        walk_at "go"
        refine .mk W4 (by walk_at "is") hv4 ((hs i j hiR hjN).mono (by decide)) ((bq_mul (hs i q hiR hq) b1).mono (by decide)) (fun S5 H5 v5 W5 hS5 hv5 => ?_)
        walk_at "ly"
      walk_at "go"
      have hl3 : ((List.range (((nth M (r : Int)).map (fun y => y / ent M r q)).map qD).length).map (fun j : Nat => ent M i j - ent M i q * (ent M r j / ent M r q))).length = N := by
        simp only [List.length_map, List.length_range]; exact hr1
      rw [Int.toNat_natCast] at hv3
      refine svL 0 W3 rfl cS n1 ?_
      walk_at "go"
      refine x_setD (d := rowQ _) 3 W3 rfl (dpAll_mono hS3 hd') rfl (by rw [List.length_map]; omega) hv3 (fun H4 hd4 W4 => ?_)
      walk_at "go"
      refine ⟨S3, _, M'.set i _, _, _, rfl, W4, by walk_at "same", by rw [List.map_set]; exact hd4, mt'.set hiR hl3, fun k' j hk hj => ?_⟩
      rw [ent_set mt' hiR]
      by_cases c : k' = i
      · subst c
        rw [if_pos rfl, if_pos (by omega), piv_i (by omega), nthN_range (by simp only [List.length_map]; omega)]
      · rw [if_neg c, he k' j hk hj]
        by_cases c2 : k' < i ∧ k' ≠ r
        · rw [if_pos c2, if_pos (by omega)]
        · rw [if_neg c2, if_neg (by omega)]
    · rintro σ' H' ⟨S', vs', M', z5, z6, rfl, W', hS', hd', mt', he⟩
      have hM' := mt'.h
      have hml : ((nth M (r : Int)).map (fun y => y / ent M r q)).length = N := by rw [List.length_map]; exact hr1
      rw [Int.toNat_natCast] at he
      walk_at "go"
      refine svL 0 W' rfl cS n1 ?_
      walk_at "go"
      refine x_setD (d := rowQ _) 3 W' rfl hd' rfl (by rw [List.length_map]; omega) (dp_mono hS' hmn) (fun H4 hd4 W4 => ?_)
      walk_at "go"
      refine svB 0 W4 rfl cS n2 ?_
      walk_at "go"
      refine x_setM 2 W4 rfl (by omega) (by omega) (fun H5 W5 => ?_)
      walk_at "go"
      rw [Int.toNat_natCast] at W5
      refine k S' _ _ (M'.set r _) W5 (by walk_at "same") (by rw [List.map_set]; exact hd4) (mt'.set hrr hml) (fun i j hi hj => ?_)
      rw [ent_set mt' hrr]
      by_cases c : i = r
      · subst c
        rw [if_pos rfl, piv_r]
        exact nthN_map (by omega)
      · rw [if_neg c, he i j hi hj, if_pos ⟨by omega, c⟩]
end
section
variable {P : Program} {w : World} {K : PySem.W.Frag} {mg : Str → Option Value} {base : Heap} {d : Ad}
inductive Sp_Sheet_climb (K : PySem.W.Frag) (C : Addr) : List V → Hp → VK → XK → Prop
  | mk {S : Hp} {O : List (Addr × HO)} {p dx l b : Addr} {z a : Int} {bs : List Int} {vs : List V} {M : List (List Rat)} {D : Cfg} {m n q : Nat} {T0 : Nat → Nat → Rat} {o0 : Nat → Rat} {H : Hp} {Q : VK} {E : XK} (W : Wd K S H (shO C p dx l b z bs vs O))
    (hd : DpAll K S vs (M.map rowQ)) (hh : Holds m n D M bs) (u : Up m n T0 o0 D) (G : Goal m n T0 o0) (hq : q ≤ n) (ea : a = (q : Int))
    (k : ∀ S' H' vs' M' bs' t F r c, Wd K S' H' (shO C p dx l b z bs' vs' O) → Same S S' → DpAll K S' vs' (M'.map rowQ) → Holds m n (F t) M' bs' → Run m n q t F r c → F 0 = D →
      ((∀ j, j < q → 0 ≤ (F t).o j) → Q .non H') ∧ (∀ e, e < q → (F t).o e < 0 → (∀ i, i < m → ¬ 0 < (F t).T i e) → Q (.int (e : Int)) H')) : Sp_Sheet_climb K C [.ref p, .int a] H Q E
theorem ok_Sheet_climb (T : Txt K mg d) : FnOk P w K mg base CX0 6 d.a_Sheet_climb d.f_Sheet_climb ["self", "most"] (Sp_Sheet_climb K d.c_Sheet) := by
  refine T.F_Sheet_climb.ok sc_Sheet_climb (fun vs H Q E h => ?_) (fun cdv A outer s H vs Q E hr h => ?_)
  · cases h; rfl
  · have hu := hu_of hr
    obtain ⟨W, hd, hh, u, G, hq, ea, k⟩ := h
    rename_i S O p dx l b z a bs vs M D m n q T0 o0
    subst ea
    have cS := T.c_Sheet
    have n1 := T.n_Sheet_lines
    have n2 := T.n_Sheet_basis
    have hN0 : Dp K S (.ref d.o_NOUGHT) (qD 0) := dp_const T.l_NOUGHT
    have m50 := G.m50
    have n50 := G.n50
    refine ⟨_, (pss_one (ps_while PassesOwn.never (pt_val pe_bl) (pss_cons (ps_setLc (i := 2) (own := [("k", 4)]) rfl sc_Sheet_climb.nd rfl rfl (sw_true rfl rfl rfl (by decide +kernel)) (pi_range1 (by rfl) T.b_range (pa_cons (pv 1) pa_nil)) (blkOk_by (by first | decide +kernel | exact Eq.refl true)) (fun _ _ _ _ _ => pg_name (i := 4) sc_Sheet_climb.nd rfl (by first | exact Or.inl rfl | exact Or.inr rfl)) (fun _ _ _ _ _ => pts_one (pt_val (pe_call (ok_is_less T) (hr.mono (by decide)) (by rfl) T.g_is_less T.k_is_less T.p_is_less .nil pass0 (pa_cons (pe_ix (ixa (K := K) (by rfl)) (pe_ix (ixa (K := K) (by rfl)) (flda (K := K) (by rfl) (pv 0) rfl) (pe_un un_neg pe_int) (fun _ _ => rfl)) (pv 4) (fun _ _ => rfl)) (pa_cons (pe_glob (v := .ref d.o_NOUGHT) (by rfl) T.g_NOUGHT rfl) pa_nil))))) (fun _ _ _ _ _ => (pv 4)))
      (pss_cons (ps_if (pt_not (trutha (K := K) (by rfl) (pv 2) (by intro _; rfl))) (pss_one (ps_ret pe_non)) pss_nil)
      (pss_cons (ps_set (i := 3) sc_Sheet_climb.nd rfl (by first | exact Or.inl rfl | exact Or.inr rfl) (pe_meth (pv 0) T.c_Sheet T.h_Sheet_leaving (ok_Sheet_leaving T) (hr.mono (by decide)) T.p_Sheet_leaving .nil pass0 (pa_cons (pe_ix (ixa (K := K) (by rfl)) (pv 2) pe_int (fun _ _ => rfl)) pa_nil)))
      (pss_cons (ps_if (pt_cmpR ol_isN (pv 3) pe_non (nomark _)) (pss_one (ps_ret (pe_ix (ixa (K := K) (by rfl)) (pv 2) pe_int (fun _ _ => rfl)))) pss_nil)
      (pss_one (ps_expr (pe_meth (pv 0) T.c_Sheet T.h_Sheet_turn (ok_Sheet_turn T) (hr.mono (by decide)) T.p_Sheet_turn .nil pass0 (pa_cons (pv 3) (pa_cons (pe_ix (ixa (K := K) (by rfl)) (pv 2) pe_int (fun _ _ => rfl)) pa_nil))))))))))), ?_⟩
    try dsimp only [cxK, cxw, cxprog]
    walk_at "go"
    refine x_while (fun j σ' H' => ∃ (S' : Hp) (vs' : List V) (M' : List (List Rat)) (bs' : List Int) (t : Nat) (F : Nat → Cfg) (r c : Nat → Nat) (z2 z3 : Option V), σ' = [some (.ref p), some (.int (q : Int)), z2, z3, none] ∧ Wd K S' H' (shO d.c_Sheet p dx l b z bs' vs' O) ∧ Same S S' ∧
      DpAll K S' vs' (M'.map rowQ) ∧ Holds m n (F t) M' bs' ∧ Run m n q t F r c ∧ F 0 = D ∧ j + t = n ^ m) _ ⟨S, vs, M, bs, 0, _, _, _, _, _, rfl, W, Same.refl _, hd, hh, run_zero, rfl, rfl⟩ ?_
    rintro j σ' H' ⟨S', vs', M', bs', t, F, r, c, z2, z3, rfl, W', hS', hd', hh', hR, hF, hj⟩
    have u' := up_run u hR hF hq
    have bq' := holds_bq hh' u' G
    have mt := hh'.mat
    have hM := mt.h
    have hbl := hh'.bl
    have hlast := mt.w m (by omega)
    walk_at "go"
    refine x_again ?_
    walk_at "go"
    refine lcr_filt PyData.int (fun k : Nat => decide (ent M' m k < 0)) (fun k : Nat => (k : Int)) W' ⟨by omega, by omega⟩ (fun i S1 H1 R acc N hi W1 hS1 E => ?_) (fun S1 H1 v1 W1 hS1 hv1 => ?_)
    · have hin : i < n + 1 := by omega
      walk_at "go"
      refine svL 1 W1 rfl cS n1 ?_
      walk_at "go"
      refine x_rowL 4 W1 rfl (dpAll_mono hS1 hd') hM (fun u1 hu1 => ?_)
      walk_at "go"
      refine .mk (a := ent M' m i) (b := 0) W1 (by walk_at "is") (by walk_at "is") ((bq' m i (by omega) hin).mono (by decide)) (bq_zero (by decide)) ?_
      walk_at "go"
      refine x_ite (fun hc => ?_) (fun hc => ?_)
      · walk_at "go"
        walk_at "lyp"
      · walk_at "lnp"
    rw [Int.toNat_natCast] at hv1
    walk_at "go"
    cases eL : (((List.range q).filter (fun k : Nat => decide (ent M' m k < 0))).map fun k : Nat => (k : Int)) with
    | nil =>
      rw [eL] at hv1
      refine x_sure (by rfl) ?_
      walk_at "go"
      refine (k S1 _ vs' M' bs' t F r c W1 (by walk_at "same") (dpAll_mono hS1 hd') hh' hR hF).1 (fun j' hj' => ?_)
      have := filt_nil eL j' hj'
      rw [decide_eq_false_iff_not, hh'.o j' (by omega)] at this
      grind
    | cons c0 rest =>
      rw [eL] at hv1
      obtain ⟨e, rfl, heq, hneg, hfirst⟩ := filt_cons eL
      replace hneg := of_decide_eq_true hneg
      rw [hh'.o e (by omega)] at hneg
      have hfirst' : ∀ j', j' < e → ¬ (F t).o j' < 0 := fun j' hj' => by
        have := hfirst j' hj'
        rw [decide_eq_false_iff_not, hh'.o j' (by omega)] at this
        exact this
      refine x_no (by rfl) ?_
      walk_at "go"
      refine x_mthO 0 W1 rfl rfl ?_
      walk_at "go"
      refine x_hd W1 hv1 ?_
      walk_at "go"
      refine .mk W1 (dpAll_mono hS1 hd') mt rfl (by omega) (by omega) (by omega) bq' (fun S2 H2 W2 hS2 => ?_)
      rw [hbl]
      refine ⟨fun hno => ?_, fun r0 hr0 => ?_⟩
      · walk_at "go"
        refine x_hd W2 (dp_mono hS2 hv1) ?_
        refine (k S2 _ vs' M' bs' t F r c W2 (by walk_at "same") (dpAll_mono hS2 (dpAll_mono hS1 hd')) hh' hR hF).2 e heq hneg (fun i hi hp => ?_)
        rw [← hh'.T i e hi (by omega)] at hp
        exact hno i hi hp
      · have ch := chosen_of hh' heq hq hneg hfirst' hr0
        have hrm := ch.rm
        walk_at "go"
        refine x_mthO 0 W2 rfl rfl ?_
        walk_at "go"
        refine x_hd W2 (dp_mono hS2 hv1) ?_
        walk_at "go"
        refine .mk W2 (dpAll_mono hS2 (dpAll_mono hS1 hd')) mt rfl rfl (by omega) (by omega) (by omega) (by omega) (by omega) (by have := hr0.2.1; grind) bq' (fun S3 H3 vs3 M3 W3 hS3 hd3 mt3 he3 => ?_)
        walk_at "go"
        have R2 := run_add hR ch (D := (F t).turn r0 e) turn_turned
        have hfew := run_few hR hq (by rw [hF]; exact u.ok)
        refine ⟨j - 1, by omega, S3, vs3, M3, _, t + 1, _, _, _, _, _, rfl, W3, by walk_at "same", hd3, ?_, R2, ?_, by omega⟩
        · simp only [if_neg (show ¬ t + 1 ≤ t by omega)]
          exact holds_turn hh' hrm (by omega) mt3 he3
        · simp only [if_pos (Nat.zero_le t)]
          exact hF
end
section
variable {P : Program} {w : World} {K : PySem.W.Frag} {mg : Str → Option Value} {base : Heap} {d : Ad}
inductive Sp_clear_helpers (K : PySem.W.Frag) (C : Addr) : List V → Hp → VK → XK → Prop
  | mk {S : Hp} {O : List (Addr × HO)} {p dx l b : Addr} {z a : Int} {bs : List Int} {vs : List V} {M : List (List Rat)} {T0 T : Nat → Nat → Rat} {bf : Nat → Nat} {m n q : Nat} {H : Hp} {Q : VK} {E : XK} (W : Wd K S H (shO C p dx l b z bs vs O))
    (hd : DpAll K S vs (M.map rowQ)) (hh : Holds0 m n T bf M bs) (c : Clr q m n T0 T bf 0) (sz : Szd m n T0) (hq : q ≤ n) (hm : m ≤ 50) (hn : n ≤ 50) (ea : a = (q : Int))
    (k : ∀ S' H' vs' M' bs' T' bf', Wd K S' H' (shO C p dx l b z bs' vs' O) → Same S S' → DpAll K S' vs' (M'.map rowQ) → Holds0 m n T' bf' M' bs' → Clr q m n T0 T' bf' m → Q .non H') : Sp_clear_helpers K C [.ref p, .int a] H Q E
theorem ok_clear_helpers (T : Txt K mg d) : FnOk P w K mg base CX0 6 d.a_clear_helpers d.f_clear_helpers ["sheet", "most"] (Sp_clear_helpers K d.c_Sheet) := by
  refine T.F_clear_helpers.ok sc_clear_helpers (fun vs H Q E h => ?_) (fun cdv A outer s H vs Q E hr h => ?_)
  · cases h; rfl
  · have hu := hu_of hr
    obtain ⟨W, hd, hh, c, sz, hq, hm, hn, ea, k⟩ := h
    rename_i S O p dx l b z a bs vs M T0 T1 bf m n q
    subst ea
    have cS := T.c_Sheet
    have n1 := T.n_Sheet_lines
    have n2 := T.n_Sheet_basis
    have hN0 : Dp K S (.ref d.o_NOUGHT) (qD 0) := dp_const T.l_NOUGHT
    have hbl := hh.bl
    refine ⟨_, (pss_one (ps_for PassesOwn.never rfl (pi_range1 (by rfl) T.b_range (pa_cons (pe_callB (lena (K := K) (by rfl)) (by rfl) T.b_len (by decide +kernel) (pa_cons (pe_fld (pv 0) rfl) pa_nil)) pa_nil)) (pg_name (i := 2) sc_clear_helpers.nd rfl (by first | exact Or.inl rfl | exact Or.inr rfl)) (pss_one (ps_if (pt_cmpR op_ge (pe_ix (ixa (K := K) (by rfl)) (pe_fld (pv 0) rfl) (pv 2) (fun _ _ => rfl)) (pv 1) (nomark _)) (pss_cons (ps_setLc (i := 3) (own := [("j", 4)]) rfl sc_clear_helpers.nd rfl rfl (sw_true rfl rfl rfl (by decide +kernel)) (pi_range1 (by rfl) T.b_range (pa_cons (pv 1) pa_nil)) (blkOk_by (by first | decide +kernel | exact Eq.refl true)) (fun _ _ _ _ _ => pg_name (i := 4) sc_clear_helpers.nd rfl (by first | exact Or.inl rfl | exact Or.inr rfl)) (fun _ _ _ _ _ => pts_one (pt_cmpR (neDa (K := K) (by rfl) hr.units) (pe_ix (ixa (K := K) (by rfl)) (pe_ix (ixa (K := K) (by rfl)) (flda (K := K) (by rfl) (pv 0) rfl) (pv 2) (fun _ _ => rfl)) (pv 4) (fun _ _ => rfl)) (pe_glob (v := .ref d.o_NOUGHT) (by rfl) T.g_NOUGHT rfl) (nomark _))) (fun _ _ _ _ _ => (pv 4)))
      (pss_one (ps_if (trutha (K := K) (by rfl) (pv 3) (by intro _; rfl)) (pss_one (ps_expr (pe_meth (pv 0) T.c_Sheet T.h_Sheet_turn (ok_Sheet_turn T) (hr.mono (by decide)) T.p_Sheet_turn .nil pass0 (pa_cons (pv 2) (pa_cons (pe_ix (ixa (K := K) (by rfl)) (pv 3) pe_int (fun _ _ => rfl)) pa_nil))))) pss_nil))) pss_nil)))), ?_⟩
    try dsimp only [cxK, cxw, cxprog]
    walk_at "go"
    refine svB 0 W rfl cS n2 ?_
    walk_at "go"
    refine x_lenO 2 W rfl ?_
    walk_at "go"
    refine x_forNL (fun i σ' H' => ∃ (S' : Hp) (vs' : List V) (M' : List (List Rat)) (bs' : List Int) (T' : Nat → Nat → Rat) (bf' : Nat → Nat) (z2 z3 : Option V), σ' = [some (.ref p), some (.int (q : Int)), z2, z3, none] ∧ Wd K S' H' (shO d.c_Sheet p dx l b z bs' vs' O) ∧ Same S S' ∧
      DpAll K S' vs' (M'.map rowQ) ∧ Holds0 m n T' bf' M' bs' ∧ Clr q m n T0 T' bf' i) (by omega) ⟨S, vs, M, bs, _, _, _, _, rfl, W, Same.refl _, hd, hh, c⟩ ?_ ?_
    · rintro i σ' H' hi ⟨S', vs', M', bs', T', bf', z2, z3, rfl, W', hS', hd', hh', c'⟩
      have him : i < m := by omega
      have hbl' := hh'.bl
      have mt := hh'.mat
      have hM := mt.h
      have hbi := hh'.b i him
      have hri := mt.w i him
      walk_at "go"
      refine svB 0 W' rfl cS n2 ?_
      walk_at "go"
      refine x_ixIO 2 W' rfl rfl (by omega) ?_
      walk_at "go"
      rw [hbi]
      refine x_iteD (fun hge => ?_) (fun hge => ?_)
      rotate_left
      · walk_at "go"
        exact ⟨S', vs', M', bs', T', bf', _, _, rfl, W', hS', hd', hh', clr_skip c' fun h => absurd h (by omega)⟩
      walk_at "go"
      refine lcr_filt PyData.int (fun j : Nat => !decide (ent M' i j = 0)) (fun j : Nat => (j : Int)) W' ⟨by omega, by omega⟩ (fun j S1 H1 R acc N hj W1 hS1 E => ?_) (fun S1 H1 v1 W1 hS1 hv1 => ?_)
      · walk_at "go"
        refine svL 1 W1 rfl cS n1 ?_
        walk_at "go"
        refine x_rowO 4 W1 rfl (dpAll_mono hS1 hd') rfl (by omega) (fun u1 hu1 => ?_)
        walk_at "go"
        refine x_neQ (a := ent M' i j) (b := 0) W1 (by walk_at "is") (by walk_at "is") ?_
        walk_at "go"
        refine x_ite (fun hc => ?_) (fun hc => ?_)
        · walk_at "go"
          walk_at "lyp"
        · walk_at "lnp"
      rw [Int.toNat_natCast] at hv1
      walk_at "go"
      cases eL : (((List.range q).filter (fun j : Nat => !decide (ent M' i j = 0))).map fun j : Nat => (j : Int)) with
      | nil =>
        rw [eL] at hv1
        refine x_no (by rfl) ?_
        walk_at "go"
        refine ⟨S1, vs', M', bs', T', bf', _, _, rfl, W1, by walk_at "same", dpAll_mono hS1 hd', hh', clr_skip c' fun _ j hj => ?_⟩
        have := filt_nil eL j hj
        rw [← hh'.T i j him (by omega)]
        simpa using this
      | cons c0 rest =>
        rw [eL] at hv1
        obtain ⟨e, rfl, heq, hne, hfirst⟩ := filt_cons eL
        have hne' : ent M' i e ≠ 0 := by simpa using hne
        refine x_sure (by rfl) ?_
        walk_at "go"
        refine x_mthO 0 W1 rfl rfl ?_
        walk_at "go"
        refine x_hd W1 hv1 ?_
        walk_at "go"
        refine .mk W1 (dpAll_mono hS1 hd') mt rfl rfl him (by omega) (by omega) (by omega) (by omega) hne' (fun i' j' hi' hj' => by rw [hh'.T i' j' hi' hj']; exact szd_T sz c'.B c'.sol hi' hj') (fun S3 H3 vs3 M3 W3 hS3 hd3 mt3 he3 => ?_)
        walk_at "go"
        exact ⟨S3, vs3, M3, _, _, _, _, _, rfl, W3, by walk_at "same", hd3, holds0_turn hh' him (by omega) mt3 he3, clr_turn c' him (by omega) hq heq (by rw [← hh'.T i e him (by omega)]; exact hne')⟩
    · rintro σ' H' ⟨S', vs', M', bs', T', bf', z2, z3, rfl, W', hS', hd', hh', c'⟩
      rw [hbl] at c'
      exact k S' H' vs' M' bs' T' bf' W' hS' hd' hh' c'
end
section
variable {P : Program} {w : World} {K : PySem.W.Frag} {mg : Str → Option Value} {base : Heap} {d : Ad}
inductive Sp_Sheet_worth (K : PySem.W.Frag) (C : Addr) : List V → Hp → VK → XK → Prop
  | mk {S : Hp} {O : List (Addr × HO)} {p dx l b : Addr} {z c : Int} {bs : List Int} {vs : List V} {M : List (List Rat)} {n R : Nat} {H : Hp} {Q : VK} {E : XK} (N : Nat) (W : Wd K S H O) (hp : O[N]? = some (p, .ins C dx (sFs l b z))) (hbO : O[N + 2]? = some (b, .lst (bs.map V.int))) (hlO : O[N + 3]? = some (l, .lst vs))
    (hd : DpAll K S vs (M.map rowQ)) (mt : Mat M R (n + 1)) (hb : bs.length ≤ R)
    (k1 : ∀ (i : Nat) v, i < bs.length → nth bs (i : Int) = c → Dp K S v (qD (ent M i n)) → Q v H) (k2 : (∀ i : Nat, i < bs.length → nth bs (i : Int) ≠ c) → ∀ v, Dp K S v (qD 0) → Q v H) : Sp_Sheet_worth K C [.ref p, .int c] H Q E
theorem ok_Sheet_worth (T : Txt K mg d) : FnOk P w K mg base CX0 1 d.a_Sheet_worth d.f_Sheet_worth ["self", "part"] (Sp_Sheet_worth K d.c_Sheet) := by
  refine T.F_Sheet_worth.ok sc_Sheet_worth (fun vs H Q E h => ?_) (fun cdv A outer s H vs Q E hr h => ?_)
  · cases h; rfl
  · have hu := hu_of hr
    obtain ⟨N, W, hp, hbO, hlO, hd, mt, hb, k1, k2⟩ := h
    rename_i S O p dx l b z c bs vs M n R
    have cS := T.c_Sheet
    have n1 := T.n_Sheet_lines
    have n2 := T.n_Sheet_basis
    have hM := mt.h
    have hN0 : Dp K S (.ref d.o_NOUGHT) (qD 0) := dp_const T.l_NOUGHT
    refine ⟨_, (pss_cons (ps_if (pt_cmpR (ina (K := K) (by rfl)) (pv 1) (pe_fld (pv 0) rfl) (by rfl)) (pss_one (ps_ret (pe_ix (ixa (K := K) (by rfl)) (pe_ix (ixa (K := K) (by rfl)) (flda (K := K) (by rfl) (pv 0) rfl) (pe_bm PySem.F.plainAttrs_list PySem.F.slot_list_index PySem.F.type_list_index mt_index (pe_fld (pv 0) rfl) (pa_cons (pv 1) pa_nil)) (fun _ _ => rfl)) (pe_un un_neg pe_int) (fun _ _ => rfl)))) pss_nil)
      (pss_one (ps_ret (pe_glob (v := .ref d.o_NOUGHT) (by rfl) T.g_NOUGHT rfl)))), ?_⟩
    try dsimp only [cxK, cxw, cxprog]
    walk_at "go"
    refine svB N W hp cS n2 ?_
    walk_at "go"
    refine x_inO (neg := false) (N + 2) W hbO ?_
    refine x_kx ?_
    by_cases hin : c ∈ bs
    · refine x_iteTo (if_neg Bool.false_ne_true) ?_
      rw [decide_eq_true hin]
      obtain ⟨i, hi, ei, hf⟩ := first_nth hin
      walk_at "go"
      refine svL N W hp cS n1 ?_
      walk_at "go"
      refine svB N W hp cS n2 ?_
      refine x_bmo (N + 2) W hbO ?_
      walk_at "go"
      refine x_idxM (N + 2) W hbO hi ei hf ?_
      refine x_rowO (N + 3) W hlO hd rfl (by omega) (fun u hu => ?_)
      walk_at "go"
      refine x_ratL W hu (mt.w i (by omega)) (fun u2 hu2 => ?_)
      exact k1 i u2 hi ei hu2
    · refine x_iteTo (if_neg Bool.false_ne_true) ?_
      rw [decide_eq_false hin]
      walk_at "go"
      exact k2 (fun i hi e => hin (e ▸ nthN_mem hi)) _ hN0
end
section
variable {P : Program} {w : World} {K : PySem.W.Frag} {mg : Str → Option Value} {base : Heap} {d : Ad}
inductive Sp_ray (K : PySem.W.Frag) (C : Addr) : List V → Hp → VK → XK → Prop
  | mk {S : Hp} {O : List (Addr × HO)} {p dx l b : Addr} {z c a : Int} {bs : List Int} {vs : List V} {M : List (List Rat)} {F : Cfg} {q m n t : Nat} {H : Hp} {Q : VK} {E : XK} (W : Wd K S H (shO C p dx l b z bs vs O)) (hd : DpAll K S vs (M.map rowQ)) (hh : Holds m n F M bs) (hB : IsBas m n F.T F.b)
    (ec : c = (q : Int)) (ea : a = (t : Int)) (hq : q < n) (ht : t ≤ n) (hn : n ≤ 50) (hm : m ≤ 50) (hs : ∀ i j, i < m → j < n + 1 → Bq 1300 (F.T i j))
    (k : ∀ S' H' v r, Wd K S' H' (shO C p dx l b z bs vs O) → Same S S' → Dp K S' v (rowQ r) → r.length = t → (∀ j : Nat, j < t → nth r (j : Int) = dirv m F.T F.b q j) → Q v H') :
    Sp_ray K C [.ref p, .int c, .int a] H Q E
theorem ok_ray (T : Txt K mg d) : FnOk P w K mg base CX0 5 d.a_ray d.f_ray ["sheet", "part", "many"] (Sp_ray K d.c_Sheet) := by
  refine T.F_ray.ok sc_ray (fun vs H Q E h => ?_) (fun cdv A outer s H vs Q E hr h => ?_)
  · cases h; rfl
  · have hu := hu_of hr
    obtain ⟨W, hd, hh, hB, ec, ea, hq, ht, hn, hm, hs, k⟩ := h
    rename_i S O p dx l b z c a bs vs M F q m n t
    subst ec ea
    have cS := T.c_Sheet
    have n1 := T.n_Sheet_lines
    have n2 := T.n_Sheet_basis
    have mt := hh.mat
    have hM := mt.h
    have hbl := hh.bl
    have hN0 : Dp K S (.ref d.o_NOUGHT) (qD 0) := dp_const T.l_NOUGHT
    refine ⟨_, (pss_cons (ps_set (i := 3) sc_ray.nd rfl (by first | exact Or.inl rfl | exact Or.inr rfl) (pe_op op_rep (pe_lst (pa_cons (pe_glob (v := .ref d.o_NOUGHT) (by rfl) T.g_NOUGHT rfl) pa_nil)) (pv 2)))
      (pss_cons (ps_for PassesOwn.never rfl (pi_range1 (by rfl) T.b_range (pa_cons (pe_callB (lena (K := K) (by rfl)) (by rfl) T.b_len (by decide +kernel) (pa_cons (pe_fld (pv 0) rfl) pa_nil)) pa_nil)) (pg_name (i := 4) sc_ray.nd rfl (by first | exact Or.inl rfl | exact Or.inr rfl)) (pss_one (ps_if (pt_cmpR op_lt (pe_ix (ixa (K := K) (by rfl)) (pe_fld (pv 0) rfl) (pv 4) (fun _ _ => rfl)) (pv 2) (nomark _)) (pss_one (ps_asg (pe_call (ok_minus T) (hr.mono (by decide)) (by rfl) T.g_minus T.k_minus T.p_minus .nil pass0 (pa_cons (pe_glob (v := .ref d.o_NOUGHT) (by rfl) T.g_NOUGHT rfl) (pa_cons (pe_ix (ixa (K := K) (by rfl)) (pe_ix (ixa (K := K) (by rfl)) (pe_fld (pv 0) rfl) (pv 4) (fun _ _ => rfl)) (pv 1) (fun _ _ => rfl)) pa_nil))) (pg_sub (pv 3) (pe_ix (ixa (K := K) (by rfl)) (pe_fld (pv 0) rfl) (pv 4) (fun _ _ => rfl)) set_list))) pss_nil)))
      (pss_cons (ps_if (pt_cmpR op_lt (pv 1) (pv 2) (nomark _)) (pss_one (ps_asg (pe_tup (pa_cons pe_int (pa_cons pe_int pa_nil))) (pg_sub (pv 3) (pv 1) set_list))) pss_nil)
      (pss_one (ps_ret (pv 3)))))), ?_⟩
    try dsimp only [cxK, cxw, cxprog]
    walk_at "go"
    refine x_own W (by simp) (fun g0 H1 W1 => ?_)
    walk_at "go"
    refine x_repO W1 hN0 (by omega) (by omega) (fun S2 H2 g us W2 hS2 hus => ?_)
    have hus' : DpAll K S2 us ((List.replicate t (0 : Rat)).map qD) := by rw [Int.toNat_natCast] at hus; rw [List.map_replicate]; exact hus
    walk_at "go"
    refine svB 1 W2 rfl cS n2 ?_
    walk_at "go"
    refine x_lenO 3 W2 rfl ?_
    walk_at "go"
    refine x_forNL (fun i σ' H' => ∃ (S' : Hp) (us : List V) (r : List Rat) (z4 : Option V), σ' = [some (.ref p), some (.int (q : Int)), some (.int (t : Int)), some (.ref g), z4] ∧ Wd K S' H' ((g, .lst us) :: shO d.c_Sheet p dx l b z bs vs O) ∧ Same S2 S' ∧
      DpAll K S' us (r.map qD) ∧ r.length = t ∧ ∀ j : Nat, j < t → nth r (j : Int) = rayI M bs q i j) (by omega)
      ⟨S2, us, _, _, rfl, W2, Same.refl _, hus', List.length_replicate, fun j hj => by rw [nthN_rep hj]; unfold rayI; rw [sm]; grind⟩ ?_ ?_
    · rintro i σ' H' hi ⟨S', us, r, z4, rfl, W', hS', hus, hrl, hr0⟩
      have hd' := dpAll_mono (hS2.trans hS') hd
      have him : i < m := by omega
      have hbi := hh.b i him
      have hbn := hB.lt i him
      have hri := mt.w i (by omega)
      have huq : ∀ k, k < i → nth bs (k : Int) ≠ ((F.b i : Nat) : Int) := fun k hk e => by
        rw [hh.b k (by omega)] at e
        have := hB.inj (show k < m by omega) him (by omega)
        omega
      walk_at "go"
      refine svB 1 W' rfl cS n2 ?_
      walk_at "go"
      refine x_ixIO 3 W' rfl rfl (by omega) ?_
      walk_at "go"
      rw [hbi]
      refine x_iteD (fun hlt => ?_) (fun hlt => ?_)
      · walk_at "go"
        refine svL 1 W' rfl cS n1 ?_
        walk_at "go"
        refine x_rowO 4 W' rfl hd' rfl (by omega) (fun u1 hu1 => ?_)
        walk_at "go"
        have bq : Bq 1300 (ent M i q) := by rw [hh.T i q him (by omega)]; exact hs i q him (by omega)
        refine .mk (a := 0) (b := ent M i q) W' (by walk_at "is") (by walk_at "is") (bq_zero (by decide)) (bq.mono (by decide)) (fun S3 H3 v3 W3 hS3 hv3 => ?_)
        walk_at "go"
        refine svB 1 W3 rfl cS n2 ?_
        walk_at "go"
        refine x_ixIO 3 W3 rfl rfl (by omega) ?_
        walk_at "go"
        refine x_setD (d := qD _) 0 W3 rfl (dpAll_mono hS3 hus) hbi (by rw [List.length_map]; omega) hv3 (fun H4 hd4 W4 => ?_)
        walk_at "go"
        refine ⟨S3, _, r.set (F.b i) (0 - ent M i q), _, rfl, W4, by walk_at "same", by rw [List.map_set]; exact hd4, by rw [List.length_set]; exact hrl, fun j hj => ?_⟩
        rw [nthN_set (by omega)]
        by_cases e : j = F.b i
        · subst e
          rw [if_pos rfl, ray_new hbi huq]
        · rw [if_neg e, hr0 j hj, ray_same (by omega)]
      · walk_at "go"
        refine ⟨S', us, r, _, rfl, W', hS', hus, hrl, fun j hj => ?_⟩
        rw [hr0 j hj, ray_same (by omega)]
    · rintro σ' H' ⟨S', us, r, z4, rfl, W', hS', hus, hrl, hr0⟩
      rw [hbl] at hr0
      walk_at "go"
      refine x_iteD (fun hlt => ?_) (fun hlt => ?_)
      · walk_at "go"
        rename_i S3 H3 v3 W3 hS3 hv3
        have hv3' : Dp K S3 v3 (qD 1) := hv3
        refine x_setD (d := qD 1) 0 W3 rfl (dpAll_mono hS3 hus) rfl (by rw [List.length_map]; omega) hv3' (fun H4 hd4 W4 => ?_)
        walk_at "go"
        refine x_give W4 hd4 (fun S5 W5 hS5 hv5 => ?_)
        refine k S5 _ _ (r.set q 1) W5 (by walk_at "same") (by rw [← List.map_set] at hv5; exact hv5) (by rw [List.length_set]; exact hrl) (fun j hj => ?_)
        rw [nthN_set (by omega)]
        by_cases e : j = q
        · subst e
          rw [if_pos rfl, dirv_j]
        · rw [if_neg e, hr0 j hj, ray_end hh (by omega) e]
      · walk_at "go"
        refine x_give W' hus (fun S5 W5 hS5 hv5 => ?_)
        refine k S5 _ _ r W5 (by walk_at "same") hv5 hrl (fun j hj => ?_)
        rw [hr0 j hj, ray_end hh (by omega) (by omega)]
end
section
variable {P : Program} {w : World} {K : PySem.W.Frag} {mg : Str → Option Value} {base : Heap} {d : Ad}
inductive Sp_solved (K : PySem.W.Frag) (C : Addr) : List V → Hp → VK → XK → Prop
  | mk {S : Hp} {O : List (Addr × HO)} {A : List (List Rat)} {lim g : List Rat} {x y z : V} {H : Hp} {Q : VK} {E : XK} (W : Wd K S H O) (hx : Dp K S x (tabQ A)) (hy : Dp K S y (rowQ lim)) (hz : Dp K S z (rowQ g)) (hl : A.length ≤ 1000) (Z : ProgOk A lim g → ProgSz A lim g)
    (e : ¬ ProgOk A lim g → ∀ S' H', Wd K S' H' O → Same S S' → E (.ref C) none H')
    (k : ProgOk A lim g → ∀ S' H' v res, Wd K S' H' O → Same S S' → Dp K S' v (resD res) → ResOk A lim g res → Q v H') : Sp_solved K C [x, y, z] H Q E
theorem ok_solved (T : Txt K mg d) : FnOk P w K mg base (L2.CX P w) 7 d.a_solved d.f_solved ["rows", "limits", "goal"] (Sp_solved K d.c_NoTable) := by
  refine T.F_solved.okX sc_solved (fun vs H Q E h => ?_) (fun cdv A outer s H vs Q E hr h => ?_)
  · cases h; rfl
  · have hu := hu_of hr
    obtain ⟨W, hx, hy, hz, hl, Z, e, k⟩ := h
    rename_i S O A lim g x y z
    have cS := T.c_Sheet
    have n1 := T.n_Sheet_lines
    have n2 := T.n_Sheet_basis
    have n3 := T.n_Sheet_wide
    have hN0 : Dp K S (.ref d.o_NOUGHT) (qD 0) := dp_const T.l_NOUGHT
    refine ⟨_, (pss_cons (ps_expr (pe_call (ok_look_program T) (hr.mono (by decide)) (by rfl) T.g_look_program T.k_look_program T.p_look_program .nil (passes_call (takes_of rfl rfl rfl rfl) (fun _ _ _ _ h => h)) (pa_cons (pv 0) (pa_cons (pv 1) (pa_cons (pv 2) pa_nil)))))
      (pss_cons (ps_set (i := 3) sc_solved.nd rfl (by first | exact Or.inl rfl | exact Or.inr rfl) (pe_callB (lena (K := K) (by rfl)) (by rfl) T.b_len (by decide +kernel) (pa_cons (pv 2) pa_nil)))
      (pss_cons (ps_set (i := 4) sc_solved.nd rfl (by first | exact Or.inl rfl | exact Or.inr rfl) (pe_op op_add (pv 3) (pe_callB (lena (K := K) (by rfl)) (by rfl) T.b_len (by decide +kernel) (pa_cons (pv 0) pa_nil))))
      (pss_cons (ps_set (i := 5) sc_solved.nd rfl (by first | exact Or.inl rfl | exact Or.inr rfl) (pe_call (ok_first_sheet T) (hr.mono (by decide)) (by rfl) T.g_first_sheet T.k_first_sheet T.p_first_sheet .nil pass0 (pa_cons (pv 0) (pa_cons (pv 1) (pa_cons (pv 2) pa_nil)))))
      (pss_cons (ps_expr (pe_call (ok_with_goal T) (hr.mono (by decide)) (by rfl) T.g_with_goal T.k_with_goal T.p_with_goal .nil pass0 (pa_cons (pv 5) (pa_cons (pe_op op_rep (pe_lst (pa_cons (pe_tup (pa_cons (pe_un un_neg pe_int) (pa_cons pe_int pa_nil))) pa_nil)) (pe_op op_sub (pe_fld (pv 5) rfl) (pv 4))) (pa_cons (pv 4) pa_nil)))))
      (pss_cons (ps_expr (pe_meth (pv 5) T.c_Sheet T.h_Sheet_climb (ok_Sheet_climb T) (hr.mono (by decide)) T.p_Sheet_climb .nil pass0 (pa_cons (pe_fld (pv 5) rfl) pa_nil)))
      (pss_cons (ps_if (pt_val (pe_call (ok_is_less T) (hr.mono (by decide)) (by rfl) T.g_is_less T.k_is_less T.p_is_less .nil pass0 (pa_cons (pe_ix (ixa (K := K) (by rfl)) (pe_ix (ixa (K := K) (by rfl)) (flda (K := K) (by rfl) (pv 5) rfl) (pe_un un_neg pe_int) (fun _ _ => rfl)) (pe_un un_neg pe_int) (fun _ _ => rfl)) (pa_cons (pe_glob (v := .ref d.o_NOUGHT) (by rfl) T.g_NOUGHT rfl) pa_nil)))) (pss_one (ps_ret (pe_tup (pa_cons pe_str (pa_cons (pe_lc (own := [("k", 8)]) rfl sc_solved.nd (pi_range1 (by rfl) T.b_range (pa_cons (pe_callB (lena (K := K) (by rfl)) (by rfl) T.b_len (by decide +kernel) (pa_cons (pv 0) pa_nil)) pa_nil)) (blkOk_by (by first | decide +kernel | exact Eq.refl true)) (fun _ _ _ _ _ => pg_name (i := 8) sc_solved.nd rfl (by first | exact Or.inl rfl | exact Or.inr rfl)) (fun _ _ _ _ _ => pts_nil) (fun _ _ _ _ _ => (pe_ix (ixa (K := K) (by rfl)) (pe_ix (ixa (K := K) (by rfl)) (flda (K := K) (by rfl) (pv 5) rfl) (pe_un un_neg pe_int) (fun _ _ => rfl)) (pe_op op_add (pv 3) (pv 8)) (fun _ _ => rfl)))) pa_nil))))) pss_nil)
      (pss_cons (ps_expr (pe_bm0 PySem.F.plainAttrs_list PySem.F.slot_list_pop PySem.F.type_list_pop mt_pop (flda (K := K) (by rfl) (pv 5) rfl)))
      (pss_cons (ps_expr (pe_call (ok_clear_helpers T) (hr.mono (by decide)) (by rfl) T.g_clear_helpers T.k_clear_helpers T.p_clear_helpers .nil pass0 (pa_cons (pv 5) (pa_cons (pv 4) pa_nil))))
      (pss_cons (ps_expr (pe_call (ok_with_goal T) (hr.mono (by decide)) (by rfl) T.g_with_goal T.k_with_goal T.p_with_goal .nil pass0 (pa_cons (pv 5) (pa_cons (pv 2) (pa_cons pe_int pa_nil)))))
      (pss_cons (ps_set (i := 6) sc_solved.nd rfl (by first | exact Or.inl rfl | exact Or.inr rfl) (pe_meth (pv 5) T.c_Sheet T.h_Sheet_climb (ok_Sheet_climb T) (hr.mono (by decide)) T.p_Sheet_climb .nil pass0 (pa_cons (pv 4) pa_nil)))
      (pss_cons (ps_setLc (i := 7) (own := [("k", 8)]) rfl sc_solved.nd rfl rfl (sw_true rfl rfl rfl (by decide +kernel)) (pi_range1 (by rfl) T.b_range (pa_cons (pv 3) pa_nil)) (blkOk_by (by first | decide +kernel | exact Eq.refl true)) (fun _ _ _ _ _ => pg_name (i := 8) sc_solved.nd rfl (by first | exact Or.inl rfl | exact Or.inr rfl)) (fun _ _ _ _ _ => pts_nil) (fun _ _ _ _ _ => (pe_meth (pv 5) T.c_Sheet T.h_Sheet_worth (ok_Sheet_worth T) (hr.mono (by decide)) T.p_Sheet_worth .nil pass0 (pa_cons (pv 8) pa_nil))))
      (pss_cons (ps_if (pt_cmpR ol_isN (pv 6) pe_non (nomark _)) (pss_one (ps_ret (pe_tup (pa_cons pe_str (pa_cons (pv 7) (pa_cons (pe_lc (own := [("k", 8)]) rfl sc_solved.nd (pi_range1 (by rfl) T.b_range (pa_cons (pe_callB (lena (K := K) (by rfl)) (by rfl) T.b_len (by decide +kernel) (pa_cons (pv 0) pa_nil)) pa_nil)) (blkOk_by (by first | decide +kernel | exact Eq.refl true)) (fun _ _ _ _ _ => pg_name (i := 8) sc_solved.nd rfl (by first | exact Or.inl rfl | exact Or.inr rfl)) (fun _ _ _ _ _ => pts_nil) (fun _ _ _ _ _ => (pe_ix (ixa (K := K) (by rfl)) (pe_ix (ixa (K := K) (by rfl)) (flda (K := K) (by rfl) (pv 5) rfl) (pe_un un_neg pe_int) (fun _ _ => rfl)) (pe_op op_add (pv 3) (pv 8)) (fun _ _ => rfl)))) pa_nil)))))) pss_nil)
      (pss_one (ps_ret (pe_tup (pa_cons pe_str (pa_cons (pv 7) (pa_cons (pe_call (ok_ray T) (hr.mono (by decide)) (by rfl) T.g_ray T.k_ray T.p_ray .nil pass0 (pa_cons (pv 5) (pa_cons (pv 6) (pa_cons (pv 3) pa_nil)))) pa_nil))))))))))))))))))), ?_⟩
    try dsimp only [cxK, cxw, cxprog]
    walk_at "go"
    refine .mk W hx hy hz hl e (fun P S1 H1 W1 hS1 => ?_)
    replace Z := Z P
    replace k := k P
    have hle := pN_le P
    have a6 := P.a6
    have G1 := goal1 P Z
    have G2 := goal2 P Z
    obtain ⟨bA, bl, bg⟩ := p_bq P Z
    have F := first_ok (p := g.length) (m := A.length) (A := ent A) (lim := atN lim)
    have B0 : IsBas A.length (pN A lim g) (pT A lim g) (pB A lim g) := F.bas
    have f0 : ∀ i, i < A.length → 0 ≤ pT A lim g i (pN A lim g) := F.f
    walk_at "go"
    refine .mk W1 (dp_mono hS1 hx) (dp_mono hS1 hy) (dp_mono hS1 hz) P bA bl (fun S2 H2 p dx l b vs bs M W2 hS2 hd2 hh2 => ?_)
    have u0 : Up A.length (pN A lim g) (pT A lim g) (o1f (g.length + A.length) (pN A lim g)) ⟨pT A lim g, pB A lim g, offRow A.length (pT A lim g) (pB A lim g) (o1f (g.length + A.length) (pN A lim g)) A.length⟩ := up_goal B0 f0 fun _ => Iff.rfl
    have bT := fun i j => @szd_T _ _ _ _ _ G1.sz B0 (fun _ => Iff.rfl) i j
    have bo := G1.row B0 fun _ => Iff.rfl
    change Holds0 A.length (pN A lim g) (pT A lim g) (pB A lim g) M bs at hh2
    change Wd K S2 H2 (shO d.c_Sheet p dx l b ((pN A lim g : Nat) : Int) bs vs O) at W2
    generalize hwn : pN A lim g = wn at *
    have lA : ((A.map rowQ).length : Int) = (A.length : Nat) := by rw [List.length_map]
    have lg : ((g.map qD).length : Int) = (g.length : Nat) := by rw [List.length_map]
    walk_at "go"
    rename_i S3 H3 v3 W3 hS3 hv3
    have hv3' : Dp K S3 v3 (qD (-1)) := hv3
    refine x_own W3 (by simp) (fun g4 H4 W4 => ?_)
    walk_at "go"
    refine svW 1 W4 rfl cS n3 ?_
    walk_at "go"
    rw [lA, lg]
    refine x_repS W4 hv3' (by omega) (by omega) (fun S5 H5 v5 W5 hS5 hv5 => ?_)
    have e5 : ((wn : Int) - ((g.length : Nat) + (A.length : Nat) : Int)).toNat = wn - (g.length + A.length) := by omega
    rw [e5] at hv5
    have hv5' : Dp K S5 v5 (rowQ (List.replicate (wn - (g.length + A.length)) (-1))) := by
      simp only [rowQ, List.map_replicate]
      exact hv5
    walk_at "go"
    refine .mk (q := g.length + A.length) (o0 := o1f (g.length + A.length) wn) W5 (dpAll_mono (hS3.trans hS5) hd2) hh2 B0 hv5' rfl rfl (by rw [List.length_replicate]; omega) (by omega) (by omega) (fun j hj => ?_) (fun y hy => ?_) (fun i j => bT i j) bo (fun S6 H6 vs6 M6 W6 hS6 hd6 hh6 => ?_)
    · rw [List.length_replicate]
      unfold o1f
      by_cases c : g.length + A.length ≤ j ∧ j < wn
      · rw [if_pos c, if_pos (by omega), nthN_rep (by omega)]
        grind
      · rw [if_neg c, if_neg (by omega)]
    · rw [(List.mem_replicate.mp hy).2]
      exact bq_neg (bq_one (by decide))
    walk_at "go"
    refine x_mthO 0 W6 rfl rfl ?_
    walk_at "go"
    refine svW 0 W6 rfl cS n3 ?_
    walk_at "go"
    refine .mk W6 hd6 hh6 u0 G1 (Nat.le_refl _) rfl (fun S7 H7 vs7 M7 bs7 t1 F1 r1 c1 W7 hS7 hd7 hh7 R1 hF1 => ?_)
    have u7 := up_run u0 R1 hF1 (Nat.le_refl _)
    have hbq7 := holds_bq hh7 u7 G1
    have hM7 := hh7.mat.h
    have hlast7 := hh7.mat.w A.length (by omega)
    refine ⟨fun hall => ?_, fun ex hex hneg hno => absurd (no_end u7.ok hex hneg hno u7.ev (fun j hj => ?_) ?_) (fun z => z)⟩
    rotate_left
    · unfold o1f
      split
      · decide
      · exact Rat.le_refl
    · unfold o1f
      rw [if_neg (by omega)]
    walk_at "go"
    refine svL 0 W7 rfl cS n1 ?_
    walk_at "go"
    refine x_rowL 3 W7 rfl hd7 hM7 (fun u8 hu8 => ?_)
    walk_at "go"
    refine x_ratL W7 hu8 hlast7 (fun u9 hu9 => ?_)
    walk_at "go"
    have e9 : nth (nth M7 (A.length : Int)) (wn : Int) = (F1 t1).o wn := hh7.o wn (by omega)
    rw [e9] at hu9
    have hS7a : Same S S7 := by walk_at "same"
    have b9 : Bq 1300 ((F1 t1).o wn) := by
      have := hbq7 A.length wn (by omega) (by omega)
      rw [show ent M7 A.length wn = (F1 t1).o wn from e9] at this
      exact this
    refine .mk (b := 0) W7 hu9 (dp_mono hS7a hN0) (b9.mono (by decide)) (bq_zero (by decide)) ?_
    walk_at "go"
    refine x_iteD (fun hlt => ?_) (fun hlt => ?_)
    · walk_at "go"
      rw [lA]
      refine lcr_map qD (fun j : Nat => (F1 t1).o (g.length + j)) W7 ⟨by omega, by omega⟩ (fun j S' H' R acc N hj W' hS E => ?_) (fun S8 H8 v8 W8 hS8 hv8 => ?_)
      · walk_at "go"
        refine svL 1 W' rfl cS n1 ?_
        walk_at "go"
        refine x_rowL 4 W' rfl (dpAll_mono hS hd7) hM7 (fun u10 hu10 => ?_)
        walk_at "go"
        rename_i u11 hu11
        have e11 : nth (nth M7 (A.length : Int)) ((g.length : Int) + (j : Int)) = (F1 t1).o (g.length + j) := by
          rw [show ((g.length : Int)) + (j : Int) = ((g.length + j : Nat) : Int) by omega]
          exact hh7.o _ (by omega)
        rw [e11] at hu11
        walk_at "ly"
      rw [Int.toNat_natCast] at hv8
      walk_at "go"
      rename_i S9 H9 v9 W9 hS9 hv9
      obtain ⟨S10, W10, hS10⟩ := sh_drop W9
      subst hwn
      exact k S10 H9 v9 (.none _) W10 (by walk_at "same") (dp_mono hS10 hv9) (res_none P Z u7 hall hlt)
    have hz7 := fun i hi hb => help_zero (i := i) u7.ok hle.1 (u7.ev _ (basv_sol u7.ok.B)) (fun j hj => by unfold o1f; rw [if_neg (by omega)]) (fun j h1 h2 => by unfold o1f; rw [if_pos ⟨h1, h2⟩]) (by unfold o1f; rw [if_neg (by omega)]) hlt hi hb
    have clr0 : Clr (g.length + A.length) A.length wn (pT A lim g) (F1 t1).T (F1 t1).b 0 := ⟨u7.ok.B, u7.sol, u7.ok.f, hz7, fun i _ hk => absurd hk (Nat.not_lt_zero _)⟩
    walk_at "go"
    refine svL 0 W7 rfl cS n1 ?_
    refine x_bmo 3 W7 rfl ?_
    walk_at "go"
    have hvl7 : vs7.length = A.length + 1 := by rw [dpAll_len hd7, List.length_map, hM7]
    refine x_pop 3 W7 rfl (List.getElem?_eq_getElem (by omega)) (fun H8 W8 => ?_)
    have hd8 : DpAll K S7 vs7.dropLast (M7.dropLast.map rowQ) := by rw [List.map_dropLast]; exact dpAll_dropLast hd7
    walk_at "go"
    refine .mk (q := g.length + A.length) W8 hd8 (holds_pop hh7) clr0 G1.sz hle.1 (by omega) (by omega) (by omega) (fun S9 H9 vs9 M9 bs9 T9 b9 W9 hS9 hd9 hh9 c9 => ?_)
    have u9 := up_goal (o0 := o2f g) c9.B c9.f c9.sol
    walk_at "go"
    have hS9a : Same S S9 := by walk_at "same"
    refine .mk (q := 0) (o0 := o2f g) W9 hd9 hh9 c9.B (dp_mono hS9a hz) rfl rfl (by omega) (by omega) (by omega) (fun j hj => ?_) bg (fun i j hi hj => szd_T G2.sz c9.B c9.sol hi hj) (G2.row c9.B c9.sol) (fun S10 H10 vs10 M10 W10 hS10 hd10 hh10 => ?_)
    · unfold o2f
      by_cases c : j < g.length
      · rw [if_pos c, if_pos (by omega), Nat.sub_zero]
      · rw [if_neg c, if_neg (by omega)]
    refine x_seq ?_
    refine x_asg ?_
    refine x_cutV (fun v H' => ∃ S' vs' M' bs' D, Wd K S' H' (shO d.c_Sheet p dx l b (wn : Int) bs' vs' O) ∧ Same S10 S' ∧ DpAll K S' vs' (M'.map rowQ) ∧ Holds A.length wn D M' bs' ∧ Up A.length wn (pT A lim g) (o2f g) D ∧ HelpZ (g.length + A.length) A.length wn D.T D.b ∧
      ((v = .non ∧ ∀ j, j < g.length + A.length → 0 ≤ D.o j) ∨ ∃ e : Nat, v = .int (e : Int) ∧ e < g.length + A.length ∧ D.o e < 0 ∧ ∀ i, i < A.length → ¬ 0 < D.T i e)) (fun Q' hQ => ?_) ?_
    · walk_at "go"
      refine x_mthO 0 W10 rfl rfl ?_
      walk_at "go"
      refine .mk (q := g.length + A.length) W10 hd10 hh10 u9 G2 hle.1 (by omega) (fun S11 H11 vs11 M11 bs11 t2 F2 r2 c2 W11 hS11 hd11 hh11 R2 hF2 => ?_)
      have u11 := up_run u9 R2 hF2 hle.1
      have H11' := R2.help hle.1 (by rw [hF2]; exact clr_help c9) t2 (Nat.le_refl _)
      exact ⟨fun hall => hQ _ _ ⟨S11, vs11, M11, bs11, _, W11, hS11, hd11, hh11, u11, H11', .inl ⟨rfl, hall⟩⟩, fun e he ho hno => hQ _ _ ⟨S11, vs11, M11, bs11, _, W11, hS11, hd11, hh11, u11, H11', .inr ⟨e, rfl, he, ho, hno⟩⟩⟩
    rintro pv H11 ⟨S11, vs11, M11, bs11, D, W11, hS11, hd11, hh11, u11, hz11, hpv⟩
    have mt11 := hh11.mat
    have hM11 := mt11.h
    have hbl11 := hh11.bl
    have hlast11 := mt11.w A.length (by omega)
    walk_at "go"
    refine lcr_map qD (basv A.length D.T D.b wn) W11 ⟨by omega, by omega⟩ (fun j S' H' R acc N hj W' hS E => ?_) (fun S12 H12 v12 W12 hS12 hv12 => ?_)
    · walk_at "go"
      refine x_mthO 1 W' rfl rfl ?_
      walk_at "go"
      refine .mk 1 W' rfl rfl rfl (dpAll_mono hS hd11) mt11 (by omega) (fun i v hi he hv => ?_) (fun hno v hv => ?_)
      · rw [hbl11] at hi
        rw [hh11.b i hi] at he
        have e1 : D.b i = j := by omega
        have e2 : basv A.length D.T D.b wn j = ent M11 i wn := by rw [← e1, basv_b u11.ok.B hi, hh11.T i wn hi (by omega)]
        rw [← e2] at hv
        walk_at "ly"
      · have e2 : basv A.length D.T D.b wn j = 0 := basv_0 (by omega) fun i hi e => hno i (by omega) (by rw [hh11.b i hi, e])
        rw [← e2] at hv
        walk_at "ly"
    rw [Int.toNat_natCast] at hv12
    walk_at "go"
    rcases hpv with ⟨rfl, hall2⟩ | ⟨e0, rfl, he0, ho0, hno0⟩
    · walk_at "go"
      rw [lA]
      refine lcr_map qD (fun j : Nat => D.o (g.length + j)) W12 ⟨by omega, by omega⟩ (fun j S' H' R acc N hj W' hS E => ?_) (fun S13 H13 v13 W13 hS13 hv13 => ?_)
      · walk_at "go"
        refine svL 1 W' rfl cS n1 ?_
        walk_at "go"
        refine x_rowL 4 W' rfl (dpAll_mono hS (dpAll_mono hS12 hd11)) hM11 (fun u14 hu14 => ?_)
        walk_at "go"
        rename_i u15 hu15
        have e11 : nth (nth M11 (A.length : Int)) ((g.length : Int) + (j : Int)) = D.o (g.length + j) := by
          rw [show ((g.length : Int)) + (j : Int) = ((g.length + j : Nat) : Int) by omega]
          exact hh11.o _ (by omega)
        rw [e11] at hu15
        walk_at "ly"
      rw [Int.toNat_natCast] at hv13
      walk_at "go"
      rename_i S14 H14 v14 W14 hS14 hv14
      obtain ⟨S15, W15, hS15⟩ := sh_drop W14
      subst hwn
      exact k S15 H14 v14 (.best _ _) W15 (by walk_at "same") (dp_mono hS15 hv14) (res_best P Z u11 hz11 hall2)
    · walk_at "go"
      refine .mk W12 (dpAll_mono hS12 hd11) hh11 u11.ok.B rfl rfl (by omega) (by omega) (by omega) (by omega) (fun i j hi hj => (u11.bq G2).1 i j hi hj) (fun S13 H13 v13 r13 W13 hS13 hv13 hl13 hr13 => ?_)
      walk_at "go"
      rename_i S14 H14 v14 W14 hS14 hv14
      obtain ⟨S15, W15, hS15⟩ := sh_drop W14
      subst hwn
      exact k S15 H14 v14 (.endless _ _) W15 (by walk_at "same") (dp_mono hS15 hv14) (res_endless P Z u11 hz11 he0 ho0 hno0 hl13 hr13)
end
section
variable {P : Program} {w : World} {K : PySem.W.Frag} {mg : Str → Option Value} {base : Heap} {d : Ad}
inductive Sp_law_refused (K : PySem.W.Frag) : List V → Hp → VK → XK → Prop
  | mk {S : Hp} {O : List (Addr × HO)} {A : List (List Rat)} {lim g : List Rat} {x y z : V} {H : Hp} {Q : VK} {E : XK} (W : Wd K S H O) (h1 : Dp K S x (tabQ A)) (h2 : Dp K S y (rowQ lim)) (h3 : Dp K S z (rowQ g)) (hl : A.length ≤ 1000) (n : ¬ ProgOk A lim g)
    (k : ∀ S' H', Wd K S' H' O → Same S S' → Q (.bl true) H') : Sp_law_refused K [x, y, z] H Q E
theorem ok_law_refused (T : Txt K mg d) : FnOk P w K mg base CX0 8 d.a_law_refused d.f_law_refused ["_law_rows", "_law_limits", "_law_goal"] (Sp_law_refused K) := by
  refine T.F_law_refused.ok sc_law_refused (fun vs H Q E h => ?_) (fun cdv A outer s H vs Q E hr h => ?_)
  · cases h; rfl
  · have hu := hu_of hr
    obtain ⟨W, h1, h2, h3, hl, n, k⟩ := h
    rename_i S O A lim g x y z
    have y1 := T.y_NoTable
    have q1 := T.q_NoTable_NoTable
    have q2 := T.q_NoTable_ValueError
    refine ⟨_, (pss_cons (ps_set (i := 3) sc_law_refused.nd rfl (by first | exact Or.inl rfl | exact Or.inr rfl) pe_bl)
      (pss_cons (ps_try_as (i := 4) (Wout := fun _ _ _ _ => False) rfl rfl sc_law_refused.nd rfl rfl ⟨rfl, by decide, Or.inl T.g_BestError⟩ takes0 (fun W pn xe tk _ => (pss_one (ps_expr (by exact (pe_callS (ok_solved T) (hr.mono (by decide)) rfl T.g_solved T.k_solved T.p_solved (fun σ => passAt tk σ) (by exact (pa_cons (by exact pv 0) (pa_cons (by exact pv 1) (pa_cons (by exact pv 2) pa_nil))))))))) (fun a oe cls d' pn hz hf => (pss_one (ps_set (i := 3) sc_law_refused.nd rfl (by first | exact Or.inl rfl | exact Or.inr rfl) (pe_and (pe_callB (call_isX hz hf) (by rfl) T.b_isinstance (by decide +kernel) (pa_cons (pv 4) (pa_cons (pe_glob (v := .ref d.c_NoTable) (by rfl) T.g_NoTable rfl) pa_nil))) (pe_one (pe_callB (call_isX hz hf) (by rfl) T.b_isinstance (by decide +kernel) (pa_cons (pv 4) (pa_cons (pe_bltn (v := .ty "ValueError") (by rfl) T.b_ValueError (by decide +kernel) rfl) pa_nil)))))))))
      (pss_one (ps_ret (pv 3))))), ?_⟩
    try dsimp only [cxK, cxw, cxprog]
    walk_at "go"
    refine .mk W h1 h2 h3 hl (fun t => absurd t n) (fun _ S' H' W' hS => ?_) (fun t => absurd t n)
    refine ⟨true, T.e_NoTable_BestError, fun _ a _ => ?_, fun q => Bool.noConfusion q⟩
    walk_at "go"
    exact k S' H' W' hS
end
section
variable {P : Program} {w : World} {K : PySem.W.Frag} {mg : Str → Option Value} {base : Heap} {d : Ad}
/-- a row with one made another ratio, or not -/
def turnR (ns : List Int) (b : Int) (r : List Rat) : List Rat := if r ≠ [] ∧ mix ns b % 2 = 0 then r.set (mix ns (b + 1) % (r.length : Int)).toNat (lawRat (mix ns (b + 2))) else r
inductive Sp_law_turned (K : PySem.W.Frag) : List V → Hp → VK → XK → Prop
  | mk {S : Hp} {O : List (Addr × HO)} {ns : List Int} {b : Int} {r : List Rat} {x y : V} {H : Hp} {Q : VK} {E : XK} (W : Wd K S H O) (h1 : Dp K S x (.list (ns.map PyData.int))) (h2 : Dp K S y (rowQ r)) (hl : r.length ≤ 1000)
    (k : ∀ S' H' v, Wd K S' H' O → Same S S' → Dp K S' v (rowQ (turnR ns b r)) → Q v H') : Sp_law_turned K [x, .int b, y] H Q E
theorem ok_law_turned (T : Txt K mg d) : FnOk P w K mg base CX0 3 d.a_law_turned d.f_law_turned ["_law_script", "_law_base", "_law_row"] (Sp_law_turned K) := by
  refine T.F_law_turned.ok sc_law_turned (fun vs H Q E h => ?_) (fun cdv A outer s H vs Q E hr h => ?_)
  · cases h; rfl
  · have hu := hu_of hr
    obtain ⟨W, h1, h2, hl, k⟩ := h
    rename_i S O ns b r x y
    refine ⟨_, (pss_cons (ps_set (i := 3) sc_law_turned.nd rfl (by first | exact Or.inl rfl | exact Or.inr rfl) (pe_callTy (lista (K := K) (by rfl)) (by rfl) T.b_list (by decide +kernel) (pa_cons (pv 2) pa_nil)))
      (pss_cons (ps_if (PW.pt (pw_and (trutha (K := K) (by rfl) (pv 3) (by intro _; rfl)) (pw_and1 (pt_cmpR op_eq (pe_op op_mod (pe_call (ok_law_mix T) (hr.mono (by decide)) (by rfl) T.g_law_mix T.k_law_mix T.p_law_mix .nil pass0 (pa_cons (pv 0) (pa_cons (pv 1) pa_nil))) pe_int) pe_int (nomark _))))) (pss_one (ps_asg (pe_call (ok_law_ratio T) (hr.mono (by decide)) (by rfl) T.g_law_ratio T.k_law_ratio T.p_law_ratio .nil pass0 (pa_cons (pe_call (ok_law_mix T) (hr.mono (by decide)) (by rfl) T.g_law_mix T.k_law_mix T.p_law_mix .nil pass0 (pa_cons (pv 0) (pa_cons (pe_op op_add (pv 1) pe_int) pa_nil))) pa_nil)) (pg_sub (pv 3) (pe_op op_mod (pe_call (ok_law_mix T) (hr.mono (by decide)) (by rfl) T.g_law_mix T.k_law_mix T.p_law_mix .nil pass0 (pa_cons (pv 0) (pa_cons (pe_op op_add (pv 1) pe_int) pa_nil))) (pe_callB (lena (K := K) (by rfl)) (by rfl) T.b_len (by decide +kernel) (pa_cons (pv 3) pa_nil))) set_list))) pss_nil)
      (pss_one (ps_ret (pv 3))))), ?_⟩
    try dsimp only [cxK, cxw, cxprog]
    repeat ((fail_if_success (with_reducible refine' x_listS (by assumption) (by walk_at "is") ?_)); walk_at "st")
    refine x_listO W h2 (fun p0 vs0 H1 hd1 W1 => ?_)
    walk_at "go"
    have hvl : (vs0.length : Int) = r.length := by rw [dpAll_len hd1, List.length_map]
    refine x_ite (fun he => ?_) (fun he => ?_)
    · have hpos : 0 < vs0.length := by
        cases vs0 with
        | nil => simp at he
        | cons a s => simp
      have hne : r ≠ [] := fun z => by rw [z] at hvl; simp at hvl; rw [hvl] at hpos; simp at hpos
      walk_at "go"
      refine x_iteD (fun hz => ?_) (fun hz => ?_)
      · have m0 := Int.emod_nonneg (mix ns (b + 1)) (show (r.length : Int) ≠ 0 by omega)
        have m1 := Int.emod_lt_of_pos (mix ns (b + 1)) (show (0 : Int) < (r.length : Int) by omega)
        walk_at "go"
        rename_i S2 H2 v2 W2 hS2 hv2
        refine x_setD (j := (mix ns (b + 1) % (r.length : Int)).toNat) 0 W2 rfl (dpAll_mono hS2 hd1) (by rw [hvl]; omega) (by rw [List.length_map]; omega) hv2 (fun H3 hd3 W3 => ?_)
        replace W3 : Wd K S2 H3 ((p0, .lst (vs0.set (mix ns (b + 1) % (r.length : Int)).toNat v2)) :: O) := W3
        walk_at "go"
        refine x_give W3 hd3 (fun S4 W4 hS4 hv4 => k S4 H3 _ W4 (hS2.trans hS4) ?_)
        unfold turnR
        rw [if_pos ⟨hne, hz⟩, rowQ, List.map_set]
        exact hv4
      · walk_at "go"
        refine x_give W1 hd1 (fun S4 W4 hS4 hv4 => k S4 H1 _ W4 hS4 ?_)
        unfold turnR
        rw [if_neg fun z => hz z.2]
        exact hv4
    · have hne : ¬ r ≠ [] := fun z => by
        cases vs0 with
        | nil =>
          have : r.length = 0 := by simp at hvl; omega
          exact z (List.length_eq_zero_iff.mp this)
        | cons a s => simp at he
      walk_at "go"
      refine x_give W1 hd1 (fun S4 W4 hS4 hv4 => k S4 H1 _ W4 hS4 ?_)
      unfold turnR
      rw [if_neg fun z => hne z.1]
      exact hv4
end
section
variable {P : Program} {w : World} {K : PySem.W.Frag} {mg : Str → Option Value} {base : Heap} {d : Ad}
inductive Sp_plus (K : PySem.W.Frag) : List V → Hp → VK → XK → Prop
  | mk {S : Hp} {O : List (Addr × HO)} {a b : Rat} {x y : V} {H : Hp} {Q : VK} {E : XK} (W : Wd K S H O) (h1 : Dp K S x (qD a)) (h2 : Dp K S y (qD b)) (r1 : Bq 4000 a) (r2 : Bq 4000 b)
    (k : ∀ S' H' v, Wd K S' H' O → Same S S' → Dp K S' v (qD (a + b)) → Q v H') : Sp_plus K [x, y] H Q E
theorem ok_plus (T : Txt K mg d) : FnOk P w K mg base CX0 4 d.a_plus d.f_plus ["one", "other"] (Sp_plus K) := by
  refine T.F_plus.ok sc_plus (fun vs H Q E h => ?_) (fun cdv A outer s H vs Q E hr h => ?_)
  · cases h; rfl
  · have hu := hu_of hr
    obtain ⟨W, h1, h2, r1, r2, k⟩ := h
    rename_i S O a b x y
    obtain ⟨n1, m1⟩ := r1
    obtain ⟨n2, m2⟩ := r2
    replace m1 : (a.den : Int).natAbs < 2 ^ 4000 := by rw [Int.natAbs_natCast]; exact m1
    replace m2 : (b.den : Int).natAbs < 2 ^ 4000 := by rw [Int.natAbs_natCast]; exact m2
    have c1 : CMulW a.num b.den := cmulw_of n1 m2
    have c2 : CMulW b.num a.den := cmulw_of n2 m1
    have c3 : CMulW a.den b.den := cmulw_of m1 m2
    have c4 : CMulW a.num b.num := cmulw_of n1 n2
    have hb : ((a.den : Int) * (b.den : Int)).natAbs < 2 ^ 8000 := wide_lt m1 m2
    have hn := den_ne a b
    refine ⟨_, (pss_one (ps_ret (pe_call (ok_ratio T) (hr.mono (by decide)) (by rfl) T.g_ratio T.k_ratio T.p_ratio .nil passL (pa_cons (pe_op op_add (pe_op op_mulW (pe_ix (ixa (K := K) (by rfl)) (pv 0) pe_int (fun _ _ => rfl)) (pe_ix (ixa (K := K) (by rfl)) (pv 1) pe_int (fun _ _ => rfl))) (pe_op op_mulW (pe_ix (ixa (K := K) (by rfl)) (pv 1) pe_int (fun _ _ => rfl)) (pe_ix (ixa (K := K) (by rfl)) (pv 0) pe_int (fun _ _ => rfl)))) (pa_cons (pe_op op_mulW (pe_ix (ixa (K := K) (by rfl)) (pv 0) pe_int (fun _ _ => rfl)) (pe_ix (ixa (K := K) (by rfl)) (pv 1) pe_int (fun _ _ => rfl))) pa_nil))))), ?_⟩
    try dsimp only [cxK, cxw, cxprog]
    walk_at "go"
    refine .mk W hb (fun e => absurd e hn) (fun _ S' H' v W' hS hv => k S' H' v W' hS ?_)
    rw [rat_q hn, ← q_add] at hv
    exact hv
end
section
variable {P : Program} {w : World} {K : PySem.W.Frag} {mg : Str → Option Value} {base : Heap} {d : Ad}
inductive Sp_dot (K : PySem.W.Frag) : List V → Hp → VK → XK → Prop
  | mk {S : Hp} {O : List (Addr × HO)} {r s : List Rat} {x y : V} {H : Hp} {Q : VK} {E : XK} (W : Wd K S H O) (h1 : Dp K S x (rowQ r)) (h2 : Dp K S y (rowQ s)) (hl : r.length = s.length)
    (he : ∀ j : Nat, j < r.length → Bq 2000 (nth r (j : Int)) ∧ Bq 2000 (nth s (j : Int))) (hs : ∀ t, t ≤ r.length → Bq 4000 (sm t fun j => nth r (j : Int) * nth s (j : Int)))
    (k : ∀ S' H' v, Wd K S' H' O → Same S S' → Dp K S' v (qD (sm r.length fun j => nth r (j : Int) * nth s (j : Int))) → Q v H') : Sp_dot K [x, y] H Q E
theorem ok_dot (T : Txt K mg d) : FnOk P w K mg base CX0 5 d.a_dot d.f_dot ["row", "other"] (Sp_dot K) := by
  refine T.F_dot.ok sc_dot (fun vs H Q E h => ?_) (fun cdv A outer s H vs Q E hr h => ?_)
  · cases h; rfl
  · have hu := hu_of hr
    obtain ⟨W, h1, h2, hl, he, hs, k⟩ := h
    rename_i S O r s x y
    refine ⟨_, (pss_cons (ps_set (i := 2) sc_dot.nd rfl (by first | exact Or.inl rfl | exact Or.inr rfl) (pe_tup (pa_cons pe_int (pa_cons pe_int pa_nil))))
      (pss_cons (ps_for PassesOwn.never rfl (pi_zip (by rfl) T.b_zip (pa_cons (pv 0) (pa_cons (pv 1) pa_nil))) (tupa (n := 2) (K := K) (by rfl) rfl (pgs_cons (pg_name (i := 3) sc_dot.nd rfl (by first | exact Or.inl rfl | exact Or.inr rfl)) (pgs_cons (pg_name (i := 4) sc_dot.nd rfl (by first | exact Or.inl rfl | exact Or.inr rfl)) pgs_nil))) (pss_one (ps_set (i := 2) sc_dot.nd rfl (by first | exact Or.inl rfl | exact Or.inr rfl) (pe_call (ok_plus T) (hr.mono (by decide)) (by rfl) T.g_plus T.k_plus T.p_plus .nil pass0 (pa_cons (pv 2) (pa_cons (pe_call (ok_times T) (hr.mono (by decide)) (by rfl) T.g_times T.k_times T.p_times .nil pass0 (pa_cons (pv 3) (pa_cons (pv 4) pa_nil))) pa_nil))))))
      (pss_one (ps_ret (pv 2))))), ?_⟩
    try dsimp only [cxK, cxw, cxprog]
    walk_at "go"
    rename_i S1 H1 v1 W1 hS1 hv1
    have hv1' : Dp K S1 v1 (qD (sm 0 fun j => nth r (j : Int) * nth s (j : Int))) := hv1
    refine x_forZ (S := S1) (xs := r) (ys := s) (f := qD) (h := qD) (by walk_at "is") (by walk_at "is") hl
      (fun i σ' H' => ∃ (S' : Hp) (f : V) (z3 z4 : Option V), σ' = [some x, some y, some f, z3, z4] ∧ Wd K S' H' O ∧ Same S1 S' ∧ Dp K S' f (qD (sm i fun j => nth r (j : Int) * nth s (j : Int))))
      ⟨S1, _, _, _, rfl, W1, Same.refl _, hv1'⟩ (fun i σ' H' ⟨S', f, z3, z4, _, W', hS', _⟩ => hS'.trans W'.sub) ?_ ?_
    · rintro i z w σ' H' T hz hw ⟨S', f, z3, z4, rfl, W', hS', hf⟩ hT
      have hi : i < r.length := (List.getElem?_eq_some_iff.mp hz).1
      have ez := nth_nat hz
      have ew := nth_nat hw
      obtain ⟨b1, b2⟩ := he i hi
      refine kn_tup fun u hu => kn_tup fun v hv => ?_
      have W2 := W'.new (o := .tup [u, v]) hT
      have hS2 := same_new (o := .tup [u, v]) (W'.frS hT)
      rw [← ez] at hu
      rw [← ew] at hv
      walk_at "go"
      refine .mk W2 (by walk_at "is") (by walk_at "is") (b1.mono (by decide)) (b2.mono (by decide)) (fun S3 H3 v3 W3 hS3 hv3 => ?_)
      walk_at "go"
      refine .mk W3 (by walk_at "is") hv3 (hs i (by omega)) ((bq_mul b1 b2).mono (by decide)) (fun S4 H4 v4 W4 hS4 hv4 => ?_)
      walk_at "go"
      exact ⟨S4, v4, _, _, rfl, W4, by walk_at "same", hv4⟩
    · rintro σ' H' ⟨S', f, z3, z4, rfl, W', hS', hf⟩
      walk_at "go"
      exact k S' H' f W' (by walk_at "same") hf
end
section
variable {P : Program} {w : World} {K : PySem.W.Frag} {mg : Str → Option Value} {base : Heap} {d : Ad}
inductive Sp_keeps (K : PySem.W.Frag) : List V → Hp → VK → XK → Prop
  | mk {S : Hp} {O : List (Addr × HO)} {A : List (List Rat)} {lim p : List Rat} {x y z : V} {H : Hp} {Q : VK} {E : XK} (W : Wd K S H O) (h1 : Dp K S x (tabQ A)) (h2 : Dp K S y (rowQ lim)) (h3 : Dp K S z (rowQ p)) (hA : A.length ≤ 1000) (hl : lim.length = A.length) (hr : ∀ r ∈ A, r.length = p.length) (h7 : p.length ≤ 1000)
    (b1 : ∀ r ∈ A, ∀ q ∈ r, Bq 2000 q) (b2 : ∀ q ∈ lim, Bq 4000 q) (b3 : ∀ q ∈ p, Bq 2000 q) (hs : ∀ r ∈ A, ∀ t, t ≤ p.length → Bq 4000 (sm t fun j => nth r (j : Int) * nth p (j : Int)))
    (k : ∀ S' H', Wd K S' H' O → Same S S' → Q (.bl (keptB A lim p)) H') : Sp_keeps K [x, y, z] H Q E
theorem ok_keeps (T : Txt K mg d) : FnOk P w K mg base CX0 6 d.a_keeps d.f_keeps ["rows", "limits", "parts"] (Sp_keeps K) := by
  refine T.F_keeps.ok sc_keeps (fun vs H Q E h => ?_) (fun cdv A outer s H vs Q E hr h => ?_)
  · cases h; rfl
  · have hu := hu_of hr
    obtain ⟨W, h1, h2, h3, hA, hl, hrr, h7, b1, b2, b3, hs, k⟩ := h
    rename_i S O A lim p x y z
    have hN0 : Dp K S (.ref d.o_NOUGHT) (qD 0) := dp_const T.l_NOUGHT
    refine ⟨_, (pss_cons (ps_if (pt_val (pe_callB (anya (K := K) (by rfl) rfl) (by rfl) T.b_any (by decide +kernel) (pa_cons (pe_lc (own := [("number", 3)]) rfl sc_keeps.nd (pi_list (pv 2)) (blkOk_by (by first | decide +kernel | exact Eq.refl true)) (fun _ _ _ _ _ => pg_name (i := 3) sc_keeps.nd rfl (by first | exact Or.inl rfl | exact Or.inr rfl)) (fun _ _ _ _ _ => pts_nil) (fun _ _ _ _ _ => (pe_call (ok_is_less T) (hr.mono (by decide)) (by rfl) T.g_is_less T.k_is_less T.p_is_less .nil pass0 (pa_cons (pv 3) (pa_cons (pe_glob (v := .ref d.o_NOUGHT) (by rfl) T.g_NOUGHT rfl) pa_nil))))) pa_nil))) (pss_one (ps_ret pe_bl)) pss_nil)
      (pss_one (ps_ret (pe_not (pe_callB (anya (K := K) (by rfl) rfl) (by rfl) T.b_any (by decide +kernel) (pa_cons (pe_lc (own := [("k", 4)]) rfl sc_keeps.nd (pi_range1 (by rfl) T.b_range (pa_cons (pe_callB (lena (K := K) (by rfl)) (by rfl) T.b_len (by decide +kernel) (pa_cons (pv 0) pa_nil)) pa_nil)) (blkOk_by (by first | decide +kernel | exact Eq.refl true)) (fun _ _ _ _ _ => pg_name (i := 4) sc_keeps.nd rfl (by first | exact Or.inl rfl | exact Or.inr rfl)) (fun _ _ _ _ _ => pts_nil) (fun _ _ _ _ _ => (pe_call (ok_is_less T) (hr.mono (by decide)) (by rfl) T.g_is_less T.k_is_less T.p_is_less .nil pass0 (pa_cons (pe_ix (ixa (K := K) (by rfl)) (pv 1) (pv 4) (fun _ _ => rfl)) (pa_cons (pe_call (ok_dot T) (hr.mono (by decide)) (by rfl) T.g_dot T.k_dot T.p_dot .nil pass0 (pa_cons (pe_ix (ixa (K := K) (by rfl)) (pv 0) (pv 4) (fun _ _ => rfl)) (pa_cons (pv 2) pa_nil))) pa_nil))))) pa_nil)))))), ?_⟩
    try dsimp only [cxK, cxw, cxprog]
    walk_at "go"
    refine lc_map PyData.bool (fun q : Rat => decide (q < 0)) W h3 (by omega) (fun q S' H' R acc N hq W' hS E => kn_tup fun u hu => ?_) (fun S1 H1 v1 W1 hS1 hv1 => ?_)
    · walk_at "go"
      refine .mk (b := 0) W' hu (dp_mono hS hN0) ((b3 q hq).mono (by decide)) (bq_zero (by decide)) ?_
      walk_at "go"
      walk_at "ly"
    walk_at "go"
    refine x_ite (fun hb => ?_) (fun hb => ?_)
    · walk_at "go"
      rw [← kept_neg hb]
      exact k S1 H1 W1 hS1
    have lA : ((A.map rowQ).length : Int) = (A.length : Nat) := by rw [List.length_map]
    have h1' := dp_mono hS1 h1
    have h2' := dp_mono hS1 h2
    have h3' := dp_mono hS1 h3
    walk_at "go"
    rw [lA]
    refine lcr_map PyData.bool (fun k : Nat => decide (nth lim (k : Int) < sm p.length (fun j => ent A k j * nth p (j : Int)))) W1 ⟨by omega, by omega⟩ (fun i S' H' R acc N hi W' hS E => ?_) (fun S2 H2 v2 W2 hS2 hv2 => ?_)
    · have hi' : i < A.length := by omega
      have hAi := nth_mem (xs := A) (i := (i : Int)) (by omega) (by omega)
      have hLi := nth_mem (xs := lim) (i := (i : Int)) (by omega) (by omega)
      have eL := hrr _ hAi
      have h1'' := dp_mono hS h1'
      have h2'' := dp_mono hS h2'
      have h3'' := dp_mono hS h3'
      walk_at "go"
      rename_i u1 hu1 u2 hu2
      refine .mk W' hu2 h3'' eL (fun j hj => ⟨b1 _ hAi _ (nth_mem (by omega) (by omega)), b3 _ (nth_mem (by omega) (by omega))⟩) (fun t ht => hs _ hAi t (by omega)) (fun S3 H3 v3 W3 hS3 hv3 => ?_)
      rw [eL] at hv3
      walk_at "go"
      have b4 := hs _ hAi p.length (Nat.le_refl _)
      refine .mk W3 (dp_mono hS3 hu1) hv3 (b2 _ hLi) b4 ?_
      walk_at "ly"
    rw [Int.toNat_natCast] at hv2
    walk_at "go"
    rw [kept_pos hb]
    exact k S2 H2 W2 (by walk_at "same")
end
section
variable {P : Program} {w : World} {K : PySem.W.Frag} {mg : Str → Option Value} {base : Heap} {d : Ad}
theorem pila {X : Cx} {K : PySem.W.Frag} {tg l : Expr} {tl : TE} (ek : X.K = K) (h : PE X l tl) : PI X tg l (iList K tl) := ek ▸ pi_list h
inductive Sp_turned (K : PySem.W.Frag) : List V → Hp → VK → XK → Prop
  | mk {S : Hp} {O : List (Addr × HO)} {A : List (List Rat)} {n : Nat} {i : Int} {x : V} {H : Hp} {Q : VK} {E : XK} (W : Wd K S H O) (h : Dp K S x (tabQ A)) (hA : A.length ≤ 1000) (ei : i = (n : Int)) (hn : n ≤ 1000) (hr : ∀ r ∈ A, r.length = n)
    (k : ∀ S' H' v, Wd K S' H' O → Same S S' → Dp K S' v (tabQ ((List.range n).map fun j : Nat => A.map fun r => nth r (j : Int))) → Q v H') : Sp_turned K [x, .int i] H Q E
theorem ok_turned (T : Txt K mg d) : FnOk P w K mg base CX0 1 d.a_turned d.f_turned ["rows", "wide"] (Sp_turned K) := by
  refine T.F_turned.ok sc_turned (fun vs H Q E h => ?_) (fun cdv A outer s H vs Q E hr h => ?_)
  · cases h; rfl
  · have hu := hu_of hr
    obtain ⟨W, h, hA, ei, hn, hrr, k⟩ := h
    rename_i S O A n i x
    subst ei
    refine ⟨_, (pss_one (ps_ret (pe_lc (own := [("k", 2)]) rfl sc_turned.nd (pi_range1 (by rfl) T.b_range (pa_cons (pv 1) pa_nil)) (blkOk_by (by first | decide +kernel | exact Eq.refl true)) (fun _ _ _ _ _ => pg_name (i := 2) sc_turned.nd rfl (by first | exact Or.inl rfl | exact Or.inr rfl)) (fun _ _ _ _ _ => pts_nil) (fun _ _ _ _ _ => (pe_lc (own := [("row", 3)]) rfl sc_turned.nd (pila (K := K) (by rfl) (pv 0)) (blkOk_by (by first | decide +kernel | exact Eq.refl true)) (fun _ _ _ _ _ => pg_name (i := 3) sc_turned.nd rfl (by first | exact Or.inl rfl | exact Or.inr rfl)) (fun _ _ _ _ _ => pts_nil) (fun _ _ _ _ _ => (pe_ix (ixa (K := K) (by rfl)) (pv 3) (pv 2) (fun _ _ => rfl)))))))), ?_⟩
    try dsimp only [cxK, cxw, cxprog]
    walk_at "go"
    refine lcr_map rowQ (fun j : Nat => A.map fun r => nth r (j : Int)) W ⟨by omega, by omega⟩ (fun j S' H' R acc N hj W' hS E => ?_) (fun S1 H1 v1 W1 hS1 hv1 => ?_)
    · have h' := dp_mono hS h
      walk_at "go"
      refine lc_map qD (fun r : List Rat => nth r (j : Int)) W' h' (by omega) (fun r S2 H2 R2 acc2 N2 hm W2 hS2 E2 => kn_lst fun u hu => ?_) (fun S2 H2 v2 W2 hS2 hv2 => ?_)
      · have hjr := hrr r hm
        walk_at "go"
        walk_at "ly"
      · walk_at "ly"
    rw [Int.toNat_natCast] at hv1
    exact k S1 H1 v1 W1 hS1 hv1
end
section
variable {P : Program} {w : World} {K : PySem.W.Frag} {mg : Str → Option Value} {base : Heap} {d : Ad}
inductive Sp_are_prices_of (K : PySem.W.Frag) : List V → Hp → VK → XK → Prop
  | mk {S : Hp} {O : List (Addr × HO)} {A : List (List Rat)} {g p : List Rat} {x y z : V} {H : Hp} {Q : VK} {E : XK} (W : Wd K S H O) (h1 : Dp K S x (tabQ A)) (h2 : Dp K S y (rowQ g)) (h3 : Dp K S z (rowQ p)) (hA : A.length ≤ 1000) (hl : p.length = A.length) (hr : ∀ r ∈ A, r.length = g.length) (h7 : g.length ≤ 1000)
    (b1 : ∀ r ∈ A, ∀ q ∈ r, Bq 2000 q) (b2 : ∀ q ∈ g, Bq 4000 q) (b3 : ∀ q ∈ p, Bq 2000 q) (hs : ∀ i : Nat, i < g.length → ∀ t, t ≤ p.length → Bq 4000 (sm t fun k => ent A k i * nth p (k : Int)))
    (k : ∀ S' H', Wd K S' H' O → Same S S' → Q (.bl (paysB A g p)) H') : Sp_are_prices_of K [x, y, z] H Q E
theorem ok_are_prices_of (T : Txt K mg d) : FnOk P w K mg base CX0 6 d.a_are_prices_of d.f_are_prices_of ["rows", "goal", "prices"] (Sp_are_prices_of K) := by
  refine T.F_are_prices_of.ok sc_are_prices_of (fun vs H Q E h => ?_) (fun cdv A outer s H vs Q E hr h => ?_)
  · cases h; rfl
  · have hu := hu_of hr
    obtain ⟨W, h1, h2, h3, hA, hl, hrr, h7, b1, b2, b3, hs, k⟩ := h
    rename_i S O A g p x y z
    have hN0 : Dp K S (.ref d.o_NOUGHT) (qD 0) := dp_const T.l_NOUGHT
    refine ⟨_, (pss_cons (ps_if (pt_val (pe_callB (anya (K := K) (by rfl) rfl) (by rfl) T.b_any (by decide +kernel) (pa_cons (pe_lc (own := [("price", 4)]) rfl sc_are_prices_of.nd (pi_list (pv 2)) (blkOk_by (by first | decide +kernel | exact Eq.refl true)) (fun _ _ _ _ _ => pg_name (i := 4) sc_are_prices_of.nd rfl (by first | exact Or.inl rfl | exact Or.inr rfl)) (fun _ _ _ _ _ => pts_nil) (fun _ _ _ _ _ => (pe_call (ok_is_less T) (hr.mono (by decide)) (by rfl) T.g_is_less T.k_is_less T.p_is_less .nil pass0 (pa_cons (pv 4) (pa_cons (pe_glob (v := .ref d.o_NOUGHT) (by rfl) T.g_NOUGHT rfl) pa_nil))))) pa_nil))) (pss_one (ps_ret pe_bl)) pss_nil)
      (pss_cons (ps_set (i := 3) sc_are_prices_of.nd rfl (by first | exact Or.inl rfl | exact Or.inr rfl) (pe_call (ok_turned T) (hr.mono (by decide)) (by rfl) T.g_turned T.k_turned T.p_turned .nil pass0 (pa_cons (pv 0) (pa_cons (pe_callB (lena (K := K) (by rfl)) (by rfl) T.b_len (by decide +kernel) (pa_cons (pv 1) pa_nil)) pa_nil))))
      (pss_one (ps_ret (pe_not (pe_callB (anya (K := K) (by rfl) rfl) (by rfl) T.b_any (by decide +kernel) (pa_cons (pe_lc (own := [("k", 5)]) rfl sc_are_prices_of.nd (pi_range1 (by rfl) T.b_range (pa_cons (pe_callB (lena (K := K) (by rfl)) (by rfl) T.b_len (by decide +kernel) (pa_cons (pv 1) pa_nil)) pa_nil)) (blkOk_by (by first | decide +kernel | exact Eq.refl true)) (fun _ _ _ _ _ => pg_name (i := 5) sc_are_prices_of.nd rfl (by first | exact Or.inl rfl | exact Or.inr rfl)) (fun _ _ _ _ _ => pts_nil) (fun _ _ _ _ _ => (pe_call (ok_is_less T) (hr.mono (by decide)) (by rfl) T.g_is_less T.k_is_less T.p_is_less .nil pass0 (pa_cons (pe_call (ok_dot T) (hr.mono (by decide)) (by rfl) T.g_dot T.k_dot T.p_dot .nil pass0 (pa_cons (pe_ix (ixa (K := K) (by rfl)) (pv 3) (pv 5) (fun _ _ => rfl)) (pa_cons (pv 2) pa_nil))) (pa_cons (pe_ix (ixa (K := K) (by rfl)) (pv 1) (pv 5) (fun _ _ => rfl)) pa_nil))))) pa_nil))))))), ?_⟩
    try dsimp only [cxK, cxw, cxprog]
    walk_at "go"
    refine lc_map PyData.bool (fun q : Rat => decide (q < 0)) W h3 (by omega) (fun q S' H' R acc N hq W' hS E => kn_tup fun u hu => ?_) (fun S1 H1 v1 W1 hS1 hv1 => ?_)
    · walk_at "go"
      refine .mk (b := 0) W' hu (dp_mono hS hN0) ((b3 q hq).mono (by decide)) (bq_zero (by decide)) ?_
      walk_at "ly"
    walk_at "go"
    refine x_ite (fun hb => ?_) (fun hb => ?_)
    · walk_at "go"
      rw [← pays_neg hb]
      exact k S1 H1 W1 hS1
    have lg : ((g.map qD).length : Int) = (g.length : Nat) := by rw [List.length_map]
    have h1' := dp_mono hS1 h1
    have h2' := dp_mono hS1 h2
    have h3' := dp_mono hS1 h3
    walk_at "go"
    refine .mk (n := g.length) W1 h1' (by omega) lg (by omega) hrr (fun S2 H2 v2 W2 hS2 hv2 => ?_)
    have h2'' := dp_mono hS2 h2'
    have h3'' := dp_mono hS2 h3'
    walk_at "go"
    rw [lg]
    refine lcr_map PyData.bool (fun j : Nat => decide (sm p.length (fun k => ent A k j * nth p (k : Int)) < nth g (j : Int))) W2 ⟨by omega, by omega⟩ (fun i S' H' R acc N hi W' hS E => ?_) (fun S3 H3 v3 W3 hS3 hv3 => ?_)
    · have hi' : i < g.length := by omega
      have hGi := nth_mem (xs := g) (i := (i : Int)) (by omega) (by omega)
      have q2 := dp_mono hS h2''
      have q3 := dp_mono hS h3''
      have q4 := dp_mono hS hv2
      have ec : nth ((List.range g.length).map fun j : Nat => A.map fun r => nth r (j : Int)) (i : Int) = A.map fun r => nth r (i : Int) := by
        rw [nthN_map (by rw [List.length_range]; exact hi'), nth_nat (List.getElem?_range hi')]
      have en : ∀ j : Nat, j < A.length → nth (A.map fun r => nth r (i : Int)) (j : Int) = ent A j i := fun j hj => nthN_map hj
      walk_at "go"
      rename_i u hu
      rw [ec] at hu
      refine .mk W' hu q3 (by rw [List.length_map]; omega) (fun j hj => ?_) (fun t ht => ?_) (fun S4 H4 v4 W4 hS4 hv4 => ?_)
      · rw [List.length_map] at hj
        rw [en j hj]
        have hAj := nth_mem (xs := A) (i := (j : Int)) (by omega) (by omega)
        exact ⟨b1 _ hAj _ (nth_mem (by omega) (by rw [hrr _ hAj]; omega)), b3 _ (nth_mem (by omega) (by omega))⟩
      · rw [List.length_map] at ht
        rw [sm_congr fun j hj => by rw [en j (by omega)]]
        exact hs i hi' t (by omega)
      rw [List.length_map, ← hl, sm_congr fun j hj => by rw [en j (by omega)]] at hv4
      walk_at "go"
      refine .mk W4 hv4 (by assumption) (hs i hi' p.length (Nat.le_refl _)) (b2 _ hGi) ?_
      walk_at "ly"
    rw [Int.toNat_natCast] at hv3
    walk_at "go"
    rw [pays_pos hb]
    exact k S3 H3 W3 (by walk_at "same")
end
section
variable {P : Program} {w : World} {K : PySem.W.Frag} {mg : Str → Option Value} {base : Heap} {d : Ad}
inductive Sp_law_order (K : PySem.W.Frag) : List V → Hp → VK → XK → Prop
  | mk {S : Hp} {O : List (Addr × HO)} {t u t' u' : Int} {a b : Rat} {x y : V} {H : Hp} {Q : VK} {E : XK} (W : Wd K S H O) (h1 : Dp K S x (.tuple [.int t, .int u])) (h2 : Dp K S y (.tuple [.int t', .int u'])) (p1 : PR t u a) (p2 : PR t' u' b)
    (k : Q (.int (ordI a b)) H) : Sp_law_order K [x, y] H Q E
theorem ok_law_order (T : Txt K mg d) : FnOk P w K mg base CX0 1 d.a_law_order d.f_law_order ["_law_one", "_law_other"] (Sp_law_order K) := by
  refine T.F_law_order.ok sc_law_order (fun vs H Q E h => ?_) (fun cdv A outer s H vs Q E hr h => ?_)
  · cases h; rfl
  · have hu := hu_of hr
    obtain ⟨W, h1, h2, p1, p2, k⟩ := h
    rename_i S O t u t' u' a b x y
    have c1 : CMulW t u' := cmulw_of p1.bt p2.bu
    have c2 : CMulW t' u := cmulw_of p2.bt p1.bu
    rw [← pr_ord p1 p2] at k
    refine ⟨_, (pss_cons (ps_set (i := 2) sc_law_order.nd rfl (by first | exact Or.inl rfl | exact Or.inr rfl) (pe_op op_sub (pe_op op_mulW (pe_ix (ixa (K := K) (by rfl)) (pv 0) pe_int (fun _ _ => rfl)) (pe_ix (ixa (K := K) (by rfl)) (pv 1) pe_int (fun _ _ => rfl))) (pe_op op_mulW (pe_ix (ixa (K := K) (by rfl)) (pv 1) pe_int (fun _ _ => rfl)) (pe_ix (ixa (K := K) (by rfl)) (pv 0) pe_int (fun _ _ => rfl)))))
      (pss_one (ps_ret (pe_op op_sub (pe_callTy cl_int1 (by rfl) T.b_int (by decide +kernel) (pa_cons (pe_cmpR op_gt (pv 2) pe_int (nomark _)) pa_nil)) (pe_callTy cl_int1 (by rfl) T.b_int (by decide +kernel) (pa_cons (pe_cmpR op_lt (pv 2) pe_int (nomark _)) pa_nil)))))), ?_⟩
    try dsimp only [cxK, cxw, cxprog]
    walk_at "go"
    simpa using k
end
section
variable {P : Program} {w : World} {K : PySem.W.Frag} {mg : Str → Option Value} {base : Heap} {d : Ad}
inductive Sp_law_sum (K : PySem.W.Frag) : List V → Hp → VK → XK → Prop
  | mk {S : Hp} {O : List (Addr × HO)} {r s : List Rat} {x y : V} {H : Hp} {Q : VK} {E : XK} (W : Wd K S H O) (h1 : Dp K S x (rowQ r)) (h2 : Dp K S y (rowQ s)) (hl : r.length = s.length) (h7 : r.length ≤ 7) (b1 : ∀ q ∈ r, Bq 1300 q) (b2 : ∀ q ∈ s, Bq 1300 q)
    (k : ∀ S' H' v t u, Wd K S' H' O → Same S S' → Dp K S' v (.tuple [.int t, .int u]) → PR t u (sm r.length fun j => nth r (j : Int) * nth s (j : Int)) → Q v H') : Sp_law_sum K [x, y] H Q E
theorem ok_law_sum (T : Txt K mg d) : FnOk P w K mg base CX0 1 d.a_law_sum d.f_law_sum ["_law_row", "_law_other"] (Sp_law_sum K) := by
  refine T.F_law_sum.ok sc_law_sum (fun vs H Q E h => ?_) (fun cdv A outer s H vs Q E hr h => ?_)
  · cases h; rfl
  · have hu := hu_of hr
    obtain ⟨W, h1, h2, hl, h7, b1, b2, k⟩ := h
    rename_i S O r s x y
    refine ⟨_, (pss_cons (ps_set (i := 2) sc_law_sum.nd rfl (by first | exact Or.inl rfl | exact Or.inr rfl) pe_int)
      (pss_cons (ps_set (i := 3) sc_law_sum.nd rfl (by first | exact Or.inl rfl | exact Or.inr rfl) pe_int)
      (pss_cons (ps_for PassesOwn.never rfl (pi_zip (by rfl) T.b_zip (pa_cons (pv 0) (pa_cons (pv 1) pa_nil))) (tupa (n := 2) (K := K) (by rfl) rfl (pgs_cons (pg_name (i := 4) sc_law_sum.nd rfl (by first | exact Or.inl rfl | exact Or.inr rfl)) (pgs_cons (pg_name (i := 5) sc_law_sum.nd rfl (by first | exact Or.inl rfl | exact Or.inr rfl)) pgs_nil))) (pss_cons (ps_set (i := 2) sc_law_sum.nd rfl (by first | exact Or.inl rfl | exact Or.inr rfl) (pe_op op_add (pe_op op_mulW (pe_op op_mulW (pv 2) (pe_ix (ixa (K := K) (by rfl)) (pv 4) pe_int (fun _ _ => rfl))) (pe_ix (ixa (K := K) (by rfl)) (pv 5) pe_int (fun _ _ => rfl))) (pe_op op_mulW (pe_op op_mulW (pe_ix (ixa (K := K) (by rfl)) (pv 4) pe_int (fun _ _ => rfl)) (pe_ix (ixa (K := K) (by rfl)) (pv 5) pe_int (fun _ _ => rfl))) (pv 3))))
      (pss_one (ps_set (i := 3) sc_law_sum.nd rfl (by first | exact Or.inl rfl | exact Or.inr rfl) (pe_op op_mulW (pe_op op_mulW (pv 3) (pe_ix (ixa (K := K) (by rfl)) (pv 4) pe_int (fun _ _ => rfl))) (pe_ix (ixa (K := K) (by rfl)) (pv 5) pe_int (fun _ _ => rfl)))))))
      (pss_one (ps_ret (pe_tup (pa_cons (pv 2) (pa_cons (pv 3) pa_nil)))))))), ?_⟩
    try dsimp only [cxK, cxw, cxprog]
    walk_at "go"
    refine x_forZ (S := S) (xs := r) (ys := s) (f := qD) (h := qD) (by walk_at "is") (by walk_at "is") hl
      (fun i σ' H' => ∃ (S' : Hp) (t u : Int) (z4 z5 : Option V), σ' = [some x, some y, some (.int t), some (.int u), z4, z5] ∧ Wd K S' H' O ∧ Same S S' ∧ SumI r s i t u)
      ⟨S, 0, 1, _, _, rfl, W, Same.refl _, ⟨by decide, by rw [sm]; grind, by decide, by decide⟩⟩ (fun i σ' H' ⟨S', t, u, z4, z5, _, W', hS', _⟩ => hS'.trans W'.sub) ?_ ?_
    · rintro i z w σ' H' T0 hz hw ⟨S', t, u, z4, z5, rfl, W', hS', hI⟩ hT
      have hi : i < r.length := (List.getElem?_eq_some_iff.mp hz).1
      have ez := nth_nat hz
      have ew := nth_nat hw
      have bz := b1 z (List.mem_of_getElem? hz)
      have bw := b2 w (List.mem_of_getElem? hw)
      have h1' := hI.bt
      have h2' := hI.bu
      have hI' := sumI_step hI ez ew bz bw
      have m1 : t.natAbs < 2 ^ 30000 := Nat.lt_of_lt_of_le h1' (Nat.pow_le_pow_right (by decide) (by omega))
      have m2 : u.natAbs < 2 ^ 30000 := Nat.lt_of_lt_of_le h2' (Nat.pow_le_pow_right (by decide) (by omega))
      have m3 : (t * z.den).natAbs < 2 ^ (30000 + 1300) := mul_lt2 m1 (bqd bz)
      have m4 : (u * z.den).natAbs < 2 ^ (30000 + 1300) := mul_lt2 m2 (bqd bz)
      have m5 : (z.num * w.num).natAbs < 2 ^ (1300 + 1300) := mul_lt2 bz.1 bw.1
      have c1 : CMulW t z.den := cmulw_of m1 (bqd bz)
      have c2 : CMulW (t * z.den) w.den := cmulw_of m3 (bqd bw)
      have c3 : CMulW z.num w.num := cmulw_of bz.1 bw.1
      have c4 : CMulW (z.num * w.num) u := cmulw_of m5 m2
      have c5 : CMulW u z.den := cmulw_of m2 (bqd bz)
      have c6 : CMulW (u * z.den) w.den := cmulw_of m4 (bqd bw)
      refine kn_tup fun u1 hu1 => kn_tup fun v1 hv1 => ?_
      have W2 := W'.new (o := .tup [u1, v1]) hT
      have hS2 := same_new (o := .tup [u1, v1]) (W'.frS hT)
      clear m1 m2 m3 m4 m5 h1' h2'
      walk_at "go"
      exact ⟨_, _, _, _, _, rfl, W2, by walk_at "same", hI'⟩
    · rintro σ' H' ⟨S', t, u, z4, z5, rfl, W', hS', hI⟩
      walk_at "go"
      rename_i S3 H3 v3 W3 hS3 hv3
      exact k S3 H3 v3 t u W3 (by walk_at "same") hv3 (sumI_pr hI h7)
end
section
variable {P : Program} {w : World} {K : PySem.W.Frag} {mg : Str → Option Value} {base : Heap} {d : Ad}
inductive Sp_law_kept (K : PySem.W.Frag) : List V → Hp → VK → XK → Prop
  | mk {S : Hp} {O : List (Addr × HO)} {A : List (List Rat)} {lim p : List Rat} {x y z : V} {H : Hp} {Q : VK} {E : XK} (W : Wd K S H O) (h1 : Dp K S x (tabQ A)) (h2 : Dp K S y (rowQ lim)) (h3 : Dp K S z (rowQ p)) (hA : A.length ≤ 1000) (hl : lim.length = A.length) (hr : ∀ r ∈ A, r.length = p.length) (h7 : p.length ≤ 7)
    (b1 : ∀ r ∈ A, ∀ q ∈ r, Bq 1300 q) (b2 : ∀ q ∈ lim, Bq 1300 q) (b3 : ∀ q ∈ p, Bq 1300 q)
    (k : ∀ S' H', Wd K S' H' O → Same S S' → Q (.bl (keptB A lim p)) H') : Sp_law_kept K [x, y, z] H Q E
theorem ok_law_kept (T : Txt K mg d) : FnOk P w K mg base CX0 2 d.a_law_kept d.f_law_kept ["_law_rows", "_law_limits", "_law_parts"] (Sp_law_kept K) := by
  refine T.F_law_kept.ok sc_law_kept (fun vs H Q E h => ?_) (fun cdv A outer s H vs Q E hr h => ?_)
  · cases h; rfl
  · have hu := hu_of hr
    obtain ⟨W, h1, h2, h3, hA, hl, hrr, h7, b1, b2, b3, k⟩ := h
    rename_i S O A lim p x y z
    refine ⟨_, (pss_cons (ps_if (pt_not (pt_val (pe_callB (alla (K := K) (by rfl) rfl) (by rfl) T.b_all (by decide +kernel) (pa_cons (pe_lc (own := [("_law_part", 3)]) rfl sc_law_kept.nd (pi_list (pv 2)) (blkOk_by (by first | decide +kernel | exact Eq.refl true)) (fun _ _ _ _ _ => pg_name (i := 3) sc_law_kept.nd rfl (by first | exact Or.inl rfl | exact Or.inr rfl)) (fun _ _ _ _ _ => pts_nil) (fun _ _ _ _ _ => (pe_cmpR op_ge (pe_ix (ixa (K := K) (by rfl)) (pv 3) pe_int (fun _ _ => rfl)) pe_int (nomark _)))) pa_nil)))) (pss_one (ps_ret pe_bl)) pss_nil)
      (pss_one (ps_ret (pe_callB (alla (K := K) (by rfl) rfl) (by rfl) T.b_all (by decide +kernel) (pa_cons (pe_lc (own := [("_law_k", 4)]) rfl sc_law_kept.nd (pi_range1 (by rfl) T.b_range (pa_cons (pe_callB (lena (K := K) (by rfl)) (by rfl) T.b_len (by decide +kernel) (pa_cons (pv 0) pa_nil)) pa_nil)) (blkOk_by (by first | decide +kernel | exact Eq.refl true)) (fun _ _ _ _ _ => pg_name (i := 4) sc_law_kept.nd rfl (by first | exact Or.inl rfl | exact Or.inr rfl)) (fun _ _ _ _ _ => pts_nil) (fun _ _ _ _ _ => (pe_cmpR op_le (pe_call (ok_law_order T) (hr.mono (by decide)) (by rfl) T.g_law_order T.k_law_order T.p_law_order .nil pass0 (pa_cons (pe_call (ok_law_sum T) (hr.mono (by decide)) (by rfl) T.g_law_sum T.k_law_sum T.p_law_sum .nil pass0 (pa_cons (pe_ix (ixa (K := K) (by rfl)) (pv 0) (pv 4) (fun _ _ => rfl)) (pa_cons (pv 2) pa_nil))) (pa_cons (pe_ix (ixa (K := K) (by rfl)) (pv 1) (pv 4) (fun _ _ => rfl)) pa_nil))) pe_int (nomark _)))) pa_nil))))), ?_⟩
    try dsimp only [cxK, cxw, cxprog]
    walk_at "go"
    refine lc_map PyData.bool (fun q : Rat => decide (0 ≤ q)) W h3 (by omega) (fun q S' H' R acc N hq W' hS E => kn_tup fun u hu => ?_) (fun S1 H1 v1 W1 hS1 hv1 => ?_)
    · walk_at "go"
      rw [show decide (0 ≤ q.num) = decide (0 ≤ q) from decide_eq_decide.mpr num_nonneg']
      walk_at "ly"
    walk_at "go"
    refine x_ite (fun hb => ?_) (fun hb => ?_)
    · walk_at "go"
      rw [← kept_no hb]
      exact k S1 H1 W1 hS1
    have lA : ((A.map rowQ).length : Int) = (A.length : Nat) := by rw [List.length_map]
    have h1' := dp_mono hS1 h1
    have h2' := dp_mono hS1 h2
    have h3' := dp_mono hS1 h3
    walk_at "go"
    rw [lA]
    refine lcr_map PyData.bool (fun k : Nat => decide (sm p.length (fun j => ent A k j * nth p (j : Int)) ≤ nth lim (k : Int))) W1 ⟨by omega, by omega⟩ (fun i S' H' R acc N hi W' hS E => ?_) (fun S2 H2 v2 W2 hS2 hv2 => ?_)
    · have hi' : i < A.length := by omega
      have hAi := nth_mem (xs := A) (i := (i : Int)) (by omega) (by omega)
      have hLi := nth_mem (xs := lim) (i := (i : Int)) (by omega) (by omega)
      have eL := hrr _ hAi
      have h1'' := dp_mono hS h1'
      have h2'' := dp_mono hS h2'
      have h3'' := dp_mono hS h3'
      walk_at "go"
      rename_i u1 hu1
      refine .mk W' hu1 h3'' eL (by omega) (b1 _ hAi) b3 (fun S3 H3 v3 t3 u3 W3 hS3 hv3 p3 => ?_)
      rw [eL] at p3
      walk_at "go"
      refine .mk W3 hv3 (by assumption) p3 (pr_q ((b2 _ hLi).mono (by decide))) ?_
      walk_at "go"
      rw [show decide (ordI (sm p.length fun j => nth (nth A (i : Int)) (j : Int) * nth p (j : Int)) (nth lim (i : Int)) ≤ 0) = decide ((sm p.length fun j => ent A i j * nth p (j : Int)) ≤ nth lim (i : Int)) from decide_eq_decide.mpr ord_le]
      walk_at "ly"
    rw [Int.toNat_natCast] at hv2
    walk_at "go"
    rw [← kept_yes hb]
    exact k S2 H2 W2 (by walk_at "same")
end
section
variable {P : Program} {w : World} {K : PySem.W.Frag} {mg : Str → Option Value} {base : Heap} {d : Ad}
inductive Sp_law_column (K : PySem.W.Frag) : List V → Hp → VK → XK → Prop
  | mk {S : Hp} {O : List (Addr × HO)} {A : List (List Rat)} {i : Int} {j : Nat} {x : V} {H : Hp} {Q : VK} {E : XK} (W : Wd K S H O) (h : Dp K S x (tabQ A)) (hl : A.length ≤ 1000) (ei : i = (j : Int)) (hj : ∀ r ∈ A, j < r.length)
    (k : ∀ S' H' v, Wd K S' H' O → Same S S' → Dp K S' v (rowQ (A.map fun r => nth r (j : Int))) → Q v H') : Sp_law_column K [x, .int i] H Q E
theorem ok_law_column (T : Txt K mg d) : FnOk P w K mg base CX0 1 d.a_law_column d.f_law_column ["_law_rows", "_law_k"] (Sp_law_column K) := by
  refine T.F_law_column.ok sc_law_column (fun vs H Q E h => ?_) (fun cdv A outer s H vs Q E hr h => ?_)
  · cases h; rfl
  · have hu := hu_of hr
    obtain ⟨W, h, hl, ei, hj, k⟩ := h
    rename_i S O A i j x
    subst ei
    refine ⟨_, (pss_one (ps_ret (pe_lc (own := [("_law_row", 2)]) rfl sc_law_column.nd (pi_list (pv 0)) (blkOk_by (by first | decide +kernel | exact Eq.refl true)) (fun _ _ _ _ _ => pg_name (i := 2) sc_law_column.nd rfl (by first | exact Or.inl rfl | exact Or.inr rfl)) (fun _ _ _ _ _ => pts_nil) (fun _ _ _ _ _ => (pe_ix (ixa (K := K) (by rfl)) (pv 2) (pv 1) (fun _ _ => rfl)))))), ?_⟩
    try dsimp only [cxK, cxw, cxprog]
    walk_at "go"
    refine lc_map qD (fun r : List Rat => nth r (j : Int)) W h (by omega) (fun r S' H' R acc N hr W' hS E => kn_lst fun u hu => ?_) (fun S1 H1 v1 W1 hS1 hv1 => ?_)
    · have hjr := hj r hr
      walk_at "go"
      walk_at "ly"
    exact k S1 H1 v1 W1 hS1 hv1
end
section
variable {P : Program} {w : World} {K : PySem.W.Frag} {mg : Str → Option Value} {base : Heap} {d : Ad}
inductive Sp_law_pays (K : PySem.W.Frag) : List V → Hp → VK → XK → Prop
  | mk {S : Hp} {O : List (Addr × HO)} {A : List (List Rat)} {g p : List Rat} {x y z : V} {H : Hp} {Q : VK} {E : XK} (W : Wd K S H O) (h1 : Dp K S x (tabQ A)) (h2 : Dp K S y (rowQ g)) (h3 : Dp K S z (rowQ p)) (hA : A.length ≤ 7) (hl : p.length = A.length) (hr : ∀ r ∈ A, r.length = g.length) (h7 : g.length ≤ 1000)
    (b1 : ∀ r ∈ A, ∀ q ∈ r, Bq 1300 q) (b2 : ∀ q ∈ g, Bq 1300 q) (b3 : ∀ q ∈ p, Bq 1300 q)
    (k : ∀ S' H', Wd K S' H' O → Same S S' → Q (.bl (paysB A g p)) H') : Sp_law_pays K [x, y, z] H Q E
theorem ok_law_pays (T : Txt K mg d) : FnOk P w K mg base CX0 2 d.a_law_pays d.f_law_pays ["_law_rows", "_law_goal", "_law_prices"] (Sp_law_pays K) := by
  refine T.F_law_pays.ok sc_law_pays (fun vs H Q E h => ?_) (fun cdv A outer s H vs Q E hr h => ?_)
  · cases h; rfl
  · have hu := hu_of hr
    obtain ⟨W, h1, h2, h3, hA, hl, hrr, h7, b1, b2, b3, k⟩ := h
    rename_i S O A g p x y z
    refine ⟨_, (pss_cons (ps_if (pt_not (pt_val (pe_callB (alla (K := K) (by rfl) rfl) (by rfl) T.b_all (by decide +kernel) (pa_cons (pe_lc (own := [("_law_price", 3)]) rfl sc_law_pays.nd (pi_list (pv 2)) (blkOk_by (by first | decide +kernel | exact Eq.refl true)) (fun _ _ _ _ _ => pg_name (i := 3) sc_law_pays.nd rfl (by first | exact Or.inl rfl | exact Or.inr rfl)) (fun _ _ _ _ _ => pts_nil) (fun _ _ _ _ _ => (pe_cmpR op_ge (pe_ix (ixa (K := K) (by rfl)) (pv 3) pe_int (fun _ _ => rfl)) pe_int (nomark _)))) pa_nil)))) (pss_one (ps_ret pe_bl)) pss_nil)
      (pss_one (ps_ret (pe_callB (alla (K := K) (by rfl) rfl) (by rfl) T.b_all (by decide +kernel) (pa_cons (pe_lc (own := [("_law_k", 4)]) rfl sc_law_pays.nd (pi_range1 (by rfl) T.b_range (pa_cons (pe_callB (lena (K := K) (by rfl)) (by rfl) T.b_len (by decide +kernel) (pa_cons (pv 1) pa_nil)) pa_nil)) (blkOk_by (by first | decide +kernel | exact Eq.refl true)) (fun _ _ _ _ _ => pg_name (i := 4) sc_law_pays.nd rfl (by first | exact Or.inl rfl | exact Or.inr rfl)) (fun _ _ _ _ _ => pts_nil) (fun _ _ _ _ _ => (pe_cmpR op_ge (pe_call (ok_law_order T) (hr.mono (by decide)) (by rfl) T.g_law_order T.k_law_order T.p_law_order .nil pass0 (pa_cons (pe_call (ok_law_sum T) (hr.mono (by decide)) (by rfl) T.g_law_sum T.k_law_sum T.p_law_sum .nil pass0 (pa_cons (pe_call (ok_law_column T) (hr.mono (by decide)) (by rfl) T.g_law_column T.k_law_column T.p_law_column .nil pass0 (pa_cons (pv 0) (pa_cons (pv 4) pa_nil))) (pa_cons (pv 2) pa_nil))) (pa_cons (pe_ix (ixa (K := K) (by rfl)) (pv 1) (pv 4) (fun _ _ => rfl)) pa_nil))) pe_int (nomark _)))) pa_nil))))), ?_⟩
    try dsimp only [cxK, cxw, cxprog]
    walk_at "go"
    refine lc_map PyData.bool (fun q : Rat => decide (0 ≤ q)) W h3 (by omega) (fun q S' H' R acc N hq W' hS E => kn_tup fun u hu => ?_) (fun S1 H1 v1 W1 hS1 hv1 => ?_)
    · walk_at "go"
      rw [show decide (0 ≤ q.num) = decide (0 ≤ q) from decide_eq_decide.mpr num_nonneg']
      walk_at "ly"
    walk_at "go"
    refine x_ite (fun hb => ?_) (fun hb => ?_)
    · walk_at "go"
      rw [← pays_no hb]
      exact k S1 H1 W1 hS1
    have lg : ((g.map qD).length : Int) = (g.length : Nat) := by rw [List.length_map]
    have h1' := dp_mono hS1 h1
    have h2' := dp_mono hS1 h2
    have h3' := dp_mono hS1 h3
    walk_at "go"
    rw [lg]
    refine lcr_map PyData.bool (fun j : Nat => decide (nth g (j : Int) ≤ sm p.length (fun k => ent A k j * nth p (k : Int)))) W1 ⟨by omega, by omega⟩ (fun i S' H' R acc N hi W' hS E => ?_) (fun S2 H2 v2 W2 hS2 hv2 => ?_)
    · have hi' : i < g.length := by omega
      have hLi := nth_mem (xs := g) (i := (i : Int)) (by omega) (by omega)
      have h1'' := dp_mono hS h1'
      have h2'' := dp_mono hS h2'
      have h3'' := dp_mono hS h3'
      walk_at "go"
      refine .mk W' h1'' (by omega) rfl (fun r hr => by rw [hrr r hr]; exact hi') (fun S3 H3 v3 W3 hS3 hv3 => ?_)
      walk_at "go"
      refine .mk W3 hv3 (dp_mono hS3 h3'') (by rw [List.length_map]; omega) (by rw [List.length_map]; omega) (fun q hq => ?_) b3 (fun S4 H4 v4 t4 u4 W4 hS4 hv4 p4 => ?_)
      · obtain ⟨r, hr, rfl⟩ := List.mem_map.mp hq
        exact b1 r hr _ (nth_mem (by omega) (by rw [hrr r hr]; omega))
      have e4 : sm (A.map fun r => nth r (i : Int)).length (fun j => nth (A.map fun r => nth r (i : Int)) (j : Int) * nth p (j : Int)) = sm p.length (fun k => ent A k i * nth p (k : Int)) := by
        rw [List.length_map, ← hl]
        exact sm_congr fun j hj => by rw [nthN_map (by omega)]
      rw [e4] at p4
      walk_at "go"
      refine .mk W4 hv4 (by assumption) p4 (pr_q ((b2 _ hLi).mono (by decide))) ?_
      walk_at "go"
      rw [show decide (0 ≤ ordI (sm p.length fun k => ent A k i * nth p (k : Int)) (nth g (i : Int))) = decide (nth g (i : Int) ≤ (sm p.length fun k => ent A k i * nth p (k : Int))) from decide_eq_decide.mpr ord_ge]
      walk_at "ly"
    rw [Int.toNat_natCast] at hv2
    walk_at "go"
    rw [← pays_yes hb]
    exact k S2 H2 W2 (by walk_at "same")
end
section
variable {P : Program} {w : World} {K : PySem.W.Frag} {mg : Str → Option Value} {base : Heap} {d : Ad}
abbrev progD (q : List (List Rat) × List Rat × List Rat) : PyData := .tuple [tabQ q.1, rowQ q.2.1, rowQ q.2.2]
theorem parts_turn {ns : List Int} {b : Int} {n : Nat} {s : List Rat} (hl : s.length = n) (h : Com 1300 s) : PartsOk n (turnR ns b s) := by
  unfold turnR
  split
  · exact parts_set hl h (tbl_fr _ (lawRat_mem _)).1
  · exact parts_com hl h
inductive Sp_law (K : PySem.W.Frag) : List V → Hp → VK → XK → Prop
  | mk {ns : List Int} {x : V} {H : Hp} {Q : VK} {E : XK} (h : Dp K H x (.list (ns.map PyData.int))) (k : ∀ H', Q (.bl true) H') : Sp_law K [x] H Q E
theorem ok_law (T : Txt K mg d) : FnOk P w K mg base CX0 9 d.a_law d.f_law ["_law_script"] (Sp_law K) := by
  refine T.F_law.ok sc_law (fun vs H Q E h => ?_) (fun cdv A outer s H vs Q E hr h => ?_)
  · cases h; rfl
  · have hu := hu_of hr
    obtain ⟨h, k⟩ := h
    rename_i ns x
    have W := Wd.all (K := K) H
    have GP := p_good ns
    refine ⟨_, (pss_cons (ps_set (i := 1) sc_law.nd rfl (by first | exact Or.inl rfl | exact Or.inr rfl) (pe_call (ok_law_program T) (hr.mono (by decide)) (by rfl) T.g_law_program T.k_law_program T.p_law_program .nil pass0 (pa_cons (pv 0) pa_nil)))
      (pss_cons (ps_set (i := 2) sc_law.nd rfl (by first | exact Or.inl rfl | exact Or.inr rfl) (pe_ix (ixa (K := K) (by rfl)) (pv 1) pe_int (fun _ _ => rfl)))
      (pss_cons (ps_set (i := 3) sc_law.nd rfl (by first | exact Or.inl rfl | exact Or.inr rfl) (pe_ix (ixa (K := K) (by rfl)) (pv 1) pe_int (fun _ _ => rfl)))
      (pss_cons (ps_set (i := 4) sc_law.nd rfl (by first | exact Or.inl rfl | exact Or.inr rfl) (pe_ix (ixa (K := K) (by rfl)) (pv 1) pe_int (fun _ _ => rfl)))
      (pss_cons (ps_set (i := 5) sc_law.nd rfl (by first | exact Or.inl rfl | exact Or.inr rfl) (pe_tup (pa_cons pe_int (pa_cons pe_int pa_nil))))
      (pss_cons (ps_set (i := 6) sc_law.nd rfl (by first | exact Or.inl rfl | exact Or.inr rfl) (pe_op op_mod (pe_call (ok_law_mix T) (hr.mono (by decide)) (by rfl) T.g_law_mix T.k_law_mix T.p_law_mix .nil pass0 (pa_cons (pv 0) (pa_cons pe_int pa_nil))) pe_int))
      (pss_cons (ps_if (pt_cmpR op_eq (pv 6) pe_int (nomark _)) (pss_cons (ps_set (i := 7) sc_law.nd rfl (by first | exact Or.inl rfl | exact Or.inr rfl) (pe_op op_catS (pv 2) (pe_lst (pa_cons (pe_op op_rep (pe_lst (pa_cons (pv 5) pa_nil)) (pe_op op_add (pe_callB (lena (K := K) (by rfl)) (by rfl) T.b_len (by decide +kernel) (pa_cons (pv 4) pa_nil)) pe_int)) pa_nil))))
      (pss_cons (ps_set (i := 8) sc_law.nd rfl (by first | exact Or.inl rfl | exact Or.inr rfl) (pe_lst (pa_cons (pe_tup (pa_cons (pv 2) (pa_cons (pv 3) (pa_cons (pe_lst pa_nil) pa_nil)))) (pa_cons (pe_tup (pa_cons (pv 2) (pa_cons (pv 3) (pa_cons (pe_op op_rep (pe_lst (pa_cons (pv 5) pa_nil)) pe_int) pa_nil)))) (pa_cons (pe_tup (pa_cons (pv 7) (pa_cons (pe_op op_catS (pv 3) (pe_lst (pa_cons (pv 5) pa_nil))) (pa_cons (pv 4) pa_nil)))) (pa_cons (pe_tup (pa_cons (pv 2) (pa_cons (pe_op op_catS (pv 3) (pe_lst (pa_cons (pv 5) pa_nil))) (pa_cons (pv 4) pa_nil)))) (pa_cons (pe_tup (pa_cons (pe_op op_rep (pe_lst (pa_cons (pe_op op_rep (pe_lst (pa_cons (pv 5) pa_nil)) (pe_callB (lena (K := K) (by rfl)) (by rfl) T.b_len (by decide +kernel) (pa_cons (pv 4) pa_nil))) pa_nil)) pe_int) (pa_cons (pe_op op_rep (pe_lst (pa_cons (pv 5) pa_nil)) pe_int) (pa_cons (pv 4) pa_nil)))) pa_nil)))))))
      (pss_cons (ps_set (i := 8) sc_law.nd rfl (by first | exact Or.inl rfl | exact Or.inr rfl) (pe_ix (ixa (K := K) (by rfl)) (pv 8) (pe_op op_mod (pe_call (ok_law_mix T) (hr.mono (by decide)) (by rfl) T.g_law_mix T.k_law_mix T.p_law_mix .nil pass0 (pa_cons (pv 0) (pa_cons pe_int pa_nil))) pe_int) (fun _ _ => rfl)))
      (pss_one (ps_ret (pe_call (ok_law_refused T) (hr.mono (by decide)) (by rfl) T.g_law_refused T.k_law_refused T.p_law_refused .nil pass0 (pa_cons (pe_ix (ixa (K := K) (by rfl)) (pv 8) pe_int (fun _ _ => rfl)) (pa_cons (pe_ix (ixa (K := K) (by rfl)) (pv 8) pe_int (fun _ _ => rfl)) (pa_cons (pe_ix (ixa (K := K) (by rfl)) (pv 8) pe_int (fun _ _ => rfl)) pa_nil))))))))) pss_nil)
      (pss_cons (ps_if (PW.pt (pw_and (pt_cmpR op_eq (pv 6) pe_int (nomark _)) (pw_and1 (pt_cmpR op_eq (pe_op op_mod (pe_call (ok_law_mix T) (hr.mono (by decide)) (by rfl) T.g_law_mix T.k_law_mix T.p_law_mix .nil pass0 (pa_cons (pv 0) (pa_cons pe_int pa_nil))) pe_int) pe_int (nomark _))))) (pss_cons (ps_setLc (i := 2) (own := [("_law_k", 14)]) rfl sc_law.nd rfl rfl (sw_true rfl rfl rfl (by decide +kernel)) (pi_range1 (by rfl) T.b_range (pa_cons pe_int pa_nil)) (blkOk_by (by first | decide +kernel | exact Eq.refl true)) (fun _ _ _ _ _ => pg_name (i := 14) sc_law.nd rfl (by first | exact Or.inl rfl | exact Or.inr rfl)) (fun _ _ _ _ _ => pts_nil) (fun _ _ _ _ _ => (pe_op op_rep (pe_lst (pa_cons (pv 5) pa_nil)) pe_int)))
      (pss_cons (ps_set (i := 3) sc_law.nd rfl (by first | exact Or.inl rfl | exact Or.inr rfl) (pe_op op_rep (pe_lst (pa_cons (pv 5) pa_nil)) pe_int))
      (pss_one (ps_set (i := 4) sc_law.nd rfl (by first | exact Or.inl rfl | exact Or.inr rfl) (pe_op op_rep (pe_lst (pa_cons (pv 5) pa_nil)) pe_int))))) pss_nil)
      (pss_cons (ps_set (i := 9) sc_law.nd rfl (by first | exact Or.inl rfl | exact Or.inr rfl) (pe_call (ok_solved T) (hr.mono (by decide)) (by rfl) T.g_solved T.k_solved T.p_solved .nil passL (pa_cons (pe_lc (own := [("_law_row", 15)]) rfl sc_law.nd (pi_list (pv 2)) (blkOk_by (by first | decide +kernel | exact Eq.refl true)) (fun _ _ _ _ _ => pg_name (i := 15) sc_law.nd rfl (by first | exact Or.inl rfl | exact Or.inr rfl)) (fun _ _ _ _ _ => pts_nil) (fun _ _ _ _ _ => (pe_callTy (lista (K := K) (by rfl)) (by rfl) T.b_list (by decide +kernel) (pa_cons (pv 15) pa_nil)))) (pa_cons (pe_callTy (lista (K := K) (by rfl)) (by rfl) T.b_list (by decide +kernel) (pa_cons (pv 3) pa_nil)) (pa_cons (pe_callTy (lista (K := K) (by rfl)) (by rfl) T.b_list (by decide +kernel) (pa_cons (pv 4) pa_nil)) pa_nil)))))
      (pss_cons (ps_set (i := 10) sc_law.nd rfl (by first | exact Or.inl rfl | exact Or.inr rfl) (pe_ifExp (pt_cmpR op_ne (pe_ix (ixa (K := K) (by rfl)) (pv 9) pe_int (fun _ _ => rfl)) pe_str (nomark _)) (pe_ix (ixa (K := K) (by rfl)) (pv 9) pe_int (fun _ _ => rfl)) (pe_op op_rep (pe_lst (pa_cons (pv 5) pa_nil)) (pe_callB (lena (K := K) (by rfl)) (by rfl) T.b_len (by decide +kernel) (pa_cons (pv 4) pa_nil)))))
      (pss_cons (ps_set (i := 11) sc_law.nd rfl (by first | exact Or.inl rfl | exact Or.inr rfl) (pe_ifExp (pt_cmpR op_eq (pe_ix (ixa (K := K) (by rfl)) (pv 9) pe_int (fun _ _ => rfl)) pe_str (nomark _)) (pe_ix (ixa (K := K) (by rfl)) (pv 9) pe_int (fun _ _ => rfl)) (pe_op op_rep (pe_lst (pa_cons (pv 5) pa_nil)) (pe_callB (lena (K := K) (by rfl)) (by rfl) T.b_len (by decide +kernel) (pa_cons (pv 2) pa_nil)))))
      (pss_cons (ps_for PassesOwn.never rfl (pi_list (pe_lst (pa_cons (pv 10) (pa_cons (pe_call (ok_law_turned T) (hr.mono (by decide)) (by rfl) T.g_law_turned T.k_law_turned T.p_law_turned .nil pass0 (pa_cons (pv 0) (pa_cons pe_int (pa_cons (pv 10) pa_nil)))) pa_nil)))) (pg_name (i := 12) sc_law.nd rfl (by first | exact Or.inl rfl | exact Or.inr rfl)) (pss_cons (ps_set (i := 13) sc_law.nd rfl (by first | exact Or.inl rfl | exact Or.inr rfl) (pe_call (ok_keeps T) (hr.mono (by decide)) (by rfl) T.g_keeps T.k_keeps T.p_keeps .nil pass0 (pa_cons (pe_lc (own := [("_law_row", 15)]) rfl sc_law.nd (pi_list (pv 2)) (blkOk_by (by first | decide +kernel | exact Eq.refl true)) (fun _ _ _ _ _ => pg_name (i := 15) sc_law.nd rfl (by first | exact Or.inl rfl | exact Or.inr rfl)) (fun _ _ _ _ _ => pts_nil) (fun _ _ _ _ _ => (pe_callTy (lista (K := K) (by rfl)) (by rfl) T.b_list (by decide +kernel) (pa_cons (pv 15) pa_nil)))) (pa_cons (pe_callTy (lista (K := K) (by rfl)) (by rfl) T.b_list (by decide +kernel) (pa_cons (pv 3) pa_nil)) (pa_cons (pe_callTy (lista (K := K) (by rfl)) (by rfl) T.b_list (by decide +kernel) (pa_cons (pv 12) pa_nil)) pa_nil)))))
      (pss_one (ps_if (PW.pt (pw_or (pt_not (pt_val (pe_callB (isia (K := K) (by rfl)) (by rfl) T.b_isinstance (by decide +kernel) (pa_cons (pv 13) (pa_cons (pe_bltn (v := .ty "bool") (by rfl) T.b_bool (by decide +kernel) rfl) pa_nil))))) (pw_or1 (pt_cmpR op_ne (pv 13) (pe_call (ok_law_kept T) (hr.mono (by decide)) (by rfl) T.g_law_kept T.k_law_kept T.p_law_kept .nil pass0 (pa_cons (pv 2) (pa_cons (pv 3) (pa_cons (pv 12) pa_nil)))) (nomark _))))) (pss_one (ps_ret pe_bl)) pss_nil))))
      (pss_cons (ps_for PassesOwn.never rfl (pi_list (pe_lst (pa_cons (pv 11) (pa_cons (pe_call (ok_law_turned T) (hr.mono (by decide)) (by rfl) T.g_law_turned T.k_law_turned T.p_law_turned .nil pass0 (pa_cons (pv 0) (pa_cons pe_int (pa_cons (pv 11) pa_nil)))) pa_nil)))) (pg_name (i := 12) sc_law.nd rfl (by first | exact Or.inl rfl | exact Or.inr rfl)) (pss_cons (ps_set (i := 13) sc_law.nd rfl (by first | exact Or.inl rfl | exact Or.inr rfl) (pe_call (ok_are_prices_of T) (hr.mono (by decide)) (by rfl) T.g_are_prices_of T.k_are_prices_of T.p_are_prices_of .nil pass0 (pa_cons (pe_lc (own := [("_law_row", 15)]) rfl sc_law.nd (pi_list (pv 2)) (blkOk_by (by first | decide +kernel | exact Eq.refl true)) (fun _ _ _ _ _ => pg_name (i := 15) sc_law.nd rfl (by first | exact Or.inl rfl | exact Or.inr rfl)) (fun _ _ _ _ _ => pts_nil) (fun _ _ _ _ _ => (pe_callTy (lista (K := K) (by rfl)) (by rfl) T.b_list (by decide +kernel) (pa_cons (pv 15) pa_nil)))) (pa_cons (pe_callTy (lista (K := K) (by rfl)) (by rfl) T.b_list (by decide +kernel) (pa_cons (pv 4) pa_nil)) (pa_cons (pe_callTy (lista (K := K) (by rfl)) (by rfl) T.b_list (by decide +kernel) (pa_cons (pv 12) pa_nil)) pa_nil)))))
      (pss_one (ps_if (PW.pt (pw_or (pt_not (pt_val (pe_callB (isia (K := K) (by rfl)) (by rfl) T.b_isinstance (by decide +kernel) (pa_cons (pv 13) (pa_cons (pe_bltn (v := .ty "bool") (by rfl) T.b_bool (by decide +kernel) rfl) pa_nil))))) (pw_or1 (pt_cmpR op_ne (pv 13) (pe_call (ok_law_pays T) (hr.mono (by decide)) (by rfl) T.g_law_pays T.k_law_pays T.p_law_pays .nil pass0 (pa_cons (pv 2) (pa_cons (pv 4) (pa_cons (pv 12) pa_nil)))) (nomark _))))) (pss_one (ps_ret pe_bl)) pss_nil))))
      (pss_one (ps_ret pe_bl))))))))))))))), ?_⟩
    try dsimp only [cxK, cxw, cxprog]
    walk_at "go"
    refine .mk W h (fun S1 H1 v1 W1 hS1 hv1 => ?_)
    replace h := dp_mono hS1 h
    generalize pA ns = A at *
    generalize pLim ns = lim at *
    generalize pG ns = g at *
    clear W hS1
    walk_at "g"
    rename_i ua hua ul hul ug hug S2 H2 v5 W2 hS2 hv2
    replace h := dp_mono hS2 h
    have hv5 : Dp K S2 v5 (qD 1) := hv2
    replace hua := dp_mono hS2 hua
    replace hul := dp_mono hS2 hul
    replace hug := dp_mono hS2 hug
    clear hv1 W1 hv2 hS2
    have hg1 := GP.ok.g1
    have hg6 := GP.ok.g6
    have ha6 := GP.ok.a6
    have hal := GP.ok.al
    walk_at "go"
    refine x_iteD (fun h0 => ?_) (fun h0 => ?_)
    · clear h0
      have lg : ((g.map qD).length : Int) = (g.length : Nat) := by rw [List.length_map]
      walk_at "go"
      refine x_own W2 (by simp) (fun p3 H3 W3 => ?_)
      walk_at "go"
      rw [lg]
      refine x_repS W3 hv5 (by omega) (by omega) (fun S4 H4 v4 W4 hS4 hv4 => ?_)
      have hr4 : Dp K S4 v4 (rowQ (onesR (g.length + 1))) := by
        rw [show ((g.length : Int) + 1).toNat = g.length + 1 by omega] at hv4
        simp only [rowQ, onesR, List.map_replicate]
        exact hv4
      replace h := dp_mono hS4 h
      replace hv5 := dp_mono hS4 hv5
      replace hua := dp_mono hS4 hua
      replace hul := dp_mono hS4 hul
      replace hug := dp_mono hS4 hug
      clear hS4 W3 hv4
      clear W2
      walk_at "go"
      refine x_lst W4 (ds := [rowQ (onesR (g.length + 1))]) (.cons hr4 .nil) (by simp) (fun S5 H5 v5b W5 hS5 hv5b => ?_)
      replace h := dp_mono hS5 h
      replace hv5 := dp_mono hS5 hv5
      replace hua := dp_mono hS5 hua
      replace hul := dp_mono hS5 hul
      replace hug := dp_mono hS5 hug
      clear hS5 W4 hr4
      walk_at "go"
      refine x_catS W5 hua hv5b (by simp; omega) (fun S6 H6 v6 W6 hS6 hv6 => ?_)
      have hlo : Dp K S6 v6 (tabQ (A ++ [onesR (g.length + 1)])) := by
        rw [tabQ, List.map_append]
        exact hv6
      replace h := dp_mono hS6 h
      replace hv5 := dp_mono hS6 hv5
      replace hua := dp_mono hS6 hua
      replace hul := dp_mono hS6 hul
      replace hug := dp_mono hS6 hug
      clear hS6 W5 hv5b hv6
      walk_at "go"
      refine x_lst W6 (ds := []) .nil (by simp) (fun S7 H7 v7 W7 hS7 hv7 => ?_)
      replace h := dp_mono hS7 h
      replace hv5 := dp_mono hS7 hv5
      replace hua := dp_mono hS7 hua
      replace hul := dp_mono hS7 hul
      replace hug := dp_mono hS7 hug
      replace hlo := dp_mono hS7 hlo
      clear hS7 W6
      walk_at "go"
      rename_i S8 H8 v8 W8 hS8 hv8
      have ht1 : Dp K S8 v8 (progD (A, lim, [])) := hv8
      replace h := dp_mono hS8 h
      replace hv5 := dp_mono hS8 hv5
      replace hua := dp_mono hS8 hua
      replace hul := dp_mono hS8 hul
      replace hug := dp_mono hS8 hug
      replace hlo := dp_mono hS8 hlo
      clear hS8 W7 hv7 hv8
      refine x_own W8 (by simp) (fun p9 H9 W9 => ?_)
      walk_at "go"
      refine x_repS W9 hv5 (by decide) (by decide) (fun Sa Ha va Wa hSa hva => ?_)
      have hra : Dp K Sa va (rowQ (List.replicate 7 1)) := by
        simp only [rowQ, List.map_replicate]
        exact hva
      replace h := dp_mono hSa h
      replace hv5 := dp_mono hSa hv5
      replace hua := dp_mono hSa hua
      replace hul := dp_mono hSa hul
      replace hug := dp_mono hSa hug
      replace hlo := dp_mono hSa hlo
      replace ht1 := dp_mono hSa ht1
      clear hSa W9 hva W8
      walk_at "go"
      rename_i Sb Hb vb Wb hSb hvb
      have ht2 : Dp K Sb vb (progD (A, lim, List.replicate 7 1)) := hvb
      replace h := dp_mono hSb h
      replace hv5 := dp_mono hSb hv5
      replace hua := dp_mono hSb hua
      replace hul := dp_mono hSb hul
      replace hug := dp_mono hSb hug
      replace hlo := dp_mono hSb hlo
      replace ht1 := dp_mono hSb ht1
      clear hSb Wa hra hvb
      refine x_lst Wb (ds := [qD 1]) (.cons hv5 .nil) (by simp) (fun Sc Hc vc Wc hSc hvc => ?_)
      replace h := dp_mono hSc h
      replace hv5 := dp_mono hSc hv5
      replace hua := dp_mono hSc hua
      replace hul := dp_mono hSc hul
      replace hug := dp_mono hSc hug
      replace hlo := dp_mono hSc hlo
      replace ht1 := dp_mono hSc ht1
      replace ht2 := dp_mono hSc ht2
      clear hSc Wb
      walk_at "go"
      refine x_catS Wc hul hvc (by simp; omega) (fun Sd Hd vd Wd1 hSd hvd => ?_)
      have hld : Dp K Sd vd (rowQ (lim ++ [1])) := by
        rw [rowQ, List.map_append]
        exact hvd
      replace h := dp_mono hSd h
      replace hv5 := dp_mono hSd hv5
      replace hua := dp_mono hSd hua
      replace hul := dp_mono hSd hul
      replace hug := dp_mono hSd hug
      replace hlo := dp_mono hSd hlo
      replace ht1 := dp_mono hSd ht1
      replace ht2 := dp_mono hSd ht2
      clear hSd Wc hvc hvd
      walk_at "go"
      rename_i Se He ve We hSe hve
      have ht3 : Dp K Se ve (progD (A ++ [onesR (g.length + 1)], lim ++ [1], g)) := hve
      replace h := dp_mono hSe h
      replace hv5 := dp_mono hSe hv5
      replace hua := dp_mono hSe hua
      replace hul := dp_mono hSe hul
      replace hug := dp_mono hSe hug
      replace hlo := dp_mono hSe hlo
      replace ht1 := dp_mono hSe ht1
      replace ht2 := dp_mono hSe ht2
      clear hSe Wd1 hld hve
      clear hlo
      refine x_lst We (ds := [qD 1]) (.cons hv5 .nil) (by simp) (fun Sf Hf vf Wf hSf hvf => ?_)
      replace h := dp_mono hSf h
      replace hv5 := dp_mono hSf hv5
      replace hua := dp_mono hSf hua
      replace hul := dp_mono hSf hul
      replace hug := dp_mono hSf hug
      replace ht1 := dp_mono hSf ht1
      replace ht2 := dp_mono hSf ht2
      replace ht3 := dp_mono hSf ht3
      clear hSf We
      walk_at "go"
      refine x_catS Wf hul hvf (by simp; omega) (fun Sg Hg vg Wg hSg hvg => ?_)
      have hlg : Dp K Sg vg (rowQ (lim ++ [1])) := by
        rw [rowQ, List.map_append]
        exact hvg
      replace h := dp_mono hSg h
      replace hv5 := dp_mono hSg hv5
      replace hua := dp_mono hSg hua
      replace hul := dp_mono hSg hul
      replace hug := dp_mono hSg hug
      replace ht1 := dp_mono hSg ht1
      replace ht2 := dp_mono hSg ht2
      replace ht3 := dp_mono hSg ht3
      clear hSg Wf hvf hvg
      walk_at "go"
      rename_i Sh Hh vh Wh hSh hvh
      have ht4 : Dp K Sh vh (progD (A, lim ++ [1], g)) := hvh
      replace h := dp_mono hSh h
      replace hv5 := dp_mono hSh hv5
      replace hua := dp_mono hSh hua
      replace hul := dp_mono hSh hul
      replace hug := dp_mono hSh hug
      replace ht1 := dp_mono hSh ht1
      replace ht2 := dp_mono hSh ht2
      replace ht3 := dp_mono hSh ht3
      clear hSh Wg hlg hvh
      refine x_own Wh (by simp) (fun pi Hi Wi => ?_)
      walk_at "go"
      rw [lg]
      refine x_repS Wi hv5 (by omega) (by omega) (fun Sj Hj vj Wj hSj hvj => ?_)
      have hrj : Dp K Sj vj (rowQ (onesR g.length)) := by
        rw [Int.toNat_natCast] at hvj
        simp only [rowQ, onesR, List.map_replicate]
        exact hvj
      replace h := dp_mono hSj h
      replace hv5 := dp_mono hSj hv5
      replace hua := dp_mono hSj hua
      replace hul := dp_mono hSj hul
      replace hug := dp_mono hSj hug
      replace ht1 := dp_mono hSj ht1
      replace ht2 := dp_mono hSj ht2
      replace ht3 := dp_mono hSj ht3
      replace ht4 := dp_mono hSj ht4
      clear hSj Wi hvj Wh
      walk_at "go"
      refine x_own Wj (by simp) (fun pk Hk Wk => ?_)
      walk_at "go"
      refine x_repS Wk hrj (by decide) (by decide) (fun Sl Hl vl Wl hSl hvl => ?_)
      have hrl : Dp K Sl vl (tabQ (List.replicate 7 (List.replicate g.length 1))) := by
        simp only [tabQ, List.map_replicate]
        simp only [rowQ, onesR, List.map_replicate] at hvl ⊢
        exact hvl
      replace h := dp_mono hSl h
      replace hv5 := dp_mono hSl hv5
      replace hua := dp_mono hSl hua
      replace hul := dp_mono hSl hul
      replace hug := dp_mono hSl hug
      replace ht1 := dp_mono hSl ht1
      replace ht2 := dp_mono hSl ht2
      replace ht3 := dp_mono hSl ht3
      replace ht4 := dp_mono hSl ht4
      clear hSl Wk hvl Wj hrj
      walk_at "go"
      refine x_own Wl (by simp) (fun pm Hm Wm => ?_)
      walk_at "go"
      refine x_repS Wm hv5 (by decide) (by decide) (fun Sn Hn vn Wn hSn hvn => ?_)
      have hrn : Dp K Sn vn (rowQ (List.replicate 7 1)) := by
        simp only [rowQ, List.map_replicate]
        exact hvn
      replace h := dp_mono hSn h
      replace hv5 := dp_mono hSn hv5
      replace hua := dp_mono hSn hua
      replace hul := dp_mono hSn hul
      replace hug := dp_mono hSn hug
      replace ht1 := dp_mono hSn ht1
      replace ht2 := dp_mono hSn ht2
      replace ht3 := dp_mono hSn ht3
      replace ht4 := dp_mono hSn ht4
      replace hrl := dp_mono hSn hrl
      clear hSn Wm hvn Wl
      walk_at "go"
      rename_i So Ho vo Wo hSo hvo
      have ht5 : Dp K So vo (progD (List.replicate 7 (List.replicate g.length 1), List.replicate 7 1, g)) := hvo
      replace h := dp_mono hSo h
      replace hv5 := dp_mono hSo hv5
      replace hua := dp_mono hSo hua
      replace hul := dp_mono hSo hul
      replace hug := dp_mono hSo hug
      replace ht1 := dp_mono hSo ht1
      replace ht2 := dp_mono hSo ht2
      replace ht3 := dp_mono hSo ht3
      replace ht4 := dp_mono hSo ht4
      clear hSo Wn hrn hrl hvo
      refine x_lst Wo (ds := (wrongs A lim g).map progD) (.cons ht1 (.cons ht2 (.cons ht3 (.cons ht4 (.cons ht5 .nil))))) (by simp) (fun Sp Hp vp Wp hSp hvp => ?_)
      replace h := dp_mono hSp h
      clear ht1 ht2 ht3 ht4 ht5 hv5 hua hul hug Wo hSp
      have hbad := wrong_no GP.ok (nth (wrongs A lim g) (mix ns 51 % 5)) (nth_mem (Int.emod_nonneg _ (by decide)) (Int.emod_lt_of_pos _ (by decide)))
      walk_at "go"
      refine x_ixL Wp hvp (atI_map (f := progD) (Int.emod_nonneg _ (by decide)) (Int.emod_lt_of_pos _ (by decide))) (kn_tup fun u hu => ?_)
      generalize nth (wrongs A lim g) (mix ns 51 % 5) = bad at *
      walk_at "go"
      refine .mk Wp (by assumption) (by assumption) (by assumption) hbad.2 hbad.1 (fun S9 H9 W9 hS9 => ?_)
      exact k _
    walk_at "g"
    generalize hway : mix ns 50 % 4 = way at *
    refine x_ifJ (fun σ' H' => ∃ (S' : Hp) (A' : List (List Rat)) (lim' g' : List Rat) (va vl vg : V), σ' = [some x, some v1, some va, some vl, some vg, some v5, some (.int way), none, none, none, none, none, none, none, none, none] ∧ Wd K S' H' [] ∧ Dp K S' x (.list (ns.map PyData.int)) ∧ Dp K S' v5 (qD 1) ∧ Dp K S' va (tabQ A') ∧ Dp K S' vl (rowQ lim') ∧ Dp K S' vg (rowQ g') ∧ GoodP A' lim' g') (fun nx' hnx => ?_) ?_
    · walk_at "go"
      refine x_iteD (fun h1 => ?_) (fun h1 => ?_)
      rotate_left
      · walk_at "go"
        exact hnx _ _ ⟨S2, A, lim, g, ua, ul, ug, rfl, W2, h, hv5, hua, hul, hug, GP⟩
      walk_at "go"
      refine x_iteD (fun h2 => ?_) (fun h2 => ?_)
      rotate_left
      · walk_at "go"
        exact hnx _ _ ⟨S2, A, lim, g, ua, ul, ug, rfl, W2, h, hv5, hua, hul, hug, GP⟩
      clear hua hul hug
      walk_at "go"
      refine lcr_map rowQ (fun _ : Nat => onesR 6) W2 ⟨by decide, by decide⟩ (fun i S' H' R acc N hi W' hS E => ?_) (fun S3 H3 v3 W3 hS3 hv3 => ?_)
      · have hv5' := dp_mono hS hv5
        walk_at "go"
        refine x_own W' (by simp) (fun p4 H4 W4 => ?_)
        walk_at "go"
        refine x_repS W4 hv5' (by decide) (by decide) (fun S5 H5 v5c W5 hS5 hv5c => ?_)
        have hr5 : Dp K S5 v5c (rowQ (onesR 6)) := by
          simp only [rowQ, onesR, List.map_replicate]
          exact hv5c
        exact lce_y E W5 hS5 hr5 rfl
      have hva : Dp K S3 v3 (tabQ (List.replicate 6 (onesR 6))) := hv3
      replace h := dp_mono hS3 h
      replace hv5 := dp_mono hS3 hv5
      clear hv3 hS3 W2
      walk_at "go"
      refine x_own W3 (by simp) (fun p4 H4 W4 => ?_)
      walk_at "go"
      refine x_repS W4 hv5 (by decide) (by decide) (fun S5 H5 v5l W5 hS5 hv5l => ?_)
      have hvl : Dp K S5 v5l (rowQ (onesR 6)) := by
        simp only [rowQ, onesR, List.map_replicate]
        exact hv5l
      replace h := dp_mono hS5 h
      replace hv5 := dp_mono hS5 hv5
      replace hva := dp_mono hS5 hva
      clear hv5l hS5 W3 W4
      walk_at "go"
      refine x_own W5 (by simp) (fun p6 H6 W6 => ?_)
      walk_at "go"
      refine x_repS W6 hv5 (by decide) (by decide) (fun S7 H7 v7 W7 hS7 hv7 => ?_)
      have hvg : Dp K S7 v7 (rowQ (onesR 6)) := by
        simp only [rowQ, onesR, List.map_replicate]
        exact hv7
      replace h := dp_mono hS7 h
      replace hv5 := dp_mono hS7 hv5
      replace hva := dp_mono hS7 hva
      replace hvl := dp_mono hS7 hvl
      walk_at "go"
      exact hnx _ _ ⟨S7, _, _, _, v3, v5l, v7, rfl, W7, h, hv5, hva, hvl, hvg, ones_good⟩
    clear hg1 hg6 ha6 hal GP hug hul hua hv5 h W2
    rintro σ' H0 ⟨S0, A, lim, g, va, vl, vg, rfl, W0, hx, hv5, hva, hvl, hvg, GP⟩
    have hg1 := GP.ok.g1
    have hg6 := GP.ok.g6
    have ha6 := GP.ok.a6
    have hal := GP.ok.al
    have hrl := GP.ok.rows
    have hAl : A.length ≤ 1000000 := by omega
    have lg : ((g.map qD).length : Int) = (g.length : Nat) := by rw [List.length_map]
    have lA : ((A.map rowQ).length : Int) = (A.length : Nat) := by rw [List.length_map]
    have bG : ∀ q ∈ g, Bq 1300 q := fun q hq => (com_bq (com_6 GP.g) q hq).mono (by decide)
    have bL : ∀ q ∈ lim, Bq 1300 q := fun q hq => (com_bq (com_6 GP.l) q hq).mono (by decide)
    have bA : ∀ r ∈ A, ∀ q ∈ r, Bq 1300 q := fun r hr q hq => (com_bq (com_6 (GP.a r hr)) q hq).mono (by decide)
    walk_at "go"
    refine lc_map rowQ (fun r : List Rat => r) W0 hva hAl (fun r S' H' R acc N hm W' hS E => kn_lst fun u hu => ?_) (fun Sa Ha ca Wa hSa hca => ?_)
    · walk_at "go"
      walk_at "ly"
    rw [List.map_id'] at hca
    replace hx := dp_mono hSa hx
    replace hv5 := dp_mono hSa hv5
    replace hva := dp_mono hSa hva
    replace hvl := dp_mono hSa hvl
    replace hvg := dp_mono hSa hvg
    clear hSa W0
    walk_at "go"
    rename_i Sb Hb cb Wb hSb hcb Sc Hc cc Wc hSc hcc
    replace hx := dp_mono hSb hx
    replace hv5 := dp_mono hSb hv5
    replace hva := dp_mono hSb hva
    replace hvl := dp_mono hSb hvl
    replace hvg := dp_mono hSb hvg
    replace hca := dp_mono hSb hca
    clear hSb Wa
    replace hx := dp_mono hSc hx
    replace hv5 := dp_mono hSc hv5
    replace hva := dp_mono hSc hva
    replace hvl := dp_mono hSc hvl
    replace hvg := dp_mono hSc hvg
    replace hca := dp_mono hSc hca
    replace hcb := dp_mono hSc hcb
    clear hSc Wb
    refine .mk Wc hca hcb hcc (by omega) (fun _ => GP.sz) (fun n => absurd GP.ok n) (fun _ Sd Hd vf res Wd1 hSd hf R => ?_)
    replace hx := dp_mono hSd hx
    replace hv5 := dp_mono hSd hv5
    replace hva := dp_mono hSd hva
    replace hvl := dp_mono hSd hvl
    replace hvg := dp_mono hSd hvg
    clear hSd Wc hca hcb hcc
    walk_at "st"
    walk_at "st"
    walk_at "st"
    refine x_cutV (fun v H' => ∃ (S' : Hp) (s : List Rat), Wd K S' H' [] ∧ Same Sd S' ∧ Dp K S' v (rowQ s) ∧ Com 1300 s ∧ s.length = g.length) (fun Q' hQ => ?_) ?_
    · cases res with
      | none y =>
        replace hf : Dp K Sd vf (.tuple [.str "none", rowQ y]) := hf
        walk_at "go"
        refine x_no (by decide) ?_
        walk_at "go"
        refine x_own Wd1 (by simp) (fun p3 H3 W3 => ?_)
        walk_at "go"
        rw [lg]
        refine x_repS W3 hv5 (by omega) (by omega) (fun S4 H4 v4 W4 hS4 hv4 => ?_)
        rw [Int.toNat_natCast] at hv4
        refine hQ _ _ ⟨S4, onesR g.length, W4, hS4, ?_, (parts_ones _).1, (parts_ones _).2⟩
        simp only [rowQ, onesR, List.map_replicate]
        exact hv4
      | best z y =>
        replace hf : Dp K Sd vf (.tuple [.str "best", rowQ z, rowQ y]) := hf
        walk_at "go"
        refine x_sure (by decide) ?_
        walk_at "go"
        exact hQ _ _ ⟨Sd, z, Wd1, Same.refl _, by assumption, nice_com R.2.2.1, R.1⟩
      | endless z y =>
        replace hf : Dp K Sd vf (.tuple [.str "endless", rowQ z, rowQ y]) := hf
        walk_at "go"
        refine x_sure (by decide) ?_
        walk_at "go"
        exact hQ _ _ ⟨Sd, z, Wd1, Same.refl _, by assumption, nice_com R.2.2.1, R.1⟩
    rintro vp He ⟨Se, s, We, hSe, hvp, hs, hsl⟩
    replace hx := dp_mono hSe hx
    replace hv5 := dp_mono hSe hv5
    replace hva := dp_mono hSe hva
    replace hvl := dp_mono hSe hvl
    replace hvg := dp_mono hSe hvg
    replace hf := dp_mono hSe hf
    clear hSe Wd1
    walk_at "st"
    walk_at "st"
    walk_at "st"
    refine x_cutV (fun v H' => ∃ (S' : Hp) (y : List Rat), Wd K S' H' [] ∧ Same Se S' ∧ Dp K S' v (rowQ y) ∧ Com 1300 y ∧ y.length = A.length) (fun Q' hQ => ?_) ?_
    · have one : ∀ Q'' : VK, Q'' = Q' → (tOp rRep (tLst (tCons (tVar 5) tNil)) (tCB (rLen K) (tCons (tVar 2) tNil))) [some x, some v1, some va, some vl, some vg, some v5, some (V.int way), none, none, some vf, some vp, none, none, none, none, none] He Q'' := fun Q'' e => by
        subst e
        walk_at "go"
        refine x_own We (by simp) (fun p3 H3 W3 => ?_)
        walk_at "go"
        rw [lA]
        refine x_repS W3 hv5 (by omega) (by omega) (fun S4 H4 v4 W4 hS4 hv4 => ?_)
        rw [Int.toNat_natCast] at hv4
        refine hQ _ _ ⟨S4, onesR A.length, W4, hS4, ?_, (parts_ones _).1, (parts_ones _).2⟩
        simp only [rowQ, onesR, List.map_replicate]
        exact hv4
      cases res with
      | none y =>
        replace hf : Dp K Se vf (.tuple [.str "none", rowQ y]) := hf
        walk_at "go"
        refine x_no (by decide) ?_
        exact one _ rfl
      | best z y =>
        replace hf : Dp K Se vf (.tuple [.str "best", rowQ z, rowQ y]) := hf
        walk_at "go"
        refine x_sure (by decide) ?_
        walk_at "go"
        exact hQ _ _ ⟨Se, y, We, Same.refl _, by assumption, nice_com R.2.2.2.1, R.2.1⟩
      | endless z y =>
        replace hf : Dp K Se vf (.tuple [.str "endless", rowQ z, rowQ y]) := hf
        walk_at "go"
        refine x_no (by decide) ?_
        exact one _ rfl
    rintro vq Hf ⟨Sf, y, Wf, hSf, hvq, hy, hyl⟩
    clear hf R
    replace hx := dp_mono hSf hx
    replace hv5 := dp_mono hSf hv5
    replace hva := dp_mono hSf hva
    replace hvl := dp_mono hSf hvl
    replace hvg := dp_mono hSf hvg
    replace hvp := dp_mono hSf hvp
    clear hSf We
    walk_at "go"
    refine .mk Wf hx hvp (by omega) (fun Sg1 Hg1 vg1 Wg1 hSg1 hvg1 => ?_)
    replace hx := dp_mono hSg1 hx
    replace hv5 := dp_mono hSg1 hv5
    replace hva := dp_mono hSg1 hva
    replace hvl := dp_mono hSg1 hvl
    replace hvg := dp_mono hSg1 hvg
    replace hvp := dp_mono hSg1 hvp
    replace hvq := dp_mono hSg1 hvq
    clear hSg1 Wf
    walk_at "go"
    refine x_lst Wg1 (ds := [s, turnR ns 52 s].map rowQ) (.cons hvp (.cons hvg1 .nil)) (by simp) (fun Sg2 Hg2 vg2 Wg2 hSg2 hvg2 => ?_)
    replace hx := dp_mono hSg2 hx
    replace hv5 := dp_mono hSg2 hv5
    replace hva := dp_mono hSg2 hva
    replace hvl := dp_mono hSg2 hvl
    replace hvg := dp_mono hSg2 hvg
    replace hvp := dp_mono hSg2 hvp
    replace hvq := dp_mono hSg2 hvq
    clear hSg2 Wg1 hvg1
    refine x_forD hvg2 (fun i σ' H' => ∃ S', ∃ z12 z13 : Option V, σ' = [some x, some v1, some va, some vl, some vg, some v5, some (V.int way), none, none, some vf, some vp, some vq, z12, z13, none, none] ∧ Wd K S' H' [] ∧ Same Sg2 S') ⟨Sg2, _, _, rfl, Wg2, Same.refl _⟩ (fun i σ' H' ⟨S', _, _, _, W', hS'⟩ => hS'.trans W'.sub) ?_ ?_
    · rintro i q σ' H' ei ⟨S', z12, z13, rfl, W', hS'⟩
      refine kn_lst fun u hu => ?_
      have PO : PartsOk g.length q := by
        have := List.mem_of_getElem? ei
        rcases List.mem_cons.mp this with rfl | h
        · exact parts_com hsl hs
        · rw [List.mem_singleton.mp h]
          exact parts_turn hsl hs
      have hql := PO.len
      have qu : Dp K S' u (rowQ q) := dp_mono hS' hu
      have qa := dp_mono hS' hva
      have ql := dp_mono hS' hvl
      have qg := dp_mono hS' hvg
      clear hx hv5 hva hvl hvg hvp hvq hu hvg2 Wg2
      walk_at "go"
      refine lc_map rowQ (fun r : List Rat => r) W' qa hAl (fun r S2 H2 R2 acc N hm W2 hS2 E => kn_lst fun u2 hu2 => ?_) (fun S2 H2 c2 W2 hS2 hc2 => ?_)
      · walk_at "go"
        walk_at "ly"
      rw [List.map_id'] at hc2
      replace qu := dp_mono hS2 qu
      replace qa := dp_mono hS2 qa
      replace ql := dp_mono hS2 ql
      replace qg := dp_mono hS2 qg
      walk_at "go"
      rename_i S3 H3 c3 W3 hS3 hc3 S4 H4 c4 W4 hS4 hc4
      have hS24 := hS3.trans hS4
      replace qu := dp_mono hS24 qu
      replace qa := dp_mono hS24 qa
      replace ql := dp_mono hS24 ql
      replace qg := dp_mono hS24 qg
      replace hc2 := dp_mono hS24 hc2
      replace hc3 := dp_mono hS4 hc3
      have hS14 := hS'.trans (hS2.trans hS24)
      clear hS' hS2 hS24 hS3 hS4 W' W2 W3
      refine .mk W4 hc2 hc3 hc4 (by omega) hal.symm (fun r hr => by rw [hrl r hr, hql]) (by omega) (fun r hr z hz => (bA r hr z hz).mono (by decide)) (fun z hz => (bL z hz).mono (by decide)) (fun z hz => (PO.bq z hz).mono (by decide)) (fun r hr t ht => row_bq GP.a hr (by rw [hrl r hr, hql]) (by rw [hrl r hr]; omega) PO.com ht) (fun S5 H5 W5 hS5 => ?_)
      replace qu := dp_mono hS5 qu
      replace qa := dp_mono hS5 qa
      replace ql := dp_mono hS5 ql
      replace qg := dp_mono hS5 qg
      clear hc2 hc3 hc4 W4
      walk_at "go"
      refine .mk W5 qa ql qu (by omega) hal.symm (fun r hr => by rw [hrl r hr, hql]) (by omega) bA bL PO.bq (fun S6 H6 W6 hS6 => ?_)
      walk_at "go"
      refine x_iteND (fun h => absurd rfl h) (fun _ => ?_)
      walk_at "go"
      exact ⟨_, _, _, rfl, W6, hS14.trans (hS5.trans hS6)⟩
    rintro σ' Hh1 ⟨Sh1, z12, z13, rfl, Wh1, hSh1⟩
    replace hx := dp_mono hSh1 hx
    replace hv5 := dp_mono hSh1 hv5
    replace hva := dp_mono hSh1 hva
    replace hvl := dp_mono hSh1 hvl
    replace hvg := dp_mono hSh1 hvg
    replace hvp := dp_mono hSh1 hvp
    replace hvq := dp_mono hSh1 hvq
    clear hSh1 Wg2 hvg2
    walk_at "go"
    refine .mk Wh1 hx hvq (by omega) (fun Si1 Hi1 vi1 Wi1 hSi1 hvi1 => ?_)
    replace hx := dp_mono hSi1 hx
    replace hv5 := dp_mono hSi1 hv5
    replace hva := dp_mono hSi1 hva
    replace hvl := dp_mono hSi1 hvl
    replace hvg := dp_mono hSi1 hvg
    replace hvp := dp_mono hSi1 hvp
    replace hvq := dp_mono hSi1 hvq
    clear hSi1 Wh1
    walk_at "go"
    refine x_lst Wi1 (ds := [y, turnR ns 55 y].map rowQ) (.cons hvq (.cons hvi1 .nil)) (by simp) (fun Si2 Hi2 vi2 Wi2 hSi2 hvi2 => ?_)
    replace hx := dp_mono hSi2 hx
    replace hv5 := dp_mono hSi2 hv5
    replace hva := dp_mono hSi2 hva
    replace hvl := dp_mono hSi2 hvl
    replace hvg := dp_mono hSi2 hvg
    replace hvp := dp_mono hSi2 hvp
    replace hvq := dp_mono hSi2 hvq
    clear hSi2 Wi1 hvi1
    walk_at "go"
    refine x_forD hvi2 (fun i σ' H' => ∃ S', ∃ z12 z13 : Option V, σ' = [some x, some v1, some va, some vl, some vg, some v5, some (V.int way), none, none, some vf, some vp, some vq, z12, z13, none, none] ∧ Wd K S' H' [] ∧ Same Si2 S') ⟨Si2, _, _, rfl, Wi2, Same.refl _⟩ (fun i σ' H' ⟨S', _, _, _, W', hS'⟩ => hS'.trans W'.sub) ?_ ?_
    · rintro i q σ' H' ei ⟨S', z12, z13, rfl, W', hS'⟩
      refine kn_lst fun u hu => ?_
      have PO : PartsOk A.length q := by
        have := List.mem_of_getElem? ei
        rcases List.mem_cons.mp this with rfl | h
        · exact parts_com hyl hy
        · rw [List.mem_singleton.mp h]
          exact parts_turn hyl hy
      have hql := PO.len
      have qu : Dp K S' u (rowQ q) := dp_mono hS' hu
      have qa := dp_mono hS' hva
      have ql := dp_mono hS' hvl
      have qg := dp_mono hS' hvg
      clear hx hv5 hva hvl hvg hvp hvq hu hvi2 Wi2
      walk_at "go"
      refine lc_map rowQ (fun r : List Rat => r) W' qa hAl (fun r S2 H2 R2 acc N hm W2 hS2 E => kn_lst fun u2 hu2 => ?_) (fun S2 H2 c2 W2 hS2 hc2 => ?_)
      · walk_at "go"
        walk_at "ly"
      rw [List.map_id'] at hc2
      replace qu := dp_mono hS2 qu
      replace qa := dp_mono hS2 qa
      replace ql := dp_mono hS2 ql
      replace qg := dp_mono hS2 qg
      walk_at "go"
      rename_i S3 H3 c3 W3 hS3 hc3 S4 H4 c4 W4 hS4 hc4
      have hS24 := hS3.trans hS4
      replace qu := dp_mono hS24 qu
      replace qa := dp_mono hS24 qa
      replace ql := dp_mono hS24 ql
      replace qg := dp_mono hS24 qg
      replace hc2 := dp_mono hS24 hc2
      replace hc3 := dp_mono hS4 hc3
      have hS14 := hS'.trans (hS2.trans hS24)
      clear hS' hS2 hS24 hS3 hS4 W' W2 W3
      refine .mk W4 hc2 hc3 hc4 (by omega) hql hrl (by omega) (fun r hr z hz => (bA r hr z hz).mono (by decide)) (fun z hz => (bG z hz).mono (by decide)) (fun z hz => (PO.bq z hz).mono (by decide)) (fun i hi t ht => col_bq GP.a hrl hi hql ha6 PO.com ht) (fun S5 H5 W5 hS5 => ?_)
      replace qu := dp_mono hS5 qu
      replace qa := dp_mono hS5 qa
      replace ql := dp_mono hS5 ql
      replace qg := dp_mono hS5 qg
      clear hc2 hc3 hc4 W4
      walk_at "go"
      refine .mk W5 qa qg qu (by omega) hql hrl (by omega) bA bG PO.bq (fun S6 H6 W6 hS6 => ?_)
      walk_at "go"
      refine x_iteND (fun h => absurd rfl h) (fun _ => ?_)
      walk_at "go"
      exact ⟨_, _, _, rfl, W6, hS14.trans (hS5.trans hS6)⟩
    rintro σ' Hj1 ⟨Sj1, z12, z13, rfl, Wj1, hSj1⟩
    replace hx := dp_mono hSj1 hx
    replace hv5 := dp_mono hSj1 hv5
    replace hva := dp_mono hSj1 hva
    replace hvl := dp_mono hSj1 hvl
    replace hvg := dp_mono hSj1 hvg
    replace hvp := dp_mono hSj1 hvp
    replace hvq := dp_mono hSj1 hvq
    clear hSj1 Wi2 hvi2
    walk_at "go"
    exact k _
end
end SB
namespace SB
open PySem PySem.Spec PyProof.Rows L2
theorem all_mk {K : PySem.W.Frag} {h : Heap} {mg : Str → Option Value} {fa f_common f_ratio f_plus f_minus f_times f_over f_is_less f_dot f_look_program f_first_sheet f_with_goal f_clear_helpers f_solved f_ray f_keeps f_turned f_are_prices_of f_law_cell f_law_mix f_law_ratio f_law_sum f_law_order f_law_program f_law_kept f_law_column f_law_pays f_law_refused f_law_turned f_law f_Sheet_init f_Sheet_turn f_Sheet_leaving f_Sheet_climb f_Sheet_worth c_Sheet c_BestError c_NoTable c_NoRatio o_NOUGHT : Addr}
    {od_common an_common : Option Addr} {sl_common : Array (Option Value)} {oc_common kV_common dc_common pm_common cd_common ct_common : Value}
    {od_ratio an_ratio : Option Addr} {sl_ratio : Array (Option Value)} {oc_ratio kV_ratio dc_ratio pm_ratio cd_ratio ct_ratio : Value}
    {od_plus an_plus : Option Addr} {sl_plus : Array (Option Value)} {oc_plus kV_plus dc_plus pm_plus cd_plus ct_plus : Value}
    {od_minus an_minus : Option Addr} {sl_minus : Array (Option Value)} {oc_minus kV_minus dc_minus pm_minus cd_minus ct_minus : Value}
    {od_times an_times : Option Addr} {sl_times : Array (Option Value)} {oc_times kV_times dc_times pm_times cd_times ct_times : Value}
    {od_over an_over : Option Addr} {sl_over : Array (Option Value)} {oc_over kV_over dc_over pm_over cd_over ct_over : Value}
    {od_is_less an_is_less : Option Addr} {sl_is_less : Array (Option Value)} {oc_is_less kV_is_less dc_is_less pm_is_less cd_is_less ct_is_less : Value}
    {od_dot an_dot : Option Addr} {sl_dot : Array (Option Value)} {oc_dot kV_dot dc_dot pm_dot cd_dot ct_dot : Value}
    {od_look_program an_look_program : Option Addr} {sl_look_program : Array (Option Value)} {oc_look_program kV_look_program dc_look_program pm_look_program cd_look_program ct_look_program : Value}
    {od_first_sheet an_first_sheet : Option Addr} {sl_first_sheet : Array (Option Value)} {oc_first_sheet kV_first_sheet dc_first_sheet pm_first_sheet cd_first_sheet ct_first_sheet : Value}
    {od_with_goal an_with_goal : Option Addr} {sl_with_goal : Array (Option Value)} {oc_with_goal kV_with_goal dc_with_goal pm_with_goal cd_with_goal ct_with_goal : Value}
    {od_clear_helpers an_clear_helpers : Option Addr} {sl_clear_helpers : Array (Option Value)} {oc_clear_helpers kV_clear_helpers dc_clear_helpers pm_clear_helpers cd_clear_helpers ct_clear_helpers : Value}
    {od_solved an_solved : Option Addr} {sl_solved : Array (Option Value)} {oc_solved kV_solved dc_solved pm_solved cd_solved ct_solved : Value}
    {od_ray an_ray : Option Addr} {sl_ray : Array (Option Value)} {oc_ray kV_ray dc_ray pm_ray cd_ray ct_ray : Value}
    {od_keeps an_keeps : Option Addr} {sl_keeps : Array (Option Value)} {oc_keeps kV_keeps dc_keeps pm_keeps cd_keeps ct_keeps : Value}
    {od_turned an_turned : Option Addr} {sl_turned : Array (Option Value)} {oc_turned kV_turned dc_turned pm_turned cd_turned ct_turned : Value}
    {od_are_prices_of an_are_prices_of : Option Addr} {sl_are_prices_of : Array (Option Value)} {oc_are_prices_of kV_are_prices_of dc_are_prices_of pm_are_prices_of cd_are_prices_of ct_are_prices_of : Value}
    {od_law_cell an_law_cell : Option Addr} {sl_law_cell : Array (Option Value)} {oc_law_cell kV_law_cell dc_law_cell pm_law_cell cd_law_cell ct_law_cell : Value}
    {od_law_mix an_law_mix : Option Addr} {sl_law_mix : Array (Option Value)} {oc_law_mix kV_law_mix dc_law_mix pm_law_mix cd_law_mix ct_law_mix : Value}
    {od_law_ratio an_law_ratio : Option Addr} {sl_law_ratio : Array (Option Value)} {oc_law_ratio kV_law_ratio dc_law_ratio pm_law_ratio cd_law_ratio ct_law_ratio : Value}
    {od_law_sum an_law_sum : Option Addr} {sl_law_sum : Array (Option Value)} {oc_law_sum kV_law_sum dc_law_sum pm_law_sum cd_law_sum ct_law_sum : Value}
    {od_law_order an_law_order : Option Addr} {sl_law_order : Array (Option Value)} {oc_law_order kV_law_order dc_law_order pm_law_order cd_law_order ct_law_order : Value}
    {od_law_program an_law_program : Option Addr} {sl_law_program : Array (Option Value)} {oc_law_program kV_law_program dc_law_program pm_law_program cd_law_program ct_law_program : Value}
    {od_law_kept an_law_kept : Option Addr} {sl_law_kept : Array (Option Value)} {oc_law_kept kV_law_kept dc_law_kept pm_law_kept cd_law_kept ct_law_kept : Value}
    {od_law_column an_law_column : Option Addr} {sl_law_column : Array (Option Value)} {oc_law_column kV_law_column dc_law_column pm_law_column cd_law_column ct_law_column : Value}
    {od_law_pays an_law_pays : Option Addr} {sl_law_pays : Array (Option Value)} {oc_law_pays kV_law_pays dc_law_pays pm_law_pays cd_law_pays ct_law_pays : Value}
    {od_law_refused an_law_refused : Option Addr} {sl_law_refused : Array (Option Value)} {oc_law_refused kV_law_refused dc_law_refused pm_law_refused cd_law_refused ct_law_refused : Value}
    {od_law_turned an_law_turned : Option Addr} {sl_law_turned : Array (Option Value)} {oc_law_turned kV_law_turned dc_law_turned pm_law_turned cd_law_turned ct_law_turned : Value}
    {od_law an_law : Option Addr} {sl_law : Array (Option Value)} {oc_law kV_law dc_law pm_law cd_law ct_law : Value}
    {od_Sheet_init an_Sheet_init : Option Addr} {sl_Sheet_init : Array (Option Value)} {oc_Sheet_init kV_Sheet_init dc_Sheet_init pm_Sheet_init cd_Sheet_init ct_Sheet_init : Value}
    {od_Sheet_turn an_Sheet_turn : Option Addr} {sl_Sheet_turn : Array (Option Value)} {oc_Sheet_turn kV_Sheet_turn dc_Sheet_turn pm_Sheet_turn cd_Sheet_turn ct_Sheet_turn : Value}
    {od_Sheet_leaving an_Sheet_leaving : Option Addr} {sl_Sheet_leaving : Array (Option Value)} {oc_Sheet_leaving kV_Sheet_leaving dc_Sheet_leaving pm_Sheet_leaving cd_Sheet_leaving ct_Sheet_leaving : Value}
    {od_Sheet_climb an_Sheet_climb : Option Addr} {sl_Sheet_climb : Array (Option Value)} {oc_Sheet_climb kV_Sheet_climb dc_Sheet_climb pm_Sheet_climb cd_Sheet_climb ct_Sheet_climb : Value}
    {od_Sheet_worth an_Sheet_worth : Option Addr} {sl_Sheet_worth : Array (Option Value)} {oc_Sheet_worth kV_Sheet_worth dc_Sheet_worth pm_Sheet_worth cd_Sheet_worth ct_Sheet_worth : Value}
    {t_MOST_BOUNDS t_MOST_PARTS : Tok}
    {tu_NOUGHT_0 tu_NOUGHT_1 : Tok} {sq_NOUGHT : Nat} {od_NOUGHT : Option Addr} {sl_NOUGHT : Array (Option Value)} (X : K.In h) (G : h.Ns mainGlobals mg) (hfa : mg "law" = some (.ref fa))
    (B_Sheet : PySem.W.nsIn K mainGlobals "Sheet" = some (some (.ref c_Sheet)))
    (A_common : PySem.W.nsIn K mainGlobals "common" = some (some (.ref f_common)))
    (L_common : K.lookup f_common = some ⟨oc_common, od_common, .func (PySem.W.fnOf "common" "common" (defArgs s_common) (defBody s_common) (defScope s_common) .none kV_common dc_common pm_common an_common cd_common ct_common), sl_common⟩)
    (C_common : PySem.W.codeIn K cd_common "common" = true)
    (K_common : PySem.W.keepIn K (.ref f_common) = true)
    (A_ratio : PySem.W.nsIn K mainGlobals "ratio" = some (some (.ref f_ratio)))
    (L_ratio : K.lookup f_ratio = some ⟨oc_ratio, od_ratio, .func (PySem.W.fnOf "ratio" "ratio" (defArgs s_ratio) (defBody s_ratio) (defScope s_ratio) .none kV_ratio dc_ratio pm_ratio an_ratio cd_ratio ct_ratio), sl_ratio⟩)
    (C_ratio : PySem.W.codeIn K cd_ratio "ratio" = true)
    (K_ratio : PySem.W.keepIn K (.ref f_ratio) = true)
    (A_plus : PySem.W.nsIn K mainGlobals "plus" = some (some (.ref f_plus)))
    (L_plus : K.lookup f_plus = some ⟨oc_plus, od_plus, .func (PySem.W.fnOf "plus" "plus" (defArgs s_plus) (defBody s_plus) (defScope s_plus) .none kV_plus dc_plus pm_plus an_plus cd_plus ct_plus), sl_plus⟩)
    (C_plus : PySem.W.codeIn K cd_plus "plus" = true)
    (K_plus : PySem.W.keepIn K (.ref f_plus) = true)
    (A_minus : PySem.W.nsIn K mainGlobals "minus" = some (some (.ref f_minus)))
    (L_minus : K.lookup f_minus = some ⟨oc_minus, od_minus, .func (PySem.W.fnOf "minus" "minus" (defArgs s_minus) (defBody s_minus) (defScope s_minus) .none kV_minus dc_minus pm_minus an_minus cd_minus ct_minus), sl_minus⟩)
    (C_minus : PySem.W.codeIn K cd_minus "minus" = true)
    (K_minus : PySem.W.keepIn K (.ref f_minus) = true)
    (A_times : PySem.W.nsIn K mainGlobals "times" = some (some (.ref f_times)))
    (L_times : K.lookup f_times = some ⟨oc_times, od_times, .func (PySem.W.fnOf "times" "times" (defArgs s_times) (defBody s_times) (defScope s_times) .none kV_times dc_times pm_times an_times cd_times ct_times), sl_times⟩)
    (C_times : PySem.W.codeIn K cd_times "times" = true)
    (K_times : PySem.W.keepIn K (.ref f_times) = true)
    (A_over : PySem.W.nsIn K mainGlobals "over" = some (some (.ref f_over)))
    (L_over : K.lookup f_over = some ⟨oc_over, od_over, .func (PySem.W.fnOf "over" "over" (defArgs s_over) (defBody s_over) (defScope s_over) .none kV_over dc_over pm_over an_over cd_over ct_over), sl_over⟩)
    (C_over : PySem.W.codeIn K cd_over "over" = true)
    (K_over : PySem.W.keepIn K (.ref f_over) = true)
    (A_is_less : PySem.W.nsIn K mainGlobals "is_less" = some (some (.ref f_is_less)))
    (L_is_less : K.lookup f_is_less = some ⟨oc_is_less, od_is_less, .func (PySem.W.fnOf "is_less" "is_less" (defArgs s_is_less) (defBody s_is_less) (defScope s_is_less) .none kV_is_less dc_is_less pm_is_less an_is_less cd_is_less ct_is_less), sl_is_less⟩)
    (C_is_less : PySem.W.codeIn K cd_is_less "is_less" = true)
    (K_is_less : PySem.W.keepIn K (.ref f_is_less) = true)
    (A_dot : PySem.W.nsIn K mainGlobals "dot" = some (some (.ref f_dot)))
    (L_dot : K.lookup f_dot = some ⟨oc_dot, od_dot, .func (PySem.W.fnOf "dot" "dot" (defArgs s_dot) (defBody s_dot) (defScope s_dot) .none kV_dot dc_dot pm_dot an_dot cd_dot ct_dot), sl_dot⟩)
    (C_dot : PySem.W.codeIn K cd_dot "dot" = true)
    (K_dot : PySem.W.keepIn K (.ref f_dot) = true)
    (A_look_program : PySem.W.nsIn K mainGlobals "look_program" = some (some (.ref f_look_program)))
    (L_look_program : K.lookup f_look_program = some ⟨oc_look_program, od_look_program, .func (PySem.W.fnOf "look_program" "look_program" (defArgs s_look_program) (defBody s_look_program) (defScope s_look_program) .none kV_look_program dc_look_program pm_look_program an_look_program cd_look_program ct_look_program), sl_look_program⟩)
    (C_look_program : PySem.W.codeIn K cd_look_program "look_program" = true)
    (K_look_program : PySem.W.keepIn K (.ref f_look_program) = true)
    (A_first_sheet : PySem.W.nsIn K mainGlobals "first_sheet" = some (some (.ref f_first_sheet)))
    (L_first_sheet : K.lookup f_first_sheet = some ⟨oc_first_sheet, od_first_sheet, .func (PySem.W.fnOf "first_sheet" "first_sheet" (defArgs s_first_sheet) (defBody s_first_sheet) (defScope s_first_sheet) .none kV_first_sheet dc_first_sheet pm_first_sheet an_first_sheet cd_first_sheet ct_first_sheet), sl_first_sheet⟩)
    (C_first_sheet : PySem.W.codeIn K cd_first_sheet "first_sheet" = true)
    (K_first_sheet : PySem.W.keepIn K (.ref f_first_sheet) = true)
    (A_with_goal : PySem.W.nsIn K mainGlobals "with_goal" = some (some (.ref f_with_goal)))
    (L_with_goal : K.lookup f_with_goal = some ⟨oc_with_goal, od_with_goal, .func (PySem.W.fnOf "with_goal" "with_goal" (defArgs s_with_goal) (defBody s_with_goal) (defScope s_with_goal) .none kV_with_goal dc_with_goal pm_with_goal an_with_goal cd_with_goal ct_with_goal), sl_with_goal⟩)
    (C_with_goal : PySem.W.codeIn K cd_with_goal "with_goal" = true)
    (K_with_goal : PySem.W.keepIn K (.ref f_with_goal) = true)
    (A_clear_helpers : PySem.W.nsIn K mainGlobals "clear_helpers" = some (some (.ref f_clear_helpers)))
    (L_clear_helpers : K.lookup f_clear_helpers = some ⟨oc_clear_helpers, od_clear_helpers, .func (PySem.W.fnOf "clear_helpers" "clear_helpers" (defArgs s_clear_helpers) (defBody s_clear_helpers) (defScope s_clear_helpers) .none kV_clear_helpers dc_clear_helpers pm_clear_helpers an_clear_helpers cd_clear_helpers ct_clear_helpers), sl_clear_helpers⟩)
    (C_clear_helpers : PySem.W.codeIn K cd_clear_helpers "clear_helpers" = true)
    (K_clear_helpers : PySem.W.keepIn K (.ref f_clear_helpers) = true)
    (A_solved : PySem.W.nsIn K mainGlobals "solved" = some (some (.ref f_solved)))
    (L_solved : K.lookup f_solved = some ⟨oc_solved, od_solved, .func (PySem.W.fnOf "solved" "solved" (defArgs s_solved) (defBody s_solved) (defScope s_solved) .none kV_solved dc_solved pm_solved an_solved cd_solved ct_solved), sl_solved⟩)
    (C_solved : PySem.W.codeIn K cd_solved "solved" = true)
    (K_solved : PySem.W.keepIn K (.ref f_solved) = true)
    (A_ray : PySem.W.nsIn K mainGlobals "ray" = some (some (.ref f_ray)))
    (L_ray : K.lookup f_ray = some ⟨oc_ray, od_ray, .func (PySem.W.fnOf "ray" "ray" (defArgs s_ray) (defBody s_ray) (defScope s_ray) .none kV_ray dc_ray pm_ray an_ray cd_ray ct_ray), sl_ray⟩)
    (C_ray : PySem.W.codeIn K cd_ray "ray" = true)
    (K_ray : PySem.W.keepIn K (.ref f_ray) = true)
    (A_keeps : PySem.W.nsIn K mainGlobals "keeps" = some (some (.ref f_keeps)))
    (L_keeps : K.lookup f_keeps = some ⟨oc_keeps, od_keeps, .func (PySem.W.fnOf "keeps" "keeps" (defArgs s_keeps) (defBody s_keeps) (defScope s_keeps) .none kV_keeps dc_keeps pm_keeps an_keeps cd_keeps ct_keeps), sl_keeps⟩)
    (C_keeps : PySem.W.codeIn K cd_keeps "keeps" = true)
    (K_keeps : PySem.W.keepIn K (.ref f_keeps) = true)
    (A_turned : PySem.W.nsIn K mainGlobals "turned" = some (some (.ref f_turned)))
    (L_turned : K.lookup f_turned = some ⟨oc_turned, od_turned, .func (PySem.W.fnOf "turned" "turned" (defArgs s_turned) (defBody s_turned) (defScope s_turned) .none kV_turned dc_turned pm_turned an_turned cd_turned ct_turned), sl_turned⟩)
    (C_turned : PySem.W.codeIn K cd_turned "turned" = true)
    (K_turned : PySem.W.keepIn K (.ref f_turned) = true)
    (A_are_prices_of : PySem.W.nsIn K mainGlobals "are_prices_of" = some (some (.ref f_are_prices_of)))
    (L_are_prices_of : K.lookup f_are_prices_of = some ⟨oc_are_prices_of, od_are_prices_of, .func (PySem.W.fnOf "are_prices_of" "are_prices_of" (defArgs s_are_prices_of) (defBody s_are_prices_of) (defScope s_are_prices_of) .none kV_are_prices_of dc_are_prices_of pm_are_prices_of an_are_prices_of cd_are_prices_of ct_are_prices_of), sl_are_prices_of⟩)
    (C_are_prices_of : PySem.W.codeIn K cd_are_prices_of "are_prices_of" = true)
    (K_are_prices_of : PySem.W.keepIn K (.ref f_are_prices_of) = true)
    (A_law_cell : PySem.W.nsIn K mainGlobals "_law_cell" = some (some (.ref f_law_cell)))
    (L_law_cell : K.lookup f_law_cell = some ⟨oc_law_cell, od_law_cell, .func (PySem.W.fnOf "_law_cell" "_law_cell" (defArgs s_law_cell) (defBody s_law_cell) (defScope s_law_cell) .none kV_law_cell dc_law_cell pm_law_cell an_law_cell cd_law_cell ct_law_cell), sl_law_cell⟩)
    (C_law_cell : PySem.W.codeIn K cd_law_cell "_law_cell" = true)
    (K_law_cell : PySem.W.keepIn K (.ref f_law_cell) = true)
    (A_law_mix : PySem.W.nsIn K mainGlobals "_law_mix" = some (some (.ref f_law_mix)))
    (L_law_mix : K.lookup f_law_mix = some ⟨oc_law_mix, od_law_mix, .func (PySem.W.fnOf "_law_mix" "_law_mix" (defArgs s_law_mix) (defBody s_law_mix) (defScope s_law_mix) .none kV_law_mix dc_law_mix pm_law_mix an_law_mix cd_law_mix ct_law_mix), sl_law_mix⟩)
    (C_law_mix : PySem.W.codeIn K cd_law_mix "_law_mix" = true)
    (K_law_mix : PySem.W.keepIn K (.ref f_law_mix) = true)
    (A_law_ratio : PySem.W.nsIn K mainGlobals "_law_ratio" = some (some (.ref f_law_ratio)))
    (L_law_ratio : K.lookup f_law_ratio = some ⟨oc_law_ratio, od_law_ratio, .func (PySem.W.fnOf "_law_ratio" "_law_ratio" (defArgs s_law_ratio) (defBody s_law_ratio) (defScope s_law_ratio) .none kV_law_ratio dc_law_ratio pm_law_ratio an_law_ratio cd_law_ratio ct_law_ratio), sl_law_ratio⟩)
    (C_law_ratio : PySem.W.codeIn K cd_law_ratio "_law_ratio" = true)
    (K_law_ratio : PySem.W.keepIn K (.ref f_law_ratio) = true)
    (A_law_sum : PySem.W.nsIn K mainGlobals "_law_sum" = some (some (.ref f_law_sum)))
    (L_law_sum : K.lookup f_law_sum = some ⟨oc_law_sum, od_law_sum, .func (PySem.W.fnOf "_law_sum" "_law_sum" (defArgs s_law_sum) (defBody s_law_sum) (defScope s_law_sum) .none kV_law_sum dc_law_sum pm_law_sum an_law_sum cd_law_sum ct_law_sum), sl_law_sum⟩)
    (C_law_sum : PySem.W.codeIn K cd_law_sum "_law_sum" = true)
    (K_law_sum : PySem.W.keepIn K (.ref f_law_sum) = true)
    (A_law_order : PySem.W.nsIn K mainGlobals "_law_order" = some (some (.ref f_law_order)))
    (L_law_order : K.lookup f_law_order = some ⟨oc_law_order, od_law_order, .func (PySem.W.fnOf "_law_order" "_law_order" (defArgs s_law_order) (defBody s_law_order) (defScope s_law_order) .none kV_law_order dc_law_order pm_law_order an_law_order cd_law_order ct_law_order), sl_law_order⟩)
    (C_law_order : PySem.W.codeIn K cd_law_order "_law_order" = true)
    (K_law_order : PySem.W.keepIn K (.ref f_law_order) = true)
    (A_law_program : PySem.W.nsIn K mainGlobals "_law_program" = some (some (.ref f_law_program)))
    (L_law_program : K.lookup f_law_program = some ⟨oc_law_program, od_law_program, .func (PySem.W.fnOf "_law_program" "_law_program" (defArgs s_law_program) (defBody s_law_program) (defScope s_law_program) .none kV_law_program dc_law_program pm_law_program an_law_program cd_law_program ct_law_program), sl_law_program⟩)
    (C_law_program : PySem.W.codeIn K cd_law_program "_law_program" = true)
    (K_law_program : PySem.W.keepIn K (.ref f_law_program) = true)
    (A_law_kept : PySem.W.nsIn K mainGlobals "_law_kept" = some (some (.ref f_law_kept)))
    (L_law_kept : K.lookup f_law_kept = some ⟨oc_law_kept, od_law_kept, .func (PySem.W.fnOf "_law_kept" "_law_kept" (defArgs s_law_kept) (defBody s_law_kept) (defScope s_law_kept) .none kV_law_kept dc_law_kept pm_law_kept an_law_kept cd_law_kept ct_law_kept), sl_law_kept⟩)
    (C_law_kept : PySem.W.codeIn K cd_law_kept "_law_kept" = true)
    (K_law_kept : PySem.W.keepIn K (.ref f_law_kept) = true)
    (A_law_column : PySem.W.nsIn K mainGlobals "_law_column" = some (some (.ref f_law_column)))
    (L_law_column : K.lookup f_law_column = some ⟨oc_law_column, od_law_column, .func (PySem.W.fnOf "_law_column" "_law_column" (defArgs s_law_column) (defBody s_law_column) (defScope s_law_column) .none kV_law_column dc_law_column pm_law_column an_law_column cd_law_column ct_law_column), sl_law_column⟩)
    (C_law_column : PySem.W.codeIn K cd_law_column "_law_column" = true)
    (K_law_column : PySem.W.keepIn K (.ref f_law_column) = true)
    (A_law_pays : PySem.W.nsIn K mainGlobals "_law_pays" = some (some (.ref f_law_pays)))
    (L_law_pays : K.lookup f_law_pays = some ⟨oc_law_pays, od_law_pays, .func (PySem.W.fnOf "_law_pays" "_law_pays" (defArgs s_law_pays) (defBody s_law_pays) (defScope s_law_pays) .none kV_law_pays dc_law_pays pm_law_pays an_law_pays cd_law_pays ct_law_pays), sl_law_pays⟩)
    (C_law_pays : PySem.W.codeIn K cd_law_pays "_law_pays" = true)
    (K_law_pays : PySem.W.keepIn K (.ref f_law_pays) = true)
    (A_law_refused : PySem.W.nsIn K mainGlobals "_law_refused" = some (some (.ref f_law_refused)))
    (L_law_refused : K.lookup f_law_refused = some ⟨oc_law_refused, od_law_refused, .func (PySem.W.fnOf "_law_refused" "_law_refused" (defArgs s_law_refused) (defBody s_law_refused) (defScope s_law_refused) .none kV_law_refused dc_law_refused pm_law_refused an_law_refused cd_law_refused ct_law_refused), sl_law_refused⟩)
    (C_law_refused : PySem.W.codeIn K cd_law_refused "_law_refused" = true)
    (K_law_refused : PySem.W.keepIn K (.ref f_law_refused) = true)
    (A_law_turned : PySem.W.nsIn K mainGlobals "_law_turned" = some (some (.ref f_law_turned)))
    (L_law_turned : K.lookup f_law_turned = some ⟨oc_law_turned, od_law_turned, .func (PySem.W.fnOf "_law_turned" "_law_turned" (defArgs s_law_turned) (defBody s_law_turned) (defScope s_law_turned) .none kV_law_turned dc_law_turned pm_law_turned an_law_turned cd_law_turned ct_law_turned), sl_law_turned⟩)
    (C_law_turned : PySem.W.codeIn K cd_law_turned "_law_turned" = true)
    (K_law_turned : PySem.W.keepIn K (.ref f_law_turned) = true)
    (A_law : PySem.W.nsIn K mainGlobals "law" = some (some (.ref f_law)))
    (L_law : K.lookup f_law = some ⟨oc_law, od_law, .func (PySem.W.fnOf "law" "law" (defArgs s_law) (defBody s_law) (defScope s_law) .none kV_law dc_law pm_law an_law cd_law ct_law), sl_law⟩)
    (C_law : PySem.W.codeIn K cd_law "law" = true)
    (K_law : PySem.W.keepIn K (.ref f_law) = true)
    (A_Sheet_init : PySem.W.findIn K (.ref c_Sheet) "__init__" = some (some (.ref f_Sheet_init)))
    (J_Sheet_init : PySem.W.isFn K (.ref f_Sheet_init) = true)
    (L_Sheet_init : K.lookup f_Sheet_init = some ⟨oc_Sheet_init, od_Sheet_init, .func (PySem.W.fnOf "__init__" "Sheet.__init__" (defArgs s_Sheet_init) (defBody s_Sheet_init) (defScope s_Sheet_init) .none kV_Sheet_init dc_Sheet_init pm_Sheet_init an_Sheet_init cd_Sheet_init ct_Sheet_init), sl_Sheet_init⟩)
    (C_Sheet_init : PySem.W.codeIn K cd_Sheet_init "Sheet.__init__" = true)
    (K_Sheet_init : PySem.W.keepIn K (.ref f_Sheet_init) = true)
    (A_Sheet_turn : PySem.W.findIn K (.ref c_Sheet) "turn" = some (some (.ref f_Sheet_turn)))
    (J_Sheet_turn : PySem.W.isFn K (.ref f_Sheet_turn) = true)
    (L_Sheet_turn : K.lookup f_Sheet_turn = some ⟨oc_Sheet_turn, od_Sheet_turn, .func (PySem.W.fnOf "turn" "Sheet.turn" (defArgs s_Sheet_turn) (defBody s_Sheet_turn) (defScope s_Sheet_turn) .none kV_Sheet_turn dc_Sheet_turn pm_Sheet_turn an_Sheet_turn cd_Sheet_turn ct_Sheet_turn), sl_Sheet_turn⟩)
    (C_Sheet_turn : PySem.W.codeIn K cd_Sheet_turn "Sheet.turn" = true)
    (K_Sheet_turn : PySem.W.keepIn K (.ref f_Sheet_turn) = true)
    (A_Sheet_leaving : PySem.W.findIn K (.ref c_Sheet) "leaving" = some (some (.ref f_Sheet_leaving)))
    (J_Sheet_leaving : PySem.W.isFn K (.ref f_Sheet_leaving) = true)
    (L_Sheet_leaving : K.lookup f_Sheet_leaving = some ⟨oc_Sheet_leaving, od_Sheet_leaving, .func (PySem.W.fnOf "leaving" "Sheet.leaving" (defArgs s_Sheet_leaving) (defBody s_Sheet_leaving) (defScope s_Sheet_leaving) .none kV_Sheet_leaving dc_Sheet_leaving pm_Sheet_leaving an_Sheet_leaving cd_Sheet_leaving ct_Sheet_leaving), sl_Sheet_leaving⟩)
    (C_Sheet_leaving : PySem.W.codeIn K cd_Sheet_leaving "Sheet.leaving" = true)
    (K_Sheet_leaving : PySem.W.keepIn K (.ref f_Sheet_leaving) = true)
    (A_Sheet_climb : PySem.W.findIn K (.ref c_Sheet) "climb" = some (some (.ref f_Sheet_climb)))
    (J_Sheet_climb : PySem.W.isFn K (.ref f_Sheet_climb) = true)
    (L_Sheet_climb : K.lookup f_Sheet_climb = some ⟨oc_Sheet_climb, od_Sheet_climb, .func (PySem.W.fnOf "climb" "Sheet.climb" (defArgs s_Sheet_climb) (defBody s_Sheet_climb) (defScope s_Sheet_climb) .none kV_Sheet_climb dc_Sheet_climb pm_Sheet_climb an_Sheet_climb cd_Sheet_climb ct_Sheet_climb), sl_Sheet_climb⟩)
    (C_Sheet_climb : PySem.W.codeIn K cd_Sheet_climb "Sheet.climb" = true)
    (K_Sheet_climb : PySem.W.keepIn K (.ref f_Sheet_climb) = true)
    (A_Sheet_worth : PySem.W.findIn K (.ref c_Sheet) "worth" = some (some (.ref f_Sheet_worth)))
    (J_Sheet_worth : PySem.W.isFn K (.ref f_Sheet_worth) = true)
    (L_Sheet_worth : K.lookup f_Sheet_worth = some ⟨oc_Sheet_worth, od_Sheet_worth, .func (PySem.W.fnOf "worth" "Sheet.worth" (defArgs s_Sheet_worth) (defBody s_Sheet_worth) (defScope s_Sheet_worth) .none kV_Sheet_worth dc_Sheet_worth pm_Sheet_worth an_Sheet_worth cd_Sheet_worth ct_Sheet_worth), sl_Sheet_worth⟩)
    (C_Sheet_worth : PySem.W.codeIn K cd_Sheet_worth "Sheet.worth" = true)
    (K_Sheet_worth : PySem.W.keepIn K (.ref f_Sheet_worth) = true)
    (pg_Sheet : PySem.W.plainGet K c_Sheet Str.empty = true)
    (hd_Sheet : PySem.W.hasDictIn K c_Sheet = true)
    (po_Sheet : PySem.W.plainOver K c_Sheet = true)
    (sa_Sheet : PySem.W.findIn K (.ref c_Sheet) "__setattr__" = some (some (.builtin "object.__setattr__")))
    (mk_Sheet : PySem.W.makesIn K c_Sheet = true)
    (kc_Sheet : PySem.W.keepIn K (.ref c_Sheet) = true)
    (n_Sheet_lines : PySem.W.findIn K (.ref c_Sheet) "lines" = some none)
    (n_Sheet_basis : PySem.W.findIn K (.ref c_Sheet) "basis" = some none)
    (n_Sheet_wide : PySem.W.findIn K (.ref c_Sheet) "wide" = some none)
    (B_BestError : PySem.W.nsIn K mainGlobals "BestError" = some (some (.ref c_BestError)))
    (K_BestError : PySem.W.keepIn K (.ref c_BestError) = true)
    (X_BestError : PySem.W.excIn K c_BestError veT "ValueError.__new__" = true)
    (S_BestError : PySem.W.subIn K (.ref c_BestError) (.type "BaseException") = some true)
    (T_BestError : PySem.W.typeIn K (.ref c_BestError) = some (.type "type"))
    (I_BestError : PySem.W.isClsIn K c_BestError = true)
    (B_NoTable : PySem.W.nsIn K mainGlobals "NoTable" = some (some (.ref c_NoTable)))
    (K_NoTable : PySem.W.keepIn K (.ref c_NoTable) = true)
    (X_NoTable : PySem.W.excIn K c_NoTable veT "ValueError.__new__" = true)
    (S_NoTable : PySem.W.subIn K (.ref c_NoTable) (.type "BaseException") = some true)
    (T_NoTable : PySem.W.typeIn K (.ref c_NoTable) = some (.type "type"))
    (I_NoTable : PySem.W.isClsIn K c_NoTable = true)
    (B_NoRatio : PySem.W.nsIn K mainGlobals "NoRatio" = some (some (.ref c_NoRatio)))
    (K_NoRatio : PySem.W.keepIn K (.ref c_NoRatio) = true)
    (X_NoRatio : PySem.W.excIn K c_NoRatio veT "ValueError.__new__" = true)
    (S_NoRatio : PySem.W.subIn K (.ref c_NoRatio) (.type "BaseException") = some true)
    (T_NoRatio : PySem.W.typeIn K (.ref c_NoRatio) = some (.type "type"))
    (I_NoRatio : PySem.W.isClsIn K c_NoRatio = true)
    (e_NoTable_BestError : PySem.W.subIn K (.ref c_NoTable) (.ref c_BestError) = some true)
    (yga_NoTable : PySem.W.findIn K (.ref c_NoTable) "__getattribute__" = some (some (.builtin "BaseException.__getattribute__")))
    (ygg_NoTable : PySem.W.findIn K (.ref c_NoTable) "__getattr__" = some none)
    (yhh_NoTable : PySem.W.hasDictIn K c_NoTable = true)
    (ycl_NoTable : PySem.W.findIn K (.ref c_NoTable) "__class__" = some (some (.builtin "object.__class__")))
    (ymo_NoTable : PySem.W.mroIn K c_NoTable (.type "object") = some true)
    (ysp_NoTable : PySem.W.specialIn K (.builtin "object.__class__") "__get__" = some (some (.builtin "getset_descriptor.__get__")))
    (ytk_NoTable : PySem.W.takesIn K (.builtin "object.__class__") = some true)
    (q_NoTable_ValueError : PySem.W.subIn K (.ref c_NoTable) (.type "ValueError") = some true)
    (g_MOST_BOUNDS : PySem.W.nsIn K mainGlobals "MOST_BOUNDS" = some (some (.int 6 t_MOST_BOUNDS)))
    (g_MOST_PARTS : PySem.W.nsIn K mainGlobals "MOST_PARTS" = some (some (.int 6 t_MOST_PARTS)))
    (B_NOUGHT : PySem.W.nsIn K mainGlobals "NOUGHT" = some (some (.ref o_NOUGHT)))
    (L_NOUGHT : K.lookup o_NOUGHT = some ⟨.type "tuple", od_NOUGHT, .seq #[.int 0 tu_NOUGHT_0, .int 1 tu_NOUGHT_1] sq_NOUGHT, sl_NOUGHT⟩)
    (z_ValueError : PySem.W.nsIn K mainGlobals "ValueError" = some none)
    (z_abs : PySem.W.nsIn K mainGlobals "abs" = some none)
    (z_all : PySem.W.nsIn K mainGlobals "all" = some none)
    (z_any : PySem.W.nsIn K mainGlobals "any" = some none)
    (z_bool : PySem.W.nsIn K mainGlobals "bool" = some none)
    (z_int : PySem.W.nsIn K mainGlobals "int" = some none)
    (z_isinstance : PySem.W.nsIn K mainGlobals "isinstance" = some none)
    (z_len : PySem.W.nsIn K mainGlobals "len" = some none)
    (z_list : PySem.W.nsIn K mainGlobals "list" = some none)
    (z_range : PySem.W.nsIn K mainGlobals "range" = some none)
    (z_zip : PySem.W.nsIn K mainGlobals "zip" = some none)
    : ∃ d : Ad, Txt K mg d ∧ d.a_law = fa ∧ ∀ (s : Shared) (u : Value), BindsTo s d.f_law ⟨[u], []⟩ [("_law_script", u)] := by
  have e : f_law = fa := Value.ref.inj (Option.some.inj ((PySem.W.mg_of X G A_law).symm.trans hfa))
  subst e
  refine ⟨{
    a_common := f_common
    f_common := PySem.W.fnOf "common" "common" (defArgs s_common) (defBody s_common) (defScope s_common) .none kV_common dc_common pm_common an_common cd_common ct_common
    a_ratio := f_ratio
    f_ratio := PySem.W.fnOf "ratio" "ratio" (defArgs s_ratio) (defBody s_ratio) (defScope s_ratio) .none kV_ratio dc_ratio pm_ratio an_ratio cd_ratio ct_ratio
    a_plus := f_plus
    f_plus := PySem.W.fnOf "plus" "plus" (defArgs s_plus) (defBody s_plus) (defScope s_plus) .none kV_plus dc_plus pm_plus an_plus cd_plus ct_plus
    a_minus := f_minus
    f_minus := PySem.W.fnOf "minus" "minus" (defArgs s_minus) (defBody s_minus) (defScope s_minus) .none kV_minus dc_minus pm_minus an_minus cd_minus ct_minus
    a_times := f_times
    f_times := PySem.W.fnOf "times" "times" (defArgs s_times) (defBody s_times) (defScope s_times) .none kV_times dc_times pm_times an_times cd_times ct_times
    a_over := f_over
    f_over := PySem.W.fnOf "over" "over" (defArgs s_over) (defBody s_over) (defScope s_over) .none kV_over dc_over pm_over an_over cd_over ct_over
    a_is_less := f_is_less
    f_is_less := PySem.W.fnOf "is_less" "is_less" (defArgs s_is_less) (defBody s_is_less) (defScope s_is_less) .none kV_is_less dc_is_less pm_is_less an_is_less cd_is_less ct_is_less
    a_dot := f_dot
    f_dot := PySem.W.fnOf "dot" "dot" (defArgs s_dot) (defBody s_dot) (defScope s_dot) .none kV_dot dc_dot pm_dot an_dot cd_dot ct_dot
    a_look_program := f_look_program
    f_look_program := PySem.W.fnOf "look_program" "look_program" (defArgs s_look_program) (defBody s_look_program) (defScope s_look_program) .none kV_look_program dc_look_program pm_look_program an_look_program cd_look_program ct_look_program
    a_first_sheet := f_first_sheet
    f_first_sheet := PySem.W.fnOf "first_sheet" "first_sheet" (defArgs s_first_sheet) (defBody s_first_sheet) (defScope s_first_sheet) .none kV_first_sheet dc_first_sheet pm_first_sheet an_first_sheet cd_first_sheet ct_first_sheet
    a_with_goal := f_with_goal
    f_with_goal := PySem.W.fnOf "with_goal" "with_goal" (defArgs s_with_goal) (defBody s_with_goal) (defScope s_with_goal) .none kV_with_goal dc_with_goal pm_with_goal an_with_goal cd_with_goal ct_with_goal
    a_clear_helpers := f_clear_helpers
    f_clear_helpers := PySem.W.fnOf "clear_helpers" "clear_helpers" (defArgs s_clear_helpers) (defBody s_clear_helpers) (defScope s_clear_helpers) .none kV_clear_helpers dc_clear_helpers pm_clear_helpers an_clear_helpers cd_clear_helpers ct_clear_helpers
    a_solved := f_solved
    f_solved := PySem.W.fnOf "solved" "solved" (defArgs s_solved) (defBody s_solved) (defScope s_solved) .none kV_solved dc_solved pm_solved an_solved cd_solved ct_solved
    a_ray := f_ray
    f_ray := PySem.W.fnOf "ray" "ray" (defArgs s_ray) (defBody s_ray) (defScope s_ray) .none kV_ray dc_ray pm_ray an_ray cd_ray ct_ray
    a_keeps := f_keeps
    f_keeps := PySem.W.fnOf "keeps" "keeps" (defArgs s_keeps) (defBody s_keeps) (defScope s_keeps) .none kV_keeps dc_keeps pm_keeps an_keeps cd_keeps ct_keeps
    a_turned := f_turned
    f_turned := PySem.W.fnOf "turned" "turned" (defArgs s_turned) (defBody s_turned) (defScope s_turned) .none kV_turned dc_turned pm_turned an_turned cd_turned ct_turned
    a_are_prices_of := f_are_prices_of
    f_are_prices_of := PySem.W.fnOf "are_prices_of" "are_prices_of" (defArgs s_are_prices_of) (defBody s_are_prices_of) (defScope s_are_prices_of) .none kV_are_prices_of dc_are_prices_of pm_are_prices_of an_are_prices_of cd_are_prices_of ct_are_prices_of
    a_law_cell := f_law_cell
    f_law_cell := PySem.W.fnOf "_law_cell" "_law_cell" (defArgs s_law_cell) (defBody s_law_cell) (defScope s_law_cell) .none kV_law_cell dc_law_cell pm_law_cell an_law_cell cd_law_cell ct_law_cell
    a_law_mix := f_law_mix
    f_law_mix := PySem.W.fnOf "_law_mix" "_law_mix" (defArgs s_law_mix) (defBody s_law_mix) (defScope s_law_mix) .none kV_law_mix dc_law_mix pm_law_mix an_law_mix cd_law_mix ct_law_mix
    a_law_ratio := f_law_ratio
    f_law_ratio := PySem.W.fnOf "_law_ratio" "_law_ratio" (defArgs s_law_ratio) (defBody s_law_ratio) (defScope s_law_ratio) .none kV_law_ratio dc_law_ratio pm_law_ratio an_law_ratio cd_law_ratio ct_law_ratio
    a_law_sum := f_law_sum
    f_law_sum := PySem.W.fnOf "_law_sum" "_law_sum" (defArgs s_law_sum) (defBody s_law_sum) (defScope s_law_sum) .none kV_law_sum dc_law_sum pm_law_sum an_law_sum cd_law_sum ct_law_sum
    a_law_order := f_law_order
    f_law_order := PySem.W.fnOf "_law_order" "_law_order" (defArgs s_law_order) (defBody s_law_order) (defScope s_law_order) .none kV_law_order dc_law_order pm_law_order an_law_order cd_law_order ct_law_order
    a_law_program := f_law_program
    f_law_program := PySem.W.fnOf "_law_program" "_law_program" (defArgs s_law_program) (defBody s_law_program) (defScope s_law_program) .none kV_law_program dc_law_program pm_law_program an_law_program cd_law_program ct_law_program
    a_law_kept := f_law_kept
    f_law_kept := PySem.W.fnOf "_law_kept" "_law_kept" (defArgs s_law_kept) (defBody s_law_kept) (defScope s_law_kept) .none kV_law_kept dc_law_kept pm_law_kept an_law_kept cd_law_kept ct_law_kept
    a_law_column := f_law_column
    f_law_column := PySem.W.fnOf "_law_column" "_law_column" (defArgs s_law_column) (defBody s_law_column) (defScope s_law_column) .none kV_law_column dc_law_column pm_law_column an_law_column cd_law_column ct_law_column
    a_law_pays := f_law_pays
    f_law_pays := PySem.W.fnOf "_law_pays" "_law_pays" (defArgs s_law_pays) (defBody s_law_pays) (defScope s_law_pays) .none kV_law_pays dc_law_pays pm_law_pays an_law_pays cd_law_pays ct_law_pays
    a_law_refused := f_law_refused
    f_law_refused := PySem.W.fnOf "_law_refused" "_law_refused" (defArgs s_law_refused) (defBody s_law_refused) (defScope s_law_refused) .none kV_law_refused dc_law_refused pm_law_refused an_law_refused cd_law_refused ct_law_refused
    a_law_turned := f_law_turned
    f_law_turned := PySem.W.fnOf "_law_turned" "_law_turned" (defArgs s_law_turned) (defBody s_law_turned) (defScope s_law_turned) .none kV_law_turned dc_law_turned pm_law_turned an_law_turned cd_law_turned ct_law_turned
    a_law := f_law
    f_law := PySem.W.fnOf "law" "law" (defArgs s_law) (defBody s_law) (defScope s_law) .none kV_law dc_law pm_law an_law cd_law ct_law
    a_Sheet_init := f_Sheet_init
    f_Sheet_init := PySem.W.fnOf "__init__" "Sheet.__init__" (defArgs s_Sheet_init) (defBody s_Sheet_init) (defScope s_Sheet_init) .none kV_Sheet_init dc_Sheet_init pm_Sheet_init an_Sheet_init cd_Sheet_init ct_Sheet_init
    a_Sheet_turn := f_Sheet_turn
    f_Sheet_turn := PySem.W.fnOf "turn" "Sheet.turn" (defArgs s_Sheet_turn) (defBody s_Sheet_turn) (defScope s_Sheet_turn) .none kV_Sheet_turn dc_Sheet_turn pm_Sheet_turn an_Sheet_turn cd_Sheet_turn ct_Sheet_turn
    a_Sheet_leaving := f_Sheet_leaving
    f_Sheet_leaving := PySem.W.fnOf "leaving" "Sheet.leaving" (defArgs s_Sheet_leaving) (defBody s_Sheet_leaving) (defScope s_Sheet_leaving) .none kV_Sheet_leaving dc_Sheet_leaving pm_Sheet_leaving an_Sheet_leaving cd_Sheet_leaving ct_Sheet_leaving
    a_Sheet_climb := f_Sheet_climb
    f_Sheet_climb := PySem.W.fnOf "climb" "Sheet.climb" (defArgs s_Sheet_climb) (defBody s_Sheet_climb) (defScope s_Sheet_climb) .none kV_Sheet_climb dc_Sheet_climb pm_Sheet_climb an_Sheet_climb cd_Sheet_climb ct_Sheet_climb
    a_Sheet_worth := f_Sheet_worth
    f_Sheet_worth := PySem.W.fnOf "worth" "Sheet.worth" (defArgs s_Sheet_worth) (defBody s_Sheet_worth) (defScope s_Sheet_worth) .none kV_Sheet_worth dc_Sheet_worth pm_Sheet_worth an_Sheet_worth cd_Sheet_worth ct_Sheet_worth
    c_Sheet := c_Sheet
    c_BestError := c_BestError
    c_NoTable := c_NoTable
    c_NoRatio := c_NoRatio
    t_MOST_BOUNDS := t_MOST_BOUNDS
    t_MOST_PARTS := t_MOST_PARTS
    o_NOUGHT := o_NOUGHT
    }, {
    F_common := fun_mk (st := s_common) L_common C_common K_common
    p_common := (fun_mk (st := s_common) L_common C_common K_common).binds fun _ _ _ _ _ _ us hl => match us, hl with | [_, _], _ => rfl
    g_common := PySem.W.mg_of X G A_common
    k_common := K_common
    F_ratio := fun_mk (st := s_ratio) L_ratio C_ratio K_ratio
    p_ratio := (fun_mk (st := s_ratio) L_ratio C_ratio K_ratio).binds fun _ _ _ _ _ _ us hl => match us, hl with | [_, _], _ => rfl
    g_ratio := PySem.W.mg_of X G A_ratio
    k_ratio := K_ratio
    F_plus := fun_mk (st := s_plus) L_plus C_plus K_plus
    p_plus := (fun_mk (st := s_plus) L_plus C_plus K_plus).binds fun _ _ _ _ _ _ us hl => match us, hl with | [_, _], _ => rfl
    g_plus := PySem.W.mg_of X G A_plus
    k_plus := K_plus
    F_minus := fun_mk (st := s_minus) L_minus C_minus K_minus
    p_minus := (fun_mk (st := s_minus) L_minus C_minus K_minus).binds fun _ _ _ _ _ _ us hl => match us, hl with | [_, _], _ => rfl
    g_minus := PySem.W.mg_of X G A_minus
    k_minus := K_minus
    F_times := fun_mk (st := s_times) L_times C_times K_times
    p_times := (fun_mk (st := s_times) L_times C_times K_times).binds fun _ _ _ _ _ _ us hl => match us, hl with | [_, _], _ => rfl
    g_times := PySem.W.mg_of X G A_times
    k_times := K_times
    F_over := fun_mk (st := s_over) L_over C_over K_over
    p_over := (fun_mk (st := s_over) L_over C_over K_over).binds fun _ _ _ _ _ _ us hl => match us, hl with | [_, _], _ => rfl
    g_over := PySem.W.mg_of X G A_over
    k_over := K_over
    F_is_less := fun_mk (st := s_is_less) L_is_less C_is_less K_is_less
    p_is_less := (fun_mk (st := s_is_less) L_is_less C_is_less K_is_less).binds fun _ _ _ _ _ _ us hl => match us, hl with | [_, _], _ => rfl
    g_is_less := PySem.W.mg_of X G A_is_less
    k_is_less := K_is_less
    F_dot := fun_mk (st := s_dot) L_dot C_dot K_dot
    p_dot := (fun_mk (st := s_dot) L_dot C_dot K_dot).binds fun _ _ _ _ _ _ us hl => match us, hl with | [_, _], _ => rfl
    g_dot := PySem.W.mg_of X G A_dot
    k_dot := K_dot
    F_look_program := fun_mk (st := s_look_program) L_look_program C_look_program K_look_program
    p_look_program := (fun_mk (st := s_look_program) L_look_program C_look_program K_look_program).binds fun _ _ _ _ _ _ us hl => match us, hl with | [_, _, _], _ => rfl
    g_look_program := PySem.W.mg_of X G A_look_program
    k_look_program := K_look_program
    F_first_sheet := fun_mk (st := s_first_sheet) L_first_sheet C_first_sheet K_first_sheet
    p_first_sheet := (fun_mk (st := s_first_sheet) L_first_sheet C_first_sheet K_first_sheet).binds fun _ _ _ _ _ _ us hl => match us, hl with | [_, _, _], _ => rfl
    g_first_sheet := PySem.W.mg_of X G A_first_sheet
    k_first_sheet := K_first_sheet
    F_with_goal := fun_mk (st := s_with_goal) L_with_goal C_with_goal K_with_goal
    p_with_goal := (fun_mk (st := s_with_goal) L_with_goal C_with_goal K_with_goal).binds fun _ _ _ _ _ _ us hl => match us, hl with | [_, _, _], _ => rfl
    g_with_goal := PySem.W.mg_of X G A_with_goal
    k_with_goal := K_with_goal
    F_clear_helpers := fun_mk (st := s_clear_helpers) L_clear_helpers C_clear_helpers K_clear_helpers
    p_clear_helpers := (fun_mk (st := s_clear_helpers) L_clear_helpers C_clear_helpers K_clear_helpers).binds fun _ _ _ _ _ _ us hl => match us, hl with | [_, _], _ => rfl
    g_clear_helpers := PySem.W.mg_of X G A_clear_helpers
    k_clear_helpers := K_clear_helpers
    F_solved := fun_mk (st := s_solved) L_solved C_solved K_solved
    p_solved := (fun_mk (st := s_solved) L_solved C_solved K_solved).binds fun _ _ _ _ _ _ us hl => match us, hl with | [_, _, _], _ => rfl
    g_solved := PySem.W.mg_of X G A_solved
    k_solved := K_solved
    F_ray := fun_mk (st := s_ray) L_ray C_ray K_ray
    p_ray := (fun_mk (st := s_ray) L_ray C_ray K_ray).binds fun _ _ _ _ _ _ us hl => match us, hl with | [_, _, _], _ => rfl
    g_ray := PySem.W.mg_of X G A_ray
    k_ray := K_ray
    F_keeps := fun_mk (st := s_keeps) L_keeps C_keeps K_keeps
    p_keeps := (fun_mk (st := s_keeps) L_keeps C_keeps K_keeps).binds fun _ _ _ _ _ _ us hl => match us, hl with | [_, _, _], _ => rfl
    g_keeps := PySem.W.mg_of X G A_keeps
    k_keeps := K_keeps
    F_turned := fun_mk (st := s_turned) L_turned C_turned K_turned
    p_turned := (fun_mk (st := s_turned) L_turned C_turned K_turned).binds fun _ _ _ _ _ _ us hl => match us, hl with | [_, _], _ => rfl
    g_turned := PySem.W.mg_of X G A_turned
    k_turned := K_turned
    F_are_prices_of := fun_mk (st := s_are_prices_of) L_are_prices_of C_are_prices_of K_are_prices_of
    p_are_prices_of := (fun_mk (st := s_are_prices_of) L_are_prices_of C_are_prices_of K_are_prices_of).binds fun _ _ _ _ _ _ us hl => match us, hl with | [_, _, _], _ => rfl
    g_are_prices_of := PySem.W.mg_of X G A_are_prices_of
    k_are_prices_of := K_are_prices_of
    F_law_cell := fun_mk (st := s_law_cell) L_law_cell C_law_cell K_law_cell
    p_law_cell := (fun_mk (st := s_law_cell) L_law_cell C_law_cell K_law_cell).binds fun _ _ _ _ _ _ us hl => match us, hl with | [_, _], _ => rfl
    g_law_cell := PySem.W.mg_of X G A_law_cell
    k_law_cell := K_law_cell
    F_law_mix := fun_mk (st := s_law_mix) L_law_mix C_law_mix K_law_mix
    p_law_mix := (fun_mk (st := s_law_mix) L_law_mix C_law_mix K_law_mix).binds fun _ _ _ _ _ _ us hl => match us, hl with | [_, _], _ => rfl
    g_law_mix := PySem.W.mg_of X G A_law_mix
    k_law_mix := K_law_mix
    F_law_ratio := fun_mk (st := s_law_ratio) L_law_ratio C_law_ratio K_law_ratio
    p_law_ratio := (fun_mk (st := s_law_ratio) L_law_ratio C_law_ratio K_law_ratio).binds fun _ _ _ _ _ _ us hl => match us, hl with | [_], _ => rfl
    g_law_ratio := PySem.W.mg_of X G A_law_ratio
    k_law_ratio := K_law_ratio
    F_law_sum := fun_mk (st := s_law_sum) L_law_sum C_law_sum K_law_sum
    p_law_sum := (fun_mk (st := s_law_sum) L_law_sum C_law_sum K_law_sum).binds fun _ _ _ _ _ _ us hl => match us, hl with | [_, _], _ => rfl
    g_law_sum := PySem.W.mg_of X G A_law_sum
    k_law_sum := K_law_sum
    F_law_order := fun_mk (st := s_law_order) L_law_order C_law_order K_law_order
    p_law_order := (fun_mk (st := s_law_order) L_law_order C_law_order K_law_order).binds fun _ _ _ _ _ _ us hl => match us, hl with | [_, _], _ => rfl
    g_law_order := PySem.W.mg_of X G A_law_order
    k_law_order := K_law_order
    F_law_program := fun_mk (st := s_law_program) L_law_program C_law_program K_law_program
    p_law_program := (fun_mk (st := s_law_program) L_law_program C_law_program K_law_program).binds fun _ _ _ _ _ _ us hl => match us, hl with | [_], _ => rfl
    g_law_program := PySem.W.mg_of X G A_law_program
    k_law_program := K_law_program
    F_law_kept := fun_mk (st := s_law_kept) L_law_kept C_law_kept K_law_kept
    p_law_kept := (fun_mk (st := s_law_kept) L_law_kept C_law_kept K_law_kept).binds fun _ _ _ _ _ _ us hl => match us, hl with | [_, _, _], _ => rfl
    g_law_kept := PySem.W.mg_of X G A_law_kept
    k_law_kept := K_law_kept
    F_law_column := fun_mk (st := s_law_column) L_law_column C_law_column K_law_column
    p_law_column := (fun_mk (st := s_law_column) L_law_column C_law_column K_law_column).binds fun _ _ _ _ _ _ us hl => match us, hl with | [_, _], _ => rfl
    g_law_column := PySem.W.mg_of X G A_law_column
    k_law_column := K_law_column
    F_law_pays := fun_mk (st := s_law_pays) L_law_pays C_law_pays K_law_pays
    p_law_pays := (fun_mk (st := s_law_pays) L_law_pays C_law_pays K_law_pays).binds fun _ _ _ _ _ _ us hl => match us, hl with | [_, _, _], _ => rfl
    g_law_pays := PySem.W.mg_of X G A_law_pays
    k_law_pays := K_law_pays
    F_law_refused := fun_mk (st := s_law_refused) L_law_refused C_law_refused K_law_refused
    p_law_refused := (fun_mk (st := s_law_refused) L_law_refused C_law_refused K_law_refused).binds fun _ _ _ _ _ _ us hl => match us, hl with | [_, _, _], _ => rfl
    g_law_refused := PySem.W.mg_of X G A_law_refused
    k_law_refused := K_law_refused
    F_law_turned := fun_mk (st := s_law_turned) L_law_turned C_law_turned K_law_turned
    p_law_turned := (fun_mk (st := s_law_turned) L_law_turned C_law_turned K_law_turned).binds fun _ _ _ _ _ _ us hl => match us, hl with | [_, _, _], _ => rfl
    g_law_turned := PySem.W.mg_of X G A_law_turned
    k_law_turned := K_law_turned
    F_law := fun_mk (st := s_law) L_law C_law K_law
    p_law := (fun_mk (st := s_law) L_law C_law K_law).binds fun _ _ _ _ _ _ us hl => match us, hl with | [_], _ => rfl
    g_law := PySem.W.mg_of X G A_law
    k_law := K_law
    F_Sheet_init := fun_mk (st := s_Sheet_init) L_Sheet_init C_Sheet_init K_Sheet_init
    p_Sheet_init := (fun_mk (st := s_Sheet_init) L_Sheet_init C_Sheet_init K_Sheet_init).binds fun _ _ _ _ _ _ us hl => match us, hl with | [_, _, _, _], _ => rfl
    F_Sheet_turn := fun_mk (st := s_Sheet_turn) L_Sheet_turn C_Sheet_turn K_Sheet_turn
    p_Sheet_turn := (fun_mk (st := s_Sheet_turn) L_Sheet_turn C_Sheet_turn K_Sheet_turn).binds fun _ _ _ _ _ _ us hl => match us, hl with | [_, _, _], _ => rfl
    h_Sheet_turn := ⟨A_Sheet_turn, J_Sheet_turn, K_Sheet_turn⟩
    F_Sheet_leaving := fun_mk (st := s_Sheet_leaving) L_Sheet_leaving C_Sheet_leaving K_Sheet_leaving
    p_Sheet_leaving := (fun_mk (st := s_Sheet_leaving) L_Sheet_leaving C_Sheet_leaving K_Sheet_leaving).binds fun _ _ _ _ _ _ us hl => match us, hl with | [_, _], _ => rfl
    h_Sheet_leaving := ⟨A_Sheet_leaving, J_Sheet_leaving, K_Sheet_leaving⟩
    F_Sheet_climb := fun_mk (st := s_Sheet_climb) L_Sheet_climb C_Sheet_climb K_Sheet_climb
    p_Sheet_climb := (fun_mk (st := s_Sheet_climb) L_Sheet_climb C_Sheet_climb K_Sheet_climb).binds fun _ _ _ _ _ _ us hl => match us, hl with | [_, _], _ => rfl
    h_Sheet_climb := ⟨A_Sheet_climb, J_Sheet_climb, K_Sheet_climb⟩
    F_Sheet_worth := fun_mk (st := s_Sheet_worth) L_Sheet_worth C_Sheet_worth K_Sheet_worth
    p_Sheet_worth := (fun_mk (st := s_Sheet_worth) L_Sheet_worth C_Sheet_worth K_Sheet_worth).binds fun _ _ _ _ _ _ us hl => match us, hl with | [_, _], _ => rfl
    h_Sheet_worth := ⟨A_Sheet_worth, J_Sheet_worth, K_Sheet_worth⟩
    g_Sheet := PySem.W.mg_of X G B_Sheet
    c_Sheet := ⟨pg_Sheet, hd_Sheet, po_Sheet, sa_Sheet⟩
    m_Sheet := ⟨mk_Sheet, A_Sheet_init, J_Sheet_init, kc_Sheet⟩
    n_Sheet_lines := n_Sheet_lines
    n_Sheet_basis := n_Sheet_basis
    n_Sheet_wide := n_Sheet_wide
    g_BestError := PySem.W.mg_of X G B_BestError
    k_BestError := K_BestError
    x_BestError := X_BestError
    s_BestError := S_BestError
    t_BestError := T_BestError
    i_BestError := I_BestError
    g_NoTable := PySem.W.mg_of X G B_NoTable
    k_NoTable := K_NoTable
    x_NoTable := X_NoTable
    s_NoTable := S_NoTable
    t_NoTable := T_NoTable
    i_NoTable := I_NoTable
    g_NoRatio := PySem.W.mg_of X G B_NoRatio
    k_NoRatio := K_NoRatio
    x_NoRatio := X_NoRatio
    s_NoRatio := S_NoRatio
    t_NoRatio := T_NoRatio
    i_NoRatio := I_NoRatio
    e_NoTable_BestError := exm_own S_BestError I_BestError T_BestError e_NoTable_BestError
    y_NoTable := ⟨yga_NoTable, ygg_NoTable, S_NoTable, yhh_NoTable, ycl_NoTable, ysp_NoTable, ytk_NoTable, ymo_NoTable⟩
    q_NoTable_NoTable := kit_self
    q_NoTable_ValueError := kit_bty (by decide +kernel) q_NoTable_ValueError
    g_MOST_BOUNDS := PySem.W.mg_of X G g_MOST_BOUNDS
    g_MOST_PARTS := PySem.W.mg_of X G g_MOST_PARTS
    g_NOUGHT := PySem.W.mg_of X G B_NOUGHT
    l_NOUGHT := .inr ⟨_, _, _, L_NOUGHT, rfl, rfl, sz (by simp), .cons ⟨_, rfl⟩ (.cons ⟨_, rfl⟩ (.nil))⟩
    b_ValueError := PySem.W.mg_none_of X G z_ValueError
    b_abs := PySem.W.mg_none_of X G z_abs
    b_all := PySem.W.mg_none_of X G z_all
    b_any := PySem.W.mg_none_of X G z_any
    b_bool := PySem.W.mg_none_of X G z_bool
    b_int := PySem.W.mg_none_of X G z_int
    b_isinstance := PySem.W.mg_none_of X G z_isinstance
    b_len := PySem.W.mg_none_of X G z_len
    b_list := PySem.W.mg_none_of X G z_list
    b_range := PySem.W.mg_none_of X G z_range
    b_zip := PySem.W.mg_none_of X G z_zip
    }, rfl, fun s u => .of_eq rfl⟩
theorem walk {l : PySem.W.OpenLaw} {q : Program} {loose : List Str} {XP : (Str → Option Value) → Heap → Prop} {YP : World → Heap → Prop} {d : DefRec} {K : Params → PySem.W.Frag} (hn : l.most = some 63) (hdf : d.params.defaults = [])
    (hY : ∀ (w : World) (h : Heap), YP w h → (K w.params).In h)
    (F : ∀ (w : World) (mg : Str → Option Value) (fa : Addr) (h : Heap), (K w.params).In h → h.Ns mainGlobals mg → mg d.name = some (.ref fa) →
      ∃ d : Ad, Txt (K w.params) mg d ∧ d.a_law = fa ∧ ∀ (s : Shared) (u : Value), BindsTo s d.f_law ⟨[u], []⟩ [("_law_script", u)]) :
    PySem.W.WalkO q loose XP YP l.row.toRowW d [] (fun f vs => PySem.call f vs) :=
  L2.walk_of (n := 63) (k := 9) (x := "_law_script") (CX := fun _ => CX0) (sp := fun w => Sp_law (K w.params)) hn (by decide) hdf ⟨rfl, by decide, by decide⟩ hY
    (fun w mg fa h KX G hmg => by
      obtain ⟨dd, T, e, hb⟩ := F w mg fa h KX G hmg
      subst e
      exact ⟨dd.f_law, hb, fun base _ _ => ok_law T⟩)
    (fun w H a ns hl hO hS => Sp_law.mk (ns := ns) (.lst hS (dpAll_ints ns)) (fun _ => rfl)) fun _ _ _ _ _ z => z
end SB
open PySem PySem.W PyProof.Rows
set_option maxRecDepth 100000 in
set_option maxHeartbeats 0 in
theorem PySem.Challenge.cw_surebest_k71_reasons_looked_at_holds : PySem.Challenge.rw_surebest_k71_reasons_looked_at.Holds := by
  w_on; o_law; k_head; (case hw => w_witness2)
  k_fill
  refine SB.walk (l := PySem.Challenge.rw_surebest_k71_reasons_looked_at) rfl rfl (fun w h Y => PySem.W.kIn_of Y) ?F
  case F =>
    intro w mg fa h KX G hmg
    refine' SB.all_mk KX G hmg ?B_Sheet ?A_common ?L_common ?C_common ?K_common ?A_ratio ?L_ratio ?C_ratio ?K_ratio ?A_plus ?L_plus ?C_plus ?K_plus ?A_minus ?L_minus ?C_minus ?K_minus ?A_times ?L_times ?C_times ?K_times ?A_over ?L_over ?C_over ?K_over ?A_is_less ?L_is_less ?C_is_less ?K_is_less ?A_dot ?L_dot ?C_dot ?K_dot ?A_look_program ?L_look_program ?C_look_program ?K_look_program ?A_first_sheet ?L_first_sheet ?C_first_sheet ?K_first_sheet ?A_with_goal ?L_with_goal ?C_with_goal ?K_with_goal ?A_clear_helpers ?L_clear_helpers ?C_clear_helpers ?K_clear_helpers ?A_solved ?L_solved ?C_solved ?K_solved ?A_ray ?L_ray ?C_ray ?K_ray ?A_keeps ?L_keeps ?C_keeps ?K_keeps ?A_turned ?L_turned ?C_turned ?K_turned ?A_are_prices_of ?L_are_prices_of ?C_are_prices_of ?K_are_prices_of ?A_law_cell ?L_law_cell ?C_law_cell ?K_law_cell ?A_law_mix ?L_law_mix ?C_law_mix ?K_law_mix ?A_law_ratio ?L_law_ratio ?C_law_ratio ?K_law_ratio ?A_law_sum ?L_law_sum ?C_law_sum ?K_law_sum ?A_law_order ?L_law_order ?C_law_order ?K_law_order ?A_law_program ?L_law_program ?C_law_program ?K_law_program ?A_law_kept ?L_law_kept ?C_law_kept ?K_law_kept ?A_law_column ?L_law_column ?C_law_column ?K_law_column ?A_law_pays ?L_law_pays ?C_law_pays ?K_law_pays ?A_law_refused ?L_law_refused ?C_law_refused ?K_law_refused ?A_law_turned ?L_law_turned ?C_law_turned ?K_law_turned ?A_law ?L_law ?C_law ?K_law ?A_Sheet_init ?J_Sheet_init ?L_Sheet_init ?C_Sheet_init ?K_Sheet_init ?A_Sheet_turn ?J_Sheet_turn ?L_Sheet_turn ?C_Sheet_turn ?K_Sheet_turn ?A_Sheet_leaving ?J_Sheet_leaving ?L_Sheet_leaving ?C_Sheet_leaving ?K_Sheet_leaving ?A_Sheet_climb ?J_Sheet_climb ?L_Sheet_climb ?C_Sheet_climb ?K_Sheet_climb ?A_Sheet_worth ?J_Sheet_worth ?L_Sheet_worth ?C_Sheet_worth ?K_Sheet_worth ?pg_Sheet ?hd_Sheet ?po_Sheet ?sa_Sheet ?mk_Sheet ?kc_Sheet ?n_Sheet_lines ?n_Sheet_basis ?n_Sheet_wide ?B_BestError ?K_BestError ?X_BestError ?S_BestError ?T_BestError ?I_BestError ?B_NoTable ?K_NoTable ?X_NoTable ?S_NoTable ?T_NoTable ?I_NoTable ?B_NoRatio ?K_NoRatio ?X_NoRatio ?S_NoRatio ?T_NoRatio ?I_NoRatio ?e_NoTable_BestError ?yga_NoTable ?ygg_NoTable ?yhh_NoTable ?ycl_NoTable ?ymo_NoTable ?ysp_NoTable ?ytk_NoTable ?q_NoTable_ValueError ?g_MOST_BOUNDS ?g_MOST_PARTS ?B_NOUGHT ?L_NOUGHT ?z_ValueError ?z_abs ?z_all ?z_any ?z_bool ?z_int ?z_isinstance ?z_len ?z_list ?z_range ?z_zip
    (case B_Sheet => k_is)
    (case A_common => k_is)
    (case L_common => k_is)
    (case C_common => k_is)
    (case K_common => k_is)
    (case A_ratio => k_is)
    (case L_ratio => k_is)
    (case C_ratio => k_is)
    (case K_ratio => k_is)
    (case A_plus => k_is)
    (case L_plus => k_is)
    (case C_plus => k_is)
    (case K_plus => k_is)
    (case A_minus => k_is)
    (case L_minus => k_is)
    (case C_minus => k_is)
    (case K_minus => k_is)
    (case A_times => k_is)
    (case L_times => k_is)
    (case C_times => k_is)
    (case K_times => k_is)
    (case A_over => k_is)
    (case L_over => k_is)
    (case C_over => k_is)
    (case K_over => k_is)
    (case A_is_less => k_is)
    (case L_is_less => k_is)
    (case C_is_less => k_is)
    (case K_is_less => k_is)
    (case A_dot => k_is)
    (case L_dot => k_is)
    (case C_dot => k_is)
    (case K_dot => k_is)
    (case A_look_program => k_is)
    (case L_look_program => k_is)
    (case C_look_program => k_is)
    (case K_look_program => k_is)
    (case A_first_sheet => k_is)
    (case L_first_sheet => k_is)
    (case C_first_sheet => k_is)
    (case K_first_sheet => k_is)
    (case A_with_goal => k_is)
    (case L_with_goal => k_is)
    (case C_with_goal => k_is)
    (case K_with_goal => k_is)
    (case A_clear_helpers => k_is)
    (case L_clear_helpers => k_is)
    (case C_clear_helpers => k_is)
    (case K_clear_helpers => k_is)
    (case A_solved => k_is)
    (case L_solved => k_is)
    (case C_solved => k_is)
    (case K_solved => k_is)
    (case A_ray => k_is)
    (case L_ray => k_is)
    (case C_ray => k_is)
    (case K_ray => k_is)
    (case A_keeps => k_is)
    (case L_keeps => k_is)
    (case C_keeps => k_is)
    (case K_keeps => k_is)
    (case A_turned => k_is)
    (case L_turned => k_is)
    (case C_turned => k_is)
    (case K_turned => k_is)
    (case A_are_prices_of => k_is)
    (case L_are_prices_of => k_is)
    (case C_are_prices_of => k_is)
    (case K_are_prices_of => k_is)
    (case A_law_cell => k_is)
    (case L_law_cell => k_is)
    (case C_law_cell => k_is)
    (case K_law_cell => k_is)
    (case A_law_mix => k_is)
    (case L_law_mix => k_is)
    (case C_law_mix => k_is)
    (case K_law_mix => k_is)
    (case A_law_ratio => k_is)
    (case L_law_ratio => k_is)
    (case C_law_ratio => k_is)
    (case K_law_ratio => k_is)
    (case A_law_sum => k_is)
    (case L_law_sum => k_is)
    (case C_law_sum => k_is)
    (case K_law_sum => k_is)
    (case A_law_order => k_is)
    (case L_law_order => k_is)
    (case C_law_order => k_is)
    (case K_law_order => k_is)
    (case A_law_program => k_is)
    (case L_law_program => k_is)
    (case C_law_program => k_is)
    (case K_law_program => k_is)
    (case A_law_kept => k_is)
    (case L_law_kept => k_is)
    (case C_law_kept => k_is)
    (case K_law_kept => k_is)
    (case A_law_column => k_is)
    (case L_law_column => k_is)
    (case C_law_column => k_is)
    (case K_law_column => k_is)
    (case A_law_pays => k_is)
    (case L_law_pays => k_is)
    (case C_law_pays => k_is)
    (case K_law_pays => k_is)
    (case A_law_refused => k_is)
    (case L_law_refused => k_is)
    (case C_law_refused => k_is)
    (case K_law_refused => k_is)
    (case A_law_turned => k_is)
    (case L_law_turned => k_is)
    (case C_law_turned => k_is)
    (case K_law_turned => k_is)
    (case A_law => k_is)
    (case L_law => k_is)
    (case C_law => k_is)
    (case K_law => k_is)
    (case A_Sheet_init => k_is)
    (case J_Sheet_init => k_is)
    (case L_Sheet_init => k_is)
    (case C_Sheet_init => k_is)
    (case K_Sheet_init => k_is)
    (case A_Sheet_turn => k_is)
    (case J_Sheet_turn => k_is)
    (case L_Sheet_turn => k_is)
    (case C_Sheet_turn => k_is)
    (case K_Sheet_turn => k_is)
    (case A_Sheet_leaving => k_is)
    (case J_Sheet_leaving => k_is)
    (case L_Sheet_leaving => k_is)
    (case C_Sheet_leaving => k_is)
    (case K_Sheet_leaving => k_is)
    (case A_Sheet_climb => k_is)
    (case J_Sheet_climb => k_is)
    (case L_Sheet_climb => k_is)
    (case C_Sheet_climb => k_is)
    (case K_Sheet_climb => k_is)
    (case A_Sheet_worth => k_is)
    (case J_Sheet_worth => k_is)
    (case L_Sheet_worth => k_is)
    (case C_Sheet_worth => k_is)
    (case K_Sheet_worth => k_is)
    (case pg_Sheet => k_is)
    (case hd_Sheet => k_is)
    (case po_Sheet => k_is)
    (case sa_Sheet => k_is)
    (case mk_Sheet => k_is)
    (case kc_Sheet => k_is)
    (case n_Sheet_lines => k_is)
    (case n_Sheet_basis => k_is)
    (case n_Sheet_wide => k_is)
    (case B_BestError => k_is)
    (case K_BestError => k_is)
    (case X_BestError => k_exc)
    (case S_BestError => k_is)
    (case T_BestError => k_is)
    (case I_BestError => k_is)
    (case B_NoTable => k_is)
    (case K_NoTable => k_is)
    (case X_NoTable => k_exc)
    (case S_NoTable => k_is)
    (case T_NoTable => k_is)
    (case I_NoTable => k_is)
    (case B_NoRatio => k_is)
    (case K_NoRatio => k_is)
    (case X_NoRatio => k_exc)
    (case S_NoRatio => k_is)
    (case T_NoRatio => k_is)
    (case I_NoRatio => k_is)
    (case e_NoTable_BestError => k_is)
    (case yga_NoTable => k_is)
    (case ygg_NoTable => k_is)
    (case yhh_NoTable => k_is)
    (case ycl_NoTable => k_is)
    (case ymo_NoTable => k_is)
    (case ysp_NoTable => k_is)
    (case ytk_NoTable => k_is)
    (case q_NoTable_ValueError => k_is)
    (case g_MOST_BOUNDS => k_is)
    (case g_MOST_PARTS => k_is)
    (case B_NOUGHT => k_is)
    (case L_NOUGHT => k_is)
    (case z_ValueError => k_is)
    (case z_abs => k_is)
    (case z_all => k_is)
    (case z_any => k_is)
    (case z_bool => k_is)
    (case z_int => k_is)
    (case z_isinstance => k_is)
    (case z_len => k_is)
    (case z_list => k_is)
    (case z_range => k_is)
    (case z_zip => k_is)
#print axioms PySem.Challenge.cw_surebest_k71_reasons_looked_at_holds
